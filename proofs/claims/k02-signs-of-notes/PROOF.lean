import PyProof.Rows.All
import Wide.All
import OpenK.AllK
import Wide.FinOn
import HandS.ForMost
import HandS.Exc
import HandS.Defaults
import HandS.MakeKwOnly
import HandS.Style
import HandS.IsInst
import HandS.SortInts
import HandS.HeadHook4
import HandS.HeadEnd
import HandS.Head2
import HandS.Codes
import HandS.Property
import HandS.ClsMeth
import HandS.HeadNt
import HandS.TupAny
import HandS.TupMul
import HandS.FStr
import PyProof.InstNe
import KE.KCallOwn
import KE.KxField
import HandS.HotCalls
import HandS.SuiteRaise
import HandS.Lambda
import HandS.ExcIs
import PyProof.ExcBaseAll.ValueError
import HandS.Sort
import HandS.SortOrd
import HandS.TupSets
import KE.KSortAsk
import HandS.OwnEq
import PyProof.EqKinds
import HandS.HeadWalk
import PySem.Challenge.RW_tiednotes_k02_whole_signs_of_notes
set_option Elab.async false
set_option linter.all false
set_option maxRecDepth 100000
set_option maxHeartbeats 4000000
/-! Xl: readings of the hand layer, step by step (own work). -/
namespace Xl
open PySem PySem.Spec PyProof.Rows L2

/-! ### heaps that grow -/
def Ex (H H' : Hp) : Prop := ∀ a o, H a = some o → H' a = some o
theorem Ex.refl (H : Hp) : Ex H H := fun _ _ h => h
theorem Ex.trans {H H1 H2 : Hp} (a : Ex H H1) (b : Ex H1 H2) : Ex H H2 := fun x o h => b x o (a x o h)
theorem Ex.new {H : Hp} {p : Addr} {o : HO} (h : H p = none) : Ex H (upd H p o) := fun a u e => by
  rw [upd_ne (ne_of_none e h)]
  exact e
theorem Ex.mut {H H' : Hp} {p : Addr} {o : HO} (e : Ex H H') (h : H p = none) : Ex H (upd H' p o) := fun a u ha => by
  rw [upd_ne (ne_of_none ha h)]
  exact e a u ha
theorem Ex.back {H H' : Hp} {p : Addr} (e : Ex H H') (h : H' p = none) : H p = none := by
  cases h1 : H p with
  | none => rfl
  | some o =>
    rw [e p o h1] at h
    cases h
theorem Ex.rd {H H' : Hp} {a : Addr} {u : HO} (e : Ex H H') (h : Rd H a u) : Rd H' a u := by
  rcases h with h | ⟨o, h⟩
  · exact Or.inl (e a _ h)
  · exact Or.inr ⟨o, e a _ h⟩
theorem Ex.l {K : PySem.W.Frag} {H H' : Hp} {a : Addr} {xs : List V} (e : Ex H H') (h : SqL K H a xs) : SqL K H' a xs := by
  rcases h with h | h
  · exact Or.inl (e.rd h)
  · exact Or.inr h
theorem Ex.t {K : PySem.W.Frag} {H H' : Hp} {a : Addr} {xs : List V} (e : Ex H H') (h : SqT K H a xs) : SqT K H' a xs := by
  rcases h with h | h
  · exact Or.inl (e.rd h)
  · exact Or.inr h
/-- the heap without what stands at l -/
def wo (H : Hp) (l : Addr) : Hp := fun b => if b = l then none else H b
theorem wo_same {H : Hp} {l : Addr} : wo H l l = none := by unfold wo; rw [if_pos rfl]
theorem wo_ne {H : Hp} {l b : Addr} (h : b ≠ l) : wo H l b = H b := by unfold wo; rw [if_neg h]
theorem wo_ex (H : Hp) (l : Addr) : Ex (wo H l) H := fun a o h => by
  by_cases e : a = l
  · subst e
    rw [wo_same] at h
    cases h
  · rwa [wo_ne e] at h
theorem wo_mono {H H' : Hp} (e : Ex H H') (l : Addr) : Ex (wo H l) (wo H' l) := fun a o h => by
  by_cases q : a = l
  · subst q
    rw [wo_same] at h
    cases h
  · rw [wo_ne q] at h ⊢
    exact e a o h
theorem wo_upd (H : Hp) (l : Addr) (o : HO) : wo (upd H l o) l = wo H l := by
  funext b
  by_cases q : b = l
  · subst q
    rw [wo_same, wo_same]
  · rw [wo_ne q, wo_ne q, upd_ne q]
theorem wo_of {H0 H : Hp} {l : Addr} (e : Ex H0 H) (n : H0 l = none) : Ex H0 (wo H l) := fun a o h => by
  rw [wo_ne (ne_of_none h n)]
  exact e a o h

/-! ### heaps in which what never changes stays -/
def Stab : HO → Bool
  | .tup _ => true
  | .ins _ _ _ => true
  | .frz _ _ => true
  | _ => false
def Im (H H' : Hp) : Prop := ∀ a o, H a = some o → Stab o = true → H' a = some o
theorem Ex.im {H H' : Hp} (e : Ex H H') : Im H H' := fun a o h _ => e a o h
theorem Im.trans {H H1 H2 : Hp} (a : Im H H1) (b : Im H1 H2) : Im H H2 := fun x o h s => b x o (a x o h s) s
theorem Im.set {H : Hp} {l : Addr} {xs : List V} {o : HO} (h : H l = some (.lst xs)) : Im H (upd H l o) := fun a u e s => by
  by_cases q : a = l
  · rw [q, h] at e
    cases e
    cases s
  · rw [upd_ne q]
    exact e
theorem Im.upd {H : Hp} {l : Addr} {u o : HO} (h : H l = some u) (hs : Stab u = false) : Im H (upd H l o) := fun a w e s => by
  by_cases q : a = l
  · rw [q, h] at e
    cases e
    rw [hs] at s
    cases s
  · rw [upd_ne q]
    exact e
theorem Im.t {K : PySem.W.Frag} {H H' : Hp} {a : Addr} {xs : List V} (e : Im H H') (h : SqT K H a xs) : SqT K H' a xs := by
  rcases h with (h | ⟨o, h⟩) | h
  · exact Or.inl (Or.inl (e _ _ h rfl))
  · exact Or.inl (Or.inr ⟨o, e _ _ h rfl⟩)
  · exact Or.inr h

/-! ### data that never changes -/
inductive D where
  | non | bl (b : Bool) | int (i : Int) | str (x : Str)
  | tup (xs : List D)
  | obj (C : Addr) (fs : List (Str × D))
mutual
inductive Rp (K : PySem.W.Frag) (H : Hp) : V → D → Prop
  | non : Rp K H .non .non
  | bl (b : Bool) : Rp K H (.bl b) (.bl b)
  | int (i : Int) : Rp K H (.int i) (.int i)
  | str (x : Str) : Rp K H (.str x) (.str x)
  | tup {a : Addr} {vs : List V} {ds : List D} : SqT K H a vs → RpL K H vs ds → Rp K H (.ref a) (.tup ds)
  | obj {a C dx : Addr} {fs : List (Str × V)} {gs : List (Str × D)} : H a = some (.ins C dx fs) → RpF K H fs gs → Rp K H (.ref a) (.obj C gs)
inductive RpL (K : PySem.W.Frag) (H : Hp) : List V → List D → Prop
  | nil : RpL K H [] []
  | cons {v : V} {vs : List V} {d : D} {ds : List D} : Rp K H v d → RpL K H vs ds → RpL K H (v :: vs) (d :: ds)
inductive RpF (K : PySem.W.Frag) (H : Hp) : List (Str × V) → List (Str × D) → Prop
  | nil : RpF K H [] []
  | cons {f : Str} {v : V} {vs : List (Str × V)} {d : D} {ds : List (Str × D)} : Rp K H v d → RpF K H vs ds → RpF K H ((f, v) :: vs) ((f, d) :: ds)
end
section
variable {K : PySem.W.Frag} {H H' : Hp}
mutual
theorem Rp.im (e : Im H H') : ∀ {v : V} {d : D}, Rp K H v d → Rp K H' v d
  | _, _, .non => .non
  | _, _, .bl b => .bl b
  | _, _, .int i => .int i
  | _, _, .str x => .str x
  | _, _, .tup h r => .tup (e.t h) (RpL.im e r)
  | _, _, .obj h r => .obj (e _ _ h rfl) (RpF.im e r)
theorem RpL.im (e : Im H H') : ∀ {v : List V} {d : List D}, RpL K H v d → RpL K H' v d
  | _, _, .nil => .nil
  | _, _, .cons h r => .cons (Rp.im e h) (RpL.im e r)
theorem RpF.im (e : Im H H') : ∀ {v : List (Str × V)} {d : List (Str × D)}, RpF K H v d → RpF K H' v d
  | _, _, .nil => .nil
  | _, _, .cons h r => .cons (Rp.im e h) (RpF.im e r)
end
theorem Rp.mono (e : Ex H H') {v : V} {d : D} (h : Rp K H v d) : Rp K H' v d := h.im e.im
theorem RpL.mono (e : Ex H H') {v : List V} {d : List D} (h : RpL K H v d) : RpL K H' v d := h.im e.im
theorem RpF.mono (e : Ex H H') {v : List (Str × V)} {d : List (Str × D)} (h : RpF K H v d) : RpF K H' v d := h.im e.im
theorem Rp.i {v : V} {i : Int} (h : Rp K H v (.int i)) : v = .int i := by cases h; rfl
theorem Rp.b {v : V} {i : Bool} (h : Rp K H v (.bl i)) : v = .bl i := by cases h; rfl
theorem Rp.s {v : V} {i : Str} (h : Rp K H v (.str i)) : v = .str i := by cases h; rfl
theorem Rp.n {v : V} (h : Rp K H v .non) : v = .non := by cases h; rfl
theorem Rp.t {v : V} {ds : List D} (h : Rp K H v (.tup ds)) : ∃ a vs, v = .ref a ∧ SqT K H a vs ∧ RpL K H vs ds := by cases h with | tup h r => exact ⟨_, _, rfl, h, r⟩
theorem Rp.o {v : V} {C : Addr} {gs : List (Str × D)} (h : Rp K H v (.obj C gs)) : ∃ a dx fs, v = .ref a ∧ H a = some (.ins C dx fs) ∧ RpF K H fs gs := by cases h with | obj h r => exact ⟨_, _, _, rfl, h, r⟩
theorem RpL.len : ∀ {vs : List V} {ds : List D}, RpL K H vs ds → vs.length = ds.length
  | _, _, .nil => rfl
  | _, _, .cons _ r => congrArg Nat.succ r.len
theorem RpL.get : ∀ {vs : List V} {ds : List D} {i : Nat} {d : D}, RpL K H vs ds → ds[i]? = some d → ∃ v, vs[i]? = some v ∧ Rp K H v d
  | _, _, _, _, .nil, e => by simp at e
  | _, _, 0, _, .cons h _, e => by
    simp at e
    subst e
    exact ⟨_, rfl, h⟩
  | _, _, i + 1, d, .cons _ r, e => by
    obtain ⟨v, h1, h2⟩ := RpL.get (i := i) (d := d) r (by simpa using e)
    exact ⟨v, by simpa using h1, h2⟩
theorem RpL.at' : ∀ {vs : List V} {ds : List D} {i : Nat} {v : V}, RpL K H vs ds → vs[i]? = some v → ∃ d, ds[i]? = some d ∧ Rp K H v d
  | _, _, _, _, .nil, e => by simp at e
  | _, _, 0, _, .cons h _, e => by
    simp at e
    subst e
    exact ⟨_, rfl, h⟩
  | _, _, i + 1, d, .cons _ r, e => by
    obtain ⟨v, h1, h2⟩ := RpL.at' (i := i) (v := d) r (by simpa using e)
    exact ⟨v, by simpa using h1, h2⟩
theorem RpL.app : ∀ {vs : List V} {ds : List D} {vs' : List V} {ds' : List D}, RpL K H vs ds → RpL K H vs' ds' → RpL K H (vs ++ vs') (ds ++ ds')
  | _, _, _, _, .nil, s => s
  | _, _, _, _, .cons h r, s => .cons h (RpL.app r s)
theorem RpL.snoc {vs : List V} {ds : List D} {v : V} {d : D} (h : RpL K H vs ds) (q : Rp K H v d) : RpL K H (vs ++ [v]) (ds ++ [d]) := h.app (.cons q .nil)
theorem RpL.take : ∀ {vs : List V} {ds : List D} (n : Nat), RpL K H vs ds → RpL K H (vs.take n) (ds.take n)
  | _, _, 0, _ => .nil
  | _, _, _ + 1, .nil => .nil
  | _, _, n + 1, .cons h r => .cons h (RpL.take n r)
theorem RpL.drop : ∀ {vs : List V} {ds : List D} (n : Nat), RpL K H vs ds → RpL K H (vs.drop n) (ds.drop n)
  | _, _, 0, r => r
  | _, _, _ + 1, .nil => .nil
  | _, _, n + 1, .cons h r => RpL.drop n r
theorem RpL.rev : ∀ {vs : List V} {ds : List D}, RpL K H vs ds → RpL K H vs.reverse ds.reverse
  | _, _, .nil => .nil
  | _, _, .cons h r => by
    rw [List.reverse_cons, List.reverse_cons]
    exact (RpL.rev r).snoc h
def dI (ns : List Int) : List D := ns.map D.int
theorem RpL.ints : ∀ (ns : List Int), RpL K H (ns.map V.int) (dI ns)
  | [] => .nil
  | n :: r => .cons (.int n) (RpL.ints r)
theorem RpL.ints_inv : ∀ {ns : List Int} {vs : List V}, RpL K H vs (dI ns) → vs = ns.map V.int
  | [], _, h => by cases h; rfl
  | n :: r, _, h => by
    cases h with
    | cons h1 h2 =>
      rw [h1.i, RpL.ints_inv h2] <;> rfl
theorem Rp.ti {v : V} {ns : List Int} (h : Rp K H v (.tup (dI ns))) : ∃ a, v = .ref a ∧ SqT K H a (ns.map V.int) := by
  obtain ⟨a, vs, e, h1, h2⟩ := h.t
  rw [h2.ints_inv] at h1
  exact ⟨a, e, h1⟩
theorem Rp.ti_of {a : Addr} {ns : List Int} (h : SqT K H a (ns.map V.int)) : Rp K H (.ref a) (.tup (dI ns)) := .tup h (RpL.ints ns)
end

/-! ### wrappers: what a step asks of values -/
def II (x y : V) (k : Int → Int → Prop) : Prop := ∃ i j, x = .int i ∧ y = .int j ∧ k i j
theorem x_II {i j : Int} {k : Int → Int → Prop} (h : k i j) : II (.int i) (.int j) k := ⟨i, j, rfl, rfl, h⟩
def AsB (x : V) (k : Bool → Prop) : Prop := ∃ b, x = .bl b ∧ k b
theorem x_asB {b : Bool} {k : Bool → Prop} (h : k b) : AsB (.bl b) k := ⟨b, rfl, h⟩
def Sd (p q : Prop) : Prop := p ∧ q
theorem x_sd {p q : Prop} (h : p) (h2 : q) : Sd p q := ⟨h, h2⟩
def NewL (xs : List V) (H : Hp) (Q : VK) : Prop := xs.length ≤ sizeLine ∧ ∀ p, H p = none → Q (.ref p) (upd H p (.lst xs))
def NewT (xs : List V) (H : Hp) (Q : VK) : Prop := xs.length ≤ sizeLine ∧ ∀ p, H p = none → Q (.ref p) (upd H p (.tup xs))
theorem big_le {n : Nat} (h : n ≤ 100000) : n ≤ sizeLine := Nat.le_trans h (by rw [sizeLine_eq]; decide)
theorem big_lt {n : Nat} (h : n < 100000) : n < sizeLine := Nat.lt_of_lt_of_le h (by rw [sizeLine_eq]; decide)
theorem x_newL {xs : List V} {H : Hp} {Q : VK} (hl : Nat.ble xs.length 100000 = true) (k : ∀ p H1, H p = none → Ex H H1 → H1 p = some (.lst xs) → H1 = upd H p (.lst xs) → Q (.ref p) H1) : NewL xs H Q :=
  ⟨big_le (Nat.le_of_ble_eq_true hl), fun p hp => k p _ hp (Ex.new hp) upd_same rfl⟩
theorem x_newT {xs : List V} {H : Hp} {Q : VK} (hl : Nat.ble xs.length 100000 = true) (k : ∀ p H1, H p = none → Ex H H1 → H1 p = some (.tup xs) → H1 = upd H p (.tup xs) → Q (.ref p) H1) : NewT xs H Q :=
  ⟨big_le (Nat.le_of_ble_eq_true hl), fun p hp => k p _ hp (Ex.new hp) upd_same rfl⟩
/-- one more item at the list at l -/
def App (l : Addr) (v : V) (H : Hp) (Q : VK) : Prop := ∃ xs, H l = some (.lst xs) ∧ xs.length < sizeLine ∧ Q .non (upd H l (.lst (xs ++ [v])))
theorem x_App {l : Addr} {v : V} {H : Hp} {Q : VK} {xs : List V} (h : H l = some (.lst xs)) (hz : xs.length < 100000) (q : Q .non (upd H l (.lst (xs ++ [v])))) : App l v H Q := ⟨xs, h, big_lt hz, q⟩

/-! ### readings of operations -/
abbrev rPlus : R2 := rI0 fun i j => .int (i + j)
abbrev rMinus : R2 := rI0 fun i j => .int (i - j)
abbrev rMul : R2 := rI CMul fun i j => .int (i * j)
abbrev rMod : R2 := rI (fun _ j => 0 < j) fun i j => .int (i % j)
abbrev rDiv : R2 := rI CDiv fun i j => .int (i / j)
abbrev rPow : R2 := rI CPow fun i j => .int (i ^ j.toNat)
abbrev rLt : R2 := rI0 fun i j => .bl (decide (i < j))
abbrev rLe : R2 := rI0 fun i j => .bl (decide (i ≤ j))
abbrev rGt : R2 := rI0 fun i j => .bl (decide (j < i))
abbrev rGe : R2 := rI0 fun i j => .bl (decide (j ≤ i))
abbrev rNeg : V → Hp → VK → Prop := rU fun i => .int (-i)
abbrev ipAdd : TIp := ipI fun i j => i + j
abbrev ipSub : TIp := ipI fun i j => i - j
def rLenQ (K : PySem.W.Frag) : List V → Hp → VK → Prop := fun xs H Q => ∃ p ys, xs = [.ref p] ∧ (SqL K H p ys ∨ SqT K H p ys) ∧ Q (.int ys.length) H
def rLenS : List V → Hp → VK → Prop := fun xs H Q => ∃ z, xs = [.str z] ∧ z.length ≤ sizeLine ∧ Q (.int z.length) H
def rMin2 : List V → Hp → VK → Prop := fun xs H Q => ∃ i j, xs = [.int i, .int j] ∧ Q (.int (if j < i then j else i)) H
def rMax2 : List V → Hp → VK → Prop := fun xs H Q => ∃ i j, xs = [.int i, .int j] ∧ Q (.int (if j > i then j else i)) H
def rListO (K : PySem.W.Frag) : List V → Hp → VK → Prop := fun xs H Q => ∃ p ys, xs = [.ref p] ∧ (SqL K H p ys ∨ SqT K H p ys) ∧ ∀ l, H l = none → Q (.ref l) (upd H l (.lst ys))
def rTupO (K : PySem.W.Frag) : List V → Hp → VK → Prop := fun xs H Q => ∃ p ys, xs = [.ref p] ∧ ((SqL K H p ys ∧ ∀ l, H l = none → Q (.ref l) (upd H l (.tup ys))) ∨ (SqT K H p ys ∧ Q (.ref p) H))
def rIsN : R2 := fun x y H Q => y = .non ∧ Q (.bl (decide (x = .non))) H
def rNotN : R2 := fun x y H Q => y = .non ∧ Q (.bl (!decide (x = .non))) H
section
variable {K : PySem.W.Frag} {H : Hp} {Q : VK}
theorem x_lenL {p : Addr} {ys : List V} (h : SqL K H p ys) (q : Q (.int ys.length) H) : rLenQ K [.ref p] H Q := ⟨p, ys, rfl, .inl h, q⟩
theorem x_lenT {p : Addr} {ys : List V} (h : SqT K H p ys) (q : Q (.int ys.length) H) : rLenQ K [.ref p] H Q := ⟨p, ys, rfl, .inr h, q⟩
theorem x_min2 {i j : Int} (q : Q (.int (if j < i then j else i)) H) : rMin2 [.int i, .int j] H Q := ⟨i, j, rfl, q⟩
theorem x_max2 {i j : Int} (q : Q (.int (if j > i then j else i)) H) : rMax2 [.int i, .int j] H Q := ⟨i, j, rfl, q⟩
theorem x_ixL {p : Addr} {xs : List V} {i : Int} {v : V} (h : SqL K H p xs) (ha : atI xs i = some v) (q : Q v H) : rIxL K (.ref p) (.int i) H Q := ⟨p, xs, i, v, rfl, rfl, h, ha, q⟩
theorem x_ixT {p : Addr} {xs : List V} {i : Int} {v : V} (h : SqT K H p xs) (ha : atI xs i = some v) (q : Q v H) : rIxT K (.ref p) (.int i) H Q := ⟨p, xs, i, v, rfl, rfl, h, ha, q⟩
theorem atI_n {α : Type} {xs : List α} {i : Int} {v : α} (h0 : 0 ≤ i) (h : xs[i.toNat]? = some v) : atI xs i = some v := by
  have hl : i.toNat < xs.length := (List.getElem?_eq_some_iff.mp h).1
  unfold atI ixN
  rw [if_pos h0, if_pos (by omega)]
  exact h
theorem x_sum {p : Addr} {ns : List Int} (h : SqL K H p (ns.map V.int)) (q : Q (.int ns.sum) H) : rSum K [.ref p] H Q := ⟨p, ns, rfl, h, q⟩
theorem x_min {p : Addr} {ns : List Int} (h : SqL K H p (ns.map V.int)) (hl : 0 < ns.length) (q : ∀ m, m ∈ ns → (∀ y, y ∈ ns → m ≤ y) → Q (.int m) H) : rMin K [.ref p] H Q := ⟨p, ns, rfl, h, hl, q⟩
theorem x_max {p : Addr} {ns : List Int} (h : SqL K H p (ns.map V.int)) (hl : 0 < ns.length) (q : ∀ m, m ∈ ns → (∀ y, y ∈ ns → y ≤ m) → Q (.int m) H) : rMax K [.ref p] H Q := ⟨p, ns, rfl, h, hl, q⟩
end

/-! ### the steps -/
section
variable {K : PySem.W.Frag} {σ : L2.St} {H : Hp} {Q : VK} {te ta tb tc : TE} {t u : TS} {tt tu : TT} {v : V} {i j : Nat} {TQ : Bool → Hp → Prop}
  {nx : L2.St → Hp → Prop} {rt : VK} {bk ct : L2.St → Hp → Prop} {al : TA} {QA : List V → Hp → Prop} {g : TG} {sp : Sp} {E : XK}
theorem x_var (h : σ[i]? = some (some v)) (q : Q v H) : tVar i σ H Q := ⟨v, h, q⟩
theorem x_c (q : Q v H) : tC v σ H Q := q
theorem x_opI0 {g : Int → Int → V} (h : ta σ H fun x H1 => tb σ H1 fun y H2 => II x y fun i j => Q (g i j) H2) : tOp (rI0 g) ta tb σ H Q := h
theorem x_opI {C : Int → Int → Prop} {g : Int → Int → V} (h : ta σ H fun x H1 => tb σ H1 fun y H2 => II x y fun i j => Sd (C i j) (Q (g i j) H2)) : tOp (rI C g) ta tb σ H Q := h
def EqQ (x y : V) (Q : VK) (H : Hp) : Prop := scal x y = true ∧ Q (.bl (decide (x = y))) H
def NeQ (x y : V) (Q : VK) (H : Hp) : Prop := scal x y = true ∧ Q (.bl (!decide (x = y))) H
theorem dec_int (i j : Int) : decide (V.int i = V.int j) = decide (i = j) := decide_eq_decide.mpr ⟨fun h => V.int.inj h, fun h => by rw [h]⟩
theorem dec_str (i j : Str) : decide (V.str i = V.str j) = decide (i = j) := decide_eq_decide.mpr ⟨fun h => V.str.inj h, fun h => by rw [h]⟩
theorem dec_bl (i j : Bool) : decide (V.bl i = V.bl j) = decide (i = j) := decide_eq_decide.mpr ⟨fun h => V.bl.inj h, fun h => by rw [h]⟩
theorem x_eqI {i j : Int} (q : Q (.bl (decide (i = j))) H) : EqQ (.int i) (.int j) Q H := ⟨rfl, by rw [dec_int]; exact q⟩
theorem x_neI {i j : Int} (q : Q (.bl (!decide (i = j))) H) : NeQ (.int i) (.int j) Q H := ⟨rfl, by rw [dec_int]; exact q⟩
theorem x_eqS {i j : Str} (q : Q (.bl (decide (i = j))) H) : EqQ (.str i) (.str j) Q H := ⟨rfl, by rw [dec_str]; exact q⟩
theorem x_neS {i j : Str} (q : Q (.bl (!decide (i = j))) H) : NeQ (.str i) (.str j) Q H := ⟨rfl, by rw [dec_str]; exact q⟩
theorem x_eqB {i j : Bool} (q : Q (.bl (decide (i = j))) H) : EqQ (.bl i) (.bl j) Q H := ⟨rfl, by rw [dec_bl]; exact q⟩
theorem x_neB {i j : Bool} (q : Q (.bl (!decide (i = j))) H) : NeQ (.bl i) (.bl j) Q H := ⟨rfl, by rw [dec_bl]; exact q⟩
theorem x_opEq (h : ta σ H fun x H1 => tb σ H1 fun y H2 => EqQ x y Q H2) : tOp rEq ta tb σ H Q := h
theorem x_opNe (h : ta σ H fun x H1 => tb σ H1 fun y H2 => NeQ x y Q H2) : tOp rNe ta tb σ H Q := h
theorem x_op {r : R2} (h : ta σ H fun x H1 => tb σ H1 fun y H2 => r x y H2 Q) : tOp r ta tb σ H Q := h
theorem x_chain {r r' : R2} (h : ta σ H fun x H1 => tb σ H1 fun y H2 => r x y H2 fun z H3 => AsB z fun k => if k = true then tc σ H3 fun w' H4 => r' y w' H4 Q else Q (.bl false) H3) : tChain r r' ta tb tc σ H Q := h
theorem x_rI0 {g : Int → Int → V} {x y : V} (h : II x y fun i j => Q (g i j) H) : rI0 g x y H Q := h
theorem x_rI {C : Int → Int → Prop} {g : Int → Int → V} {x y : V} (h : II x y fun i j => Sd (C i j) (Q (g i j) H)) : rI C g x y H Q := h
def AsO (x : V) (k : Int → Prop) : Prop := ∃ i, x = .int i ∧ k i
theorem x_asO {i : Int} {k : Int → Prop} (h : k i) : AsO (.int i) k := ⟨i, rfl, h⟩
theorem x_sl {r : V → Option Int → Option Int → Hp → VK → Prop} {tl th : TO} (h : te σ H fun x H1 => tl σ H1 fun l H2 => th σ H2 fun u H3 => r x l u H3 Q) : tSl r te tl th σ H Q := h
theorem x_noPart {QO : Option Int → Hp → Prop} (h : QO none H) : tNoPart σ H QO := h
theorem x_part {QO : Option Int → Hp → Prop} (h : te σ H fun x H1 => AsO x fun i => QO (some i) H1) : tPart te σ H QO := h
theorem x_slL {a : Addr} {xs : List V} {lo hi : Option Int} (hs : SqL K H a xs) (q : ∀ p H1, H p = none → Ex H H1 → H1 p = some (.lst (cutV xs lo hi)) → Q (.ref p) H1) : rSlL K (.ref a) lo hi H Q :=
  ⟨a, xs, rfl, hs, fun p hp => q p _ hp (Ex.new hp) upd_same⟩
theorem x_unI {g : Int → V} (h : ta σ H fun x H1 => AsO x fun i => Q (g i) H1) : tUn (rU g) ta σ H Q := h
theorem x_gsub {to ti : TE} {t : TSet} {v : V} {nx : L2.St → Hp → Prop} (h : to σ H fun o H1 => ti σ H1 fun i H2 => t o i v H2 fun H3 => nx σ H3) : gSub to ti t v σ H nx := h
theorem x_setL {p : Addr} {xs : List V} {k : Int} {j : Nat} {v : V} {R : Hp → Prop} (h : H p = some (.lst xs)) (hj : ixN xs.length k = some j) (q : R (upd H p (.lst (xs.set j v)))) : rSetL (.ref p) (.int k) v H R := ⟨p, xs, k, j, rfl, rfl, h, hj, q⟩
theorem ix_last {n : Nat} (h : 0 < n) : ixN n (-1) = some (n - 1) := by
  unfold ixN
  rw [if_neg (by decide), if_pos (by omega)]
  congr 1
  omega
theorem atI_last' {α : Type} {xs : List α} {v : α} (h : xs.getLast? = some v) : atI xs (-1) = some v := by
  have hn : 0 < xs.length := List.length_pos_iff.mpr fun e => by rw [e] at h; cases h
  unfold atI
  rw [ix_last hn]
  show xs[xs.length - 1]? = some v
  rw [← List.getLast?_eq_getElem?]
  exact h
theorem x_tupL {p : Addr} {ys : List V} (h : SqL K H p ys) (q : ∀ t H1, H t = none → Ex H H1 → H1 t = some (.tup ys) → Q (.ref t) H1) : rTupO K [.ref p] H Q := ⟨p, ys, rfl, .inl ⟨h, fun l hl => q l _ hl (Ex.new hl) upd_same⟩⟩
theorem x_listL {p : Addr} {ys : List V} (h : SqL K H p ys) (q : ∀ t H1, H t = none → Ex H H1 → H1 t = some (.lst ys) → Q (.ref t) H1) : rListO K [.ref p] H Q := ⟨p, ys, rfl, .inl h, fun l hl => q l _ hl (Ex.new hl) upd_same⟩
theorem x_listT {p : Addr} {ys : List V} (h : SqT K H p ys) (q : ∀ t H1, H t = none → Ex H H1 → H1 t = some (.lst ys) → Q (.ref t) H1) : rListO K [.ref p] H Q := ⟨p, ys, rfl, .inr h, fun l hl => q l _ hl (Ex.new hl) upd_same⟩
theorem menu (ms : List Int) {i : Int} (h0 : 0 ≤ i) (h1 : i < (ms.length : Int)) : ∃ m ∈ ms, atI (ms.map V.int) i = some (.int m) := by
  have hl : i.toNat < ms.length := by omega
  exact ⟨ms[i.toNat], List.getElem_mem hl, atI_n h0 (by rw [List.getElem?_map, List.getElem?_eq_getElem hl]; rfl)⟩
def Cn (n m : Nat) (vs zs : List V) (p : Prop) : Prop := vs.length = n ∧ zs.length = m ∧ p
theorem x_Cn {n m : Nat} {vs zs : List V} {p : Prop} (h1 : vs.length = n) (h2 : zs.length = m) (q : p) : Cn n m vs zs p := ⟨h1, h2, q⟩
theorem x_callN {n m : Nat} {gV : List V → List V → List V} {tk : TA} (h : al σ H fun vs H1 => tk σ H1 fun zs H2 => Cn n m vs zs (sp (gV vs zs) H2 Q E)) : tCallN n m sp gV E al tk σ H Q := h
/-! dicts -/
theorem x_dispC {a b : Int} (q : ∀ p H1, H p = none → Ex H H1 → H1 p = some (.dK [(.inl a, .int b)]) → Q (.ref p) H1) : tDisp [(tC (.int a), tC (.int b))] σ H Q := by
  intro p hp
  refine ⟨upd_same, [(.inl a, .int b)], rfl, by simp, ?_⟩
  rw [upd_upd]
  exact q p _ hp (Ex.new hp) upd_same
theorem x_dnewK (q : ∀ p H1, H p = none → Ex H H1 → H1 p = some (.dK []) → Q (.ref p) H1) : tDNewK σ H Q := fun p hp => q p _ hp (Ex.new hp) upd_same
theorem x_dnewT (q : ∀ p H1, H p = none → Ex H H1 → H1 p = some (.dT []) → Q (.ref p) H1) : tDNewT σ H Q := fun p hp => q p _ hp (Ex.new hp) upd_same
def DGt (x y : V) (H : Hp) (Q : VK) : Prop := ∃ a v, x = .ref a ∧ DGet H a y (some v) ∧ Q v H
def DIn (x y : V) (H : Hp) (Q : VK) : Prop := ∃ a o, x = .ref a ∧ DGet H a y o ∧ Q (.bl o.isSome) H
def DNi (x y : V) (H : Hp) (Q : VK) : Prop := ∃ a o, x = .ref a ∧ DGet H a y o ∧ Q (.bl (!o.isSome)) H
def DPt (x y v : V) (H : Hp) (k : Hp → Prop) : Prop := ∃ a H4, x = .ref a ∧ DPut H a y v H4 ∧ k H4
theorem x_dget {td ty : TE} (h : td σ H fun x H1 => ty σ H1 fun y H2 => DGt x y H2 Q) : tDGet td ty σ H Q := h
theorem x_din {td ty : TE} (h : ty σ H fun y H1 => td σ H1 fun x H2 => DIn x y H2 Q) : tDIn ty td σ H Q := h
theorem x_dni {td ty : TE} (h : ty σ H fun y H1 => td σ H1 fun x H2 => DNi x y H2 Q) : tDNotIn ty td σ H Q := h
theorem x_dput {td ty tv : TE} (h : tv σ H fun v H1 => td σ H1 fun x H2 => ty σ H2 fun y H3 => DPt x y v H3 fun H4 => nx σ H4) : sDPut td ty tv ⟨nx, rt, bk, ct⟩ σ H := h
theorem x_DGt {a : Addr} {kvs : List (Key × V)} {i : Int} {v : V} (h : H a = some (.dK kvs)) (hv : valV kvs (.inl i) = some v) (q : Q v H) : DGt (.ref a) (.int i) H Q := ⟨a, v, rfl, by rw [← hv]; exact DGet.k (k := .inl i) h, q⟩
theorem x_DIn {a : Addr} {kvs : List (Key × V)} {i : Int} (h : H a = some (.dK kvs)) (q : Q (.bl (valV kvs (.inl i)).isSome) H) : DIn (.ref a) (.int i) H Q := ⟨a, _, rfl, DGet.k (k := .inl i) h, q⟩
theorem x_DNi {a : Addr} {kvs : List (Key × V)} {i : Int} (h : H a = some (.dK kvs)) (q : Q (.bl (!(valV kvs (.inl i)).isSome)) H) : DNi (.ref a) (.int i) H Q := ⟨a, _, rfl, DGet.k (k := .inl i) h, q⟩
theorem x_DPt {a : Addr} {kvs : List (Key × V)} {i : Int} {v : V} {k : Hp → Prop} (h : H a = some (.dK kvs)) (hz : kvs.length < 100000) (q : k (upd H a (.dK (putK kvs (.inl i) v)))) : DPt (.ref a) (.int i) v H k := ⟨a, _, rfl, DPut.k (k := .inl i) h (big_lt hz), q⟩
def rLenD : List V → Hp → VK → Prop := fun xs H Q => ∃ a kvs, xs = [V.ref a] ∧ H a = some (.dK kvs) ∧ Q (.int kvs.length) H
theorem x_lenD {a : Addr} {kvs : List (Key × V)} (h : H a = some (.dK kvs)) (q : Q (.int kvs.length) H) : rLenD [.ref a] H Q := ⟨a, kvs, rfl, h, q⟩
theorem x_rCat {l b : Addr} {xs zs : List V} (h1 : H l = some (.lst xs)) (h2 : H b = some (.lst zs)) (hz : xs.length + zs.length ≤ 100000) (q : ∀ p H1, H p = none → Ex H H1 → H1 p = some (.lst (xs ++ zs)) → Q (.ref p) H1) : rCat (.ref l) (.ref b) H Q :=
  ⟨l, b, xs, zs, rfl, rfl, h1, h2, big_le hz, fun p hp => q p _ hp (Ex.new hp) upd_same⟩
theorem x_sorted {a : Addr} {ns : List Int} (h : SqL K H a (ns.map V.int)) (q : ∀ (zs : List Int) p H1, zs.Perm ns → zs.Pairwise (· ≤ ·) → H p = none → Ex H H1 → H1 p = some (.lst (zs.map V.int)) → Q (.ref p) H1) : rSortedI K [.ref a] H Q :=
  ⟨a, ns, rfl, h, fun zs p h1 h2 hp => q zs p _ h1 h2 hp (Ex.new hp) upd_same⟩
theorem x_isiTy {x : V} {a b : String} {r : Bool} (ty : TyX K H x (.type a)) (h : kitB a b = some r) (q : Q (.bl r) H) : rIsi K [x, .ty b] H Q := ⟨x, .ty b, _, _, r, rfl, .ty b, ty, kit_ty h, q⟩
theorem x_tst (h : te σ H fun x H1 => AsB x fun b => TQ b H1) : tTest te σ H TQ := h
theorem x_tB (h : te σ H fun x H1 => AsB x fun b => TQ b H1) : tB te σ H TQ := h
theorem x_and (h : tt σ H fun c H1 => if c = true then tu σ H1 TQ else TQ false H1) : tAnd tt tu σ H TQ := h
theorem x_or (h : tt σ H fun c H1 => if c = true then TQ true H1 else tu σ H1 TQ) : tOr tt tu σ H TQ := h
theorem x_not (h : tt σ H fun c H1 => TQ (!c) H1) : tNot tt σ H TQ := h
theorem x_andV (h : ta σ H fun x H1 => AsB x fun c => if c = true then tb σ H1 Q else Q (.bl false) H1) : tAndV ta tb σ H Q := h
theorem x_orV (h : ta σ H fun x H1 => AsB x fun c => if c = true then Q (.bl true) H1 else tb σ H1 Q) : tOrV ta tb σ H Q := h
theorem x_notV (h : ta σ H fun x H1 => AsB x fun c => Q (.bl (!c)) H1) : tNotV ta σ H Q := h
theorem x_ifE (h : tt σ H fun c H1 => if c = true then ta σ H1 Q else tb σ H1 Q) : tIf tt ta tb σ H Q := h
theorem x_nilA (h : QA [] H) : tNil σ H QA := h
theorem x_consA {tr : TA} (h : ta σ H fun x H1 => tr σ H1 fun xs H2 => QA (x :: xs) H2) : tCons ta tr σ H QA := h
theorem x_tup (h : al σ H fun xs H1 => NewT xs H1 Q) : tTup al σ H Q := h
theorem x_lst (h : al σ H fun xs H1 => NewL xs H1 Q) : tLst al σ H Q := h
theorem x_call (h : al σ H fun vs H1 => sp vs H1 Q E) : tCall sp [] E al σ H Q := by
  unfold tCall
  simp only [List.append_nil]
  exact h
theorem x_callD {dvs : List V} (h : al σ H fun vs H1 => sp (vs ++ dvs) H1 Q E) : tCall sp dvs E al σ H Q := h
theorem x_cb {r : List V → Hp → VK → Prop} (h : al σ H fun vs H1 => r vs H1 Q) : tCB r al σ H Q := h
theorem x_app {l : Addr} {xs0 : List V} (hσ : σ[i]? = some (some (.ref l))) (hl : H l = some (.lst xs0)) (h : te σ H fun v H1 => App l v H1 Q) : tBM K "list" rAppend (tVar i) (tCons te tNil) σ H Q := by
  refine ⟨_, hσ, .inl ⟨rfl, _, SqL.of hl⟩, ?_⟩
  have e : (fun v H1 => App l v H1 Q) = fun y H2 => tNil σ H2 fun xs H3 => rAppend (.ref l) (y :: xs) H3 Q := by
    funext y H2
    apply propext
    constructor
    · rintro ⟨xs, h1, h2, h3⟩
      exact ⟨l, xs, y, rfl, rfl, h1, h2, h3⟩
    · rintro ⟨l', xs, y', e1, e2, h1, h2, h3⟩
      cases e1
      cases e2
      exact ⟨xs, h1, h2, h3⟩
  show te σ H fun y H2 => tNil σ H2 fun xs H3 => rAppend (.ref l) (y :: xs) H3 Q
  rw [← e]
  exact h
/-! statements -/
theorem x_seq (h : t ⟨u ⟨nx, rt, bk, ct⟩, rt, bk, ct⟩ σ H) : tSeq t u ⟨nx, rt, bk, ct⟩ σ H := h
theorem x_next (h : nx σ H) : tNext ⟨nx, rt, bk, ct⟩ σ H := h
theorem x_asgN (h : te σ H fun x H1 => nx (σ.set i (some x)) H1) : tAsg te (gName i) ⟨nx, rt, bk, ct⟩ σ H := h
theorem x_asg (h : te σ H fun x H1 => g x σ H1 nx) : tAsg te g ⟨nx, rt, bk, ct⟩ σ H := h
theorem x_gN {nx : L2.St → Hp → Prop} (h : nx (σ.set i (some v)) H) : gName i v σ H nx := h
theorem x_gtup2 {g1 g2 : TG} {a : Addr} {v w : V} (hs : SqT K H a [v, w]) (h : g1 v σ H fun σ' H' => g2 w σ' H' nx) : gTup K 2 (gCons g1 (gCons g2 gNil)) (.ref a) σ H nx := by
  refine ⟨a, _, rfl, hs, rfl, v, [w], rfl, ?_⟩
  have e : (fun σ' H' => gCons g2 gNil [w] σ' H' nx) = fun σ' H' => g2 w σ' H' nx := by
    funext σ' H'
    apply propext
    have e2 : (fun σ2 H2 => gNil ([] : List V) σ2 H2 nx) = nx := by
      funext σ2 H2
      apply propext
      exact ⟨fun z => z.2, fun z => ⟨rfl, z⟩⟩
    constructor
    · rintro ⟨v', r, e1, z⟩
      cases e1
      rw [e2] at z
      exact z
    · intro z
      refine ⟨w, [], rfl, ?_⟩
      rw [e2]
      exact z
  rw [e]
  exact h
theorem x_gtup3 {g1 : TG} {i j : Nat} {a : Addr} {u v w : V} (hs : SqT K H a [u, v, w]) (h : g1 u σ H fun σ' H' => nx ((σ'.set i (some v)).set j (some w)) H') : gTup K 3 (gCons g1 (gCons (gName i) (gCons (gName j) gNil))) (.ref a) σ H nx := by
  refine ⟨a, _, rfl, hs, rfl, u, [v, w], rfl, ?_⟩
  have e : (fun σ' H' => gCons (gName i) (gCons (gName j) gNil) [v, w] σ' H' nx) = fun σ' H' => nx ((σ'.set i (some v)).set j (some w)) H' := by
    funext σ' H'
    apply propext
    constructor
    · rintro ⟨v', r, e1, w', r', e2, z1, z2⟩
      cases e1
      cases e2
      exact z2
    · intro z
      exact ⟨v, _, rfl, w, _, rfl, rfl, z⟩
  rw [e]
  exact h
theorem x_drop (h : te σ H fun _ H1 => nx σ H1) : tDrop te ⟨nx, rt, bk, ct⟩ σ H := h
theorem x_ret (h : te σ H rt) : tRet te ⟨nx, rt, bk, ct⟩ σ H := h
theorem x_retN (h : rt .non H) : tRetN ⟨nx, rt, bk, ct⟩ σ H := h
theorem x_brk (h : bk σ H) : tBreak ⟨nx, rt, bk, ct⟩ σ H := h
theorem x_cont (h : ct σ H) : tCont ⟨nx, rt, bk, ct⟩ σ H := h
theorem x_if (h : tt σ H fun b H1 => if b = true then t ⟨nx, rt, bk, ct⟩ σ H1 else u ⟨nx, rt, bk, ct⟩ σ H1) : tIfS tt t u ⟨nx, rt, bk, ct⟩ σ H := h
def Par (i j : Nat) (vs : List V) (σ : L2.St) (k : L2.St → Prop) : Prop := ∃ v w, vs = [v, w] ∧ k ((σ.set i (some v)).set j (some w))
theorem x_Par {a b : V} {k : L2.St → Prop} (h : k ((σ.set i (some a)).set j (some b))) : Par i j [a, b] σ k := ⟨a, b, rfl, h⟩
theorem x_par (h : al σ H fun vs H1 => Par i j vs σ fun σ' => nx σ' H1) : tPar i j al ⟨nx, rt, bk, ct⟩ σ H := h
def Par3 (i j l : Nat) (vs : List V) (σ : L2.St) (k : L2.St → Prop) : Prop := ∃ u v w, vs = [u, v, w] ∧ k (((σ.set i (some u)).set j (some v)).set l (some w))
theorem x_Par3 {l : Nat} {a b c : V} {k : L2.St → Prop} (h : k (((σ.set i (some a)).set j (some b)).set l (some c))) : Par3 i j l [a, b, c] σ k := ⟨a, b, c, rfl, h⟩
theorem x_par3 {l : Nat} (h : al σ H fun vs H1 => Par3 i j l vs σ fun σ' => nx σ' H1) : tPar3 i j l al ⟨nx, rt, bk, ct⟩ σ H := h
theorem x_aug {ti : TIp} {x : V} (hx : σ[i]? = some (some x)) (h : te σ H fun y H1 => ti x y H1 fun z H2 => nx (σ.set i (some z)) H2) : tAug i te ti ⟨nx, rt, bk, ct⟩ σ H := ⟨x, hx, h⟩
theorem x_ipI {f : Int → Int → Int} {i j : Int} (h : Q (.int (f i j)) H) : ipI f (.int i) (.int j) H Q := ⟨i, j, rfl, rfl, h⟩
/-! branches -/
theorem b_t {A B : Prop} {c : Bool} (e : c = true) (h : A) : if c = true then A else B := by rw [if_pos e]; exact h
theorem b_f {A B : Prop} {c : Bool} (e : c = false) (h : B) : if c = true then A else B := by rw [e, if_neg Bool.false_ne_true]; exact h
theorem b_2 {A B : Prop} {c : Bool} (h1 : c = true → A) (h2 : c = false → B) : if c = true then A else B := by
  cases c with
  | true => exact b_t rfl (h1 rfl)
  | false => exact b_f rfl (h2 rfl)
theorem b_d {A B : Prop} {c : Prop} [Decidable c] (h1 : c → A) (h2 : ¬ c → B) : if decide c = true then A else B := b_2 (fun h => h1 (of_decide_eq_true h)) (fun h => h2 (of_decide_eq_false h))
/-- the ways of an expression meet -/
theorem b_join {c : Prop} [Decidable c] {ta tb : TE} {σ1 : L2.St} {H1 : Hp} {Q' : VK} (Pr : V → Hp → Prop) (k : ∀ v H2, Pr v H2 → Q' v H2) (h1 : c → ∀ R : VK, (∀ v H2, Pr v H2 → R v H2) → ta σ1 H1 R) (h2 : ¬ c → ∀ R : VK, (∀ v H2, Pr v H2 → R v H2) → tb σ1 H1 R) :
    if decide c = true then ta σ1 H1 Q' else tb σ1 H1 Q' := b_d (fun h => h1 h Q' k) (fun h => h2 h Q' k)
theorem b_joinV {c : Prop} [Decidable c] {ta tb : TE} {σ1 : L2.St} {H1 : Hp} {Q' : VK} (Pr : V → Prop) (k : ∀ v, Pr v → Q' v H1) (h1 : c → ∀ R : VK, (∀ v, Pr v → R v H1) → ta σ1 H1 R) (h2 : ¬ c → ∀ R : VK, (∀ v, Pr v → R v H1) → tb σ1 H1 R) :
    if decide c = true then ta σ1 H1 Q' else tb σ1 H1 Q' := b_d (fun h => h1 h Q' k) (fun h => h2 h Q' k)
theorem s_joinS {c : Prop} [Decidable c] {t u : TS} {σ1 : L2.St} {H1 : Hp} (J : L2.St → Prop) (k : ∀ σ', J σ' → nx σ' H1) (h1 : c → ∀ nx' : L2.St → Hp → Prop, (∀ σ', J σ' → nx' σ' H1) → t ⟨nx', rt, bk, ct⟩ σ1 H1)
    (h2 : ¬ c → ∀ nx' : L2.St → Hp → Prop, (∀ σ', J σ' → nx' σ' H1) → u ⟨nx', rt, bk, ct⟩ σ1 H1) : if decide c = true then t ⟨nx, rt, bk, ct⟩ σ1 H1 else u ⟨nx, rt, bk, ct⟩ σ1 H1 := b_d (fun h => h1 h nx k) (fun h => h2 h nx k)
/-- .. of a statement -/
theorem s_join {c : Prop} [Decidable c] {t u : TS} {σ1 : L2.St} {H1 : Hp} (J : L2.St → Hp → Prop) (k : ∀ σ' H', J σ' H' → nx σ' H') (h1 : c → ∀ nx' : L2.St → Hp → Prop, (∀ σ' H', J σ' H' → nx' σ' H') → t ⟨nx', rt, bk, ct⟩ σ1 H1)
    (h2 : ¬ c → ∀ nx' : L2.St → Hp → Prop, (∀ σ' H', J σ' H' → nx' σ' H') → u ⟨nx', rt, bk, ct⟩ σ1 H1) : if decide c = true then t ⟨nx, rt, bk, ct⟩ σ1 H1 else u ⟨nx, rt, bk, ct⟩ σ1 H1 := b_d (fun h => h1 h nx k) (fun h => h2 h nx k)
/-! loops -/
def ForIt (J : It) (g : TG) (tb : TS) (D : Ends) (σ : L2.St) (H1 : Hp) : Prop := ∃ W : Nat → Nat → L2.St → Hp → Prop, (∃ m, W 0 m σ H1) ∧ ∀ i m σ H, W i m σ H →
  (J.stop i H ∧ D.nx σ H) ∨ (J.go i H ∧ ∃ N : L2.St → Hp → Prop, (∀ σ' H', N σ' H' → ∃ m', m' < m ∧ W (i + 1) m' σ' H') ∧ ∀ x H', J.yld i H x H' → g x σ H' fun σ2 H2 => tb { D with nx := N, ct := N, bk := D.nx } σ2 H2)
def R1 (vs : List V) (k : Int → Prop) : Prop := ∃ j : Int, vs = [.int j] ∧ -(2 ^ 62) ≤ j ∧ j < 2 ^ 62 ∧ k j
def R2' (vs : List V) (k : Int → Int → Prop) : Prop := ∃ i j : Int, vs = [.int i, .int j] ∧ (-(2 ^ 62) ≤ i ∧ i < 2 ^ 62 ∧ -(2 ^ 62) ≤ j ∧ j < 2 ^ 62) ∧ k i j
theorem x_R1 {j : Int} {k : Int → Prop} (h : -(2 ^ 62) ≤ j ∧ j < 2 ^ 62) (q : k j) : R1 [.int j] k := ⟨j, rfl, h.1, h.2, q⟩
theorem x_R2 {i j : Int} {k : Int → Int → Prop} (h : -(2 ^ 62) ≤ i ∧ i < 2 ^ 62 ∧ -(2 ^ 62) ≤ j ∧ j < 2 ^ 62) (q : k i j) : R2' [.int i, .int j] k := ⟨i, j, rfl, h, q⟩
variable {De : Ends}
theorem x_forR1 (h : al σ H fun vs H1 => R1 vs fun j => ForIt (Itr 0 j.toNat) g t De σ H1) : tFor (iRng1 al) g t De σ H := h
theorem x_forR2 (h : al σ H fun vs H1 => R2' vs fun i j => ForIt (Itr i (j - i).toNat) g t De σ H1) : tFor (iRng2 al) g t De σ H := h
def RefL (K : PySem.W.Frag) (x : V) (H : Hp) (k : Addr → Prop) : Prop := ∃ a, x = .ref a ∧ (∃ xs, SqL K H a xs) ∧ k a
def RefT (K : PySem.W.Frag) (x : V) (H : Hp) (k : Addr → Prop) : Prop := ∃ a, x = .ref a ∧ (∃ xs, SqT K H a xs) ∧ k a
theorem x_forL (h : te σ H fun x H1 => RefL K x H1 fun a => ForIt (Itl K a) g t De σ H1) : tFor (iList K te) g t De σ H := h
theorem x_forT (h : te σ H fun x H1 => RefT K x H1 fun a => ForIt (Itt K a) g t De σ H1) : tFor (iTup K te) g t De σ H := h
theorem x_RefL {a : Addr} {xs : List V} {k : Addr → Prop} (h : SqL K H a xs) (q : k a) : RefL K (.ref a) H k := ⟨a, rfl, ⟨xs, h⟩, q⟩
theorem x_RefT {a : Addr} {xs : List V} {k : Addr → Prop} (h : SqT K H a xs) (q : k a) : RefT K (.ref a) H k := ⟨a, rfl, ⟨xs, h⟩, q⟩
/-- for x in range: the target a name -/
theorem for_r {lo : Int} {n j : Nat} (Pv : Nat → L2.St → Hp → Prop) (h0 : Pv 0 σ H)
    (hs : ∀ i σ H, i < n → Pv i σ H → t ⟨Pv (i + 1), rt, nx, Pv (i + 1)⟩ (σ.set j (some (.int (lo + (i : Int))))) H) (hd : ∀ σ H, Pv n σ H → nx σ H) : ForIt (Itr lo n) (gName j) t ⟨nx, rt, bk, ct⟩ σ H :=
  for_range (D := ⟨nx, rt, bk, ct⟩) Pv h0 hs hd
theorem for_l {a : Addr} {xs : List V} (Pv : Nat → L2.St → Hp → Prop) (h0 : Pv 0 σ H) (hl : ∀ i σ H, i ≤ xs.length → Pv i σ H → SqL K H a xs)
    (hs : ∀ i x σ H, xs[i]? = some x → Pv i σ H → g x σ H fun σ2 H2 => t ⟨Pv (i + 1), rt, nx, Pv (i + 1)⟩ σ2 H2) (hd : ∀ σ H, Pv xs.length σ H → nx σ H) : ForIt (Itl K a) g t ⟨nx, rt, bk, ct⟩ σ H :=
  for_list (D := ⟨nx, rt, bk, ct⟩) Pv h0 hl hs hd
theorem for_t {a : Addr} {xs : List V} (Pv : Nat → L2.St → Hp → Prop) (h0 : Pv 0 σ H) (hl : ∀ i σ H, i ≤ xs.length → Pv i σ H → SqT K H a xs)
    (hs : ∀ i x σ H, xs[i]? = some x → Pv i σ H → g x σ H fun σ2 H2 => t ⟨Pv (i + 1), rt, nx, Pv (i + 1)⟩ σ2 H2) (hd : ∀ σ H, Pv xs.length σ H → nx σ H) : ForIt (Itt K a) g t ⟨nx, rt, bk, ct⟩ σ H :=
  for_tup (D := ⟨nx, rt, bk, ct⟩) Pv h0 hl hs hd
def WN (W : Nat → L2.St → Hp → Prop) (m : Nat) (t : TS) (nx : L2.St → Hp → Prop) (rt : VK) (σ' : L2.St) (H1 : Hp) : Prop := ∃ N : L2.St → Hp → Prop, (∀ σ2 H2, N σ2 H2 → ∃ m', m' < m ∧ W m' σ2 H2) ∧ t ⟨N, rt, nx, N⟩ σ' H1
theorem x_WN {W : Nat → L2.St → Hp → Prop} {m : Nat} (h : t ⟨fun σ2 H2 => ∃ m', m' < m ∧ W m' σ2 H2, rt, nx, fun σ2 H2 => ∃ m', m' < m ∧ W m' σ2 H2⟩ σ H) : WN W m t nx rt σ H := ⟨_, fun _ _ z => z, h⟩
theorem x_while (W : Nat → L2.St → Hp → Prop) (m0 : Nat) (h0 : W m0 σ H)
    (hs : ∀ m σ' H', W m σ' H' → tt σ' H' fun b H1 => if b = true then WN W m t nx rt σ' H1 else nx σ' H1) : tWhile tt t ⟨nx, rt, bk, ct⟩ σ H := ⟨W, ⟨m0, h0⟩, hs⟩
/-! comprehensions -/
def LcIt (J : It) (g : TG) (tt : TT) (te : TE) (vs : List Nat) (σ : L2.St) (H1 : Hp) (Q : VK) : Prop := ∀ D, H1 D = none → ∃ W : Nat → Nat → Hp → Prop, (∃ m, W 0 m (upd H1 D (.lst []))) ∧ ∀ i m H, W i m H →
  (J.stop i H ∧ Q (.ref D) H) ∨ (J.go i H ∧ ∃ Nx : Hp → Prop, (∀ H', Nx H' → ∃ m', m' < m ∧ W (i + 1) m' H') ∧ ∀ x H', J.yld i H x H' → g x (wipe σ vs) H' fun σ2 H2 => wipe σ2 vs = wipe σ vs ∧ tt σ2 H2 fun b H3 =>
    if b = true then te σ2 H3 fun y H4 => ∃ acc, H4 D = some (.lst acc) ∧ acc.length < sizeLine ∧ Nx (upd H4 D (.lst (acc ++ [y]))) else Nx H3)
theorem x_lcL {tl : TE} {vs : List Nat} (h : tl σ H fun x H1 => RefL K x H1 fun a => LcIt (Itl K a) g tt te vs σ H1 Q) : tLc (iList K tl) g tt te vs σ H Q := h
theorem x_lcT {tl : TE} {vs : List Nat} (h : tl σ H fun x H1 => RefT K x H1 fun a => LcIt (Itt K a) g tt te vs σ H1 Q) : tLc (iTup K tl) g tt te vs σ H Q := h
theorem x_lcR1 {vs : List Nat} (h : al σ H fun xs H1 => R1 xs fun j => LcIt (Itr 0 j.toNat) g tt te vs σ H1 Q) : tLc (iRng1 al) g tt te vs σ H Q := h
theorem x_lcR2 {vs : List Nat} (h : al σ H fun xs H1 => R2' xs fun i j => LcIt (Itr i (j - i).toNat) g tt te vs σ H1 Q) : tLc (iRng2 al) g tt te vs σ H Q := h
def Lc2It (J : It) (g : TG) (tt : TT) (wi1 : TI) (g1 : TG) (tt1 : TT) (te : TE) (vs vs1 : List Nat) (σ : L2.St) (H1 : Hp) (Q : VK) : Prop := ∀ D, H1 D = none → ∃ W : Nat → Nat → Hp → Prop, (∃ m, W 0 m (upd H1 D (.lst []))) ∧ ∀ i m H, W i m H →
  (J.stop i H ∧ Q (.ref D) H) ∨ (J.go i H ∧ ∃ Nx : Hp → Prop, (∀ H', Nx H' → ∃ m', m' < m ∧ W (i + 1) m' H') ∧ ∀ x H', J.yld i H x H' → g x (wipe σ vs) H' fun σ2 H2 => wipe σ2 vs = wipe σ vs ∧ tt σ2 H2 fun b H3 =>
    if b = true then wi1 σ2 H3 fun J1 H4 => ∃ W1 : Nat → Nat → Hp → Prop, (∃ m, W1 0 m H4) ∧ ∀ j k H, W1 j k H →
      (J1.stop j H ∧ Nx H) ∨ (J1.go j H ∧ ∃ Nx1 : Hp → Prop, (∀ H', Nx1 H' → ∃ k', k' < k ∧ W1 (j + 1) k' H') ∧ ∀ x H', J1.yld j H x H' → g1 x (wipe σ2 vs1) H' fun σ3 H5 => wipe σ3 vs1 = wipe σ2 vs1 ∧ tt1 σ3 H5 fun b H6 =>
        if b = true then te σ3 H6 fun y H7 => ∃ acc, H7 D = some (.lst acc) ∧ acc.length < sizeLine ∧ Nx1 (upd H7 D (.lst (acc ++ [y]))) else Nx1 H6)
    else Nx H3)
theorem x_lc2L {tl : TE} {wi1 : TI} {g1 : TG} {tt1 : TT} {vs vs1 : List Nat} (h : tl σ H fun x H1 => RefL K x H1 fun a => Lc2It (Itl K a) g tt wi1 g1 tt1 te vs vs1 σ H1 Q) : tLc2 (iList K tl) g tt wi1 g1 tt1 te vs vs1 σ H Q := h
theorem x_yes (h : TQ true H) : tYes σ H TQ := h
/-- the turn of a comprehension: what is to be shown -/
def Turn' (K : PySem.W.Frag) (f : Option D) (g : TG) (tt : TT) (te : TE) (vs : List Nat) (σ : L2.St) (x : V) (H' : Hp) : Prop :=
  ∀ (R : VK) (RN : Hp → Prop), (∀ y H4 d, Ex H' H4 → f = some d → Rp K H4 y d → R y H4) → (∀ H4, Ex H' H4 → f = none → RN H4) →
    g x (wipe σ vs) H' fun σ2 H2 => wipe σ2 vs = wipe σ vs ∧ tt σ2 H2 fun b H3 => if b = true then te σ2 H3 R else RN H3
theorem fm_succ {α : Type} (f : Nat → Option α) (n : Nat) : (List.range (n + 1)).filterMap f = (List.range n).filterMap f ++ (f n).toList := by
  rw [List.range_succ, List.filterMap_append]
  cases h : f n with
  | none => simp [h]
  | some _ => simp [h]
theorem lc_inv {f : Nat → Option D} {i : Nat} {vs : List Nat} {D1 : Addr} {x : V} {H1 H' : Hp} (hi : i < 100000) (hD : H1 D1 = none) (p : Ex H1 H' ∧ ∃ acc, H' D1 = some (.lst acc) ∧ acc.length ≤ i ∧ RpL K H' acc ((List.range i).filterMap f)) (ht : Turn' K (f i) g tt te vs σ x H') :
    g x (wipe σ vs) H' fun σ2 H2 => wipe σ2 vs = wipe σ vs ∧ tt σ2 H2 fun b H3 => if b = true then te σ2 H3 fun y H4 => ∃ acc, H4 D1 = some (.lst acc) ∧ acc.length < sizeLine ∧ (Ex H1 (upd H4 D1 (.lst (acc ++ [y]))) ∧ ∃ acc', (upd H4 D1 (.lst (acc ++ [y]))) D1 = some (.lst acc') ∧ acc'.length ≤ i + 1 ∧ RpL K (upd H4 D1 (.lst (acc ++ [y]))) acc' ((List.range (i + 1)).filterMap f))
      else (Ex H1 H3 ∧ ∃ acc, H3 D1 = some (.lst acc) ∧ acc.length ≤ i + 1 ∧ RpL K H3 acc ((List.range (i + 1)).filterMap f)) := by
  obtain ⟨p1, acc, p2, p3, p4⟩ := p
  refine ht _ _ (fun y H4 d e hf r => ?_) (fun H4 e hf => ?_)
  · have hA : H4 D1 = some (.lst acc) := e _ _ p2
    refine ⟨acc, hA, big_lt (by omega), (p1.trans e).mut hD, acc ++ [y], upd_same, by rw [List.length_append, List.length_singleton]; omega, ?_⟩
    rw [fm_succ, hf]
    exact ((p4.mono e).im (Im.set hA)).snoc (r.im (Im.set hA))
  · refine ⟨p1.trans e, acc, e _ _ p2, by omega, ?_⟩
    rw [fm_succ, hf]
    simpa using p4.mono e
/-- [te for .. in the list at a if tt] -/
theorem lcL {a : Addr} {xs : List V} {vs : List Nat} (f : Nat → Option D) (hx : SqL K H a xs) (hz : xs.length ≤ 100000) (hs : ∀ i x H', xs[i]? = some x → Ex H H' → Turn' K (f i) g tt te vs σ x H')
    (hd : ∀ p ys H', Ex H H' → H p = none → H' p = some (.lst ys) → RpL K H' ys ((List.range xs.length).filterMap f) → Q (.ref p) H') : LcIt (Itl K a) g tt te vs σ H Q := fun D1 hD =>
  lc_list (Qd := Q (.ref D1)) (fun i H' => Ex H H' ∧ ∃ acc, H' D1 = some (.lst acc) ∧ acc.length ≤ i ∧ RpL K H' acc ((List.range i).filterMap f)) ⟨Ex.new hD, [], upd_same, Nat.zero_le _, .nil⟩ (fun _ _ _ p => p.1.l hx)
    (fun i x H' hi p => lc_inv (by have := (List.getElem?_eq_some_iff.mp hi).1; omega) hD p (hs i x H' hi p.1)) (fun H' p => let ⟨e, acc, h1, _, h2⟩ := p; hd D1 acc H' e hD h1 h2)
theorem lcT {a : Addr} {xs : List V} {vs : List Nat} (f : Nat → Option D) (hx : SqT K H a xs) (hz : xs.length ≤ 100000) (hs : ∀ i x H', xs[i]? = some x → Ex H H' → Turn' K (f i) g tt te vs σ x H')
    (hd : ∀ p ys H', Ex H H' → H p = none → H' p = some (.lst ys) → RpL K H' ys ((List.range xs.length).filterMap f) → Q (.ref p) H') : LcIt (Itt K a) g tt te vs σ H Q := fun D1 hD =>
  lc_tup (Qd := Q (.ref D1)) (fun i H' => Ex H H' ∧ ∃ acc, H' D1 = some (.lst acc) ∧ acc.length ≤ i ∧ RpL K H' acc ((List.range i).filterMap f)) ⟨Ex.new hD, [], upd_same, Nat.zero_le _, .nil⟩ (fun _ _ _ p => p.1.t hx)
    (fun i x H' hi p => lc_inv (by have := (List.getElem?_eq_some_iff.mp hi).1; omega) hD p (hs i x H' hi p.1)) (fun H' p => let ⟨e, acc, h1, _, h2⟩ := p; hd D1 acc H' e hD h1 h2)
theorem lcR {lo : Int} {n : Nat} {vs : List Nat} (f : Nat → Option D) (hz : n ≤ 100000) (hs : ∀ i H', i < n → Ex H H' → Turn' K (f i) g tt te vs σ (.int (lo + (i : Int))) H')
    (hd : ∀ p ys H', Ex H H' → H p = none → H' p = some (.lst ys) → RpL K H' ys ((List.range n).filterMap f) → Q (.ref p) H') : LcIt (Itr lo n) g tt te vs σ H Q := fun D1 hD =>
  lc_range (Qd := Q (.ref D1)) (fun i H' => Ex H H' ∧ ∃ acc, H' D1 = some (.lst acc) ∧ acc.length ≤ i ∧ RpL K H' acc ((List.range i).filterMap f)) ⟨Ex.new hD, [], upd_same, Nat.zero_le _, .nil⟩
    (fun i H' hi p => lc_inv (by omega) hD p (hs i H' hi p.1)) (fun H' p => let ⟨e, acc, h1, _, h2⟩ := p; hd D1 acc H' e hD h1 h2)
theorem fm_congr {α β : Type} {f g : α → Option β} : ∀ {l : List α}, (∀ a ∈ l, f a = g a) → l.filterMap f = l.filterMap g
  | [], _ => rfl
  | a :: r, h => by
    rw [List.filterMap_cons, List.filterMap_cons, h a List.mem_cons_self, fm_congr fun b hb => h b (List.mem_cons_of_mem _ hb)]
theorem fm_range {α β : Type} (g : α → Option β) : ∀ (n : Nat) (l : List α), l.length = n → (List.range n).filterMap (fun i => l[i]?.bind g) = l.filterMap g
  | 0, l, h => by rw [List.length_eq_zero_iff.mp h] <;> rfl
  | n + 1, l, h => by
    obtain ⟨r, a, rfl⟩ : ∃ r a, l = r ++ [a] := ⟨l.dropLast, l.getLast (by intro q; rw [q] at h; cases h), (List.dropLast_concat_getLast _).symm⟩
    have hr : r.length = n := by
      rw [List.length_append, List.length_singleton] at h
      omega
    rw [fm_succ, List.filterMap_append, ← fm_range g n r hr]
    congr 1
    · refine fm_congr fun i hi => ?_
      rw [List.getElem?_append_left (by have := List.mem_range.mp hi; omega)]
    · have e : (r ++ [a])[n]? = some a := by rw [← hr, List.getElem?_append_right (Nat.le_refl _), Nat.sub_self]; rfl
      rw [e]
      show (g a).toList = List.filterMap g [a]
      cases h1 : g a with
      | none => simp [h1]
      | some _ => simp [h1]
theorem lcLD {a : Addr} {xs : List V} {ds : List D} {vs : List Nat} (f : D → Option D) (hx : SqL K H a xs) (hr : RpL K H xs ds) (hz : ds.length ≤ 100000) (hs : ∀ (i : Nat) (d : D) (x : V) (H' : Hp), ds[i]? = some d → Ex H H' → Rp K H' x d → Turn' K (f d) g tt te vs σ x H')
    (hd : ∀ p ys H', Ex H H' → H p = none → H' p = some (.lst ys) → RpL K H' ys (ds.filterMap f) → Q (.ref p) H') : LcIt (Itl K a) g tt te vs σ H Q := by
  refine lcL (fun i => ds[i]?.bind f) hx (by rw [hr.len]; exact hz) (fun i x H' hi e => ?_) (fun p ys H' e n h r => ?_)
  · obtain ⟨d, h1, h2⟩ := hr.at' hi
    rw [h1]
    exact hs i d x H' h1 e (h2.mono e)
  · rw [hr.len, fm_range f _ ds rfl] at r
    exact hd p ys H' e n h r
theorem lcTD {a : Addr} {xs : List V} {ds : List D} {vs : List Nat} (f : D → Option D) (hx : SqT K H a xs) (hr : RpL K H xs ds) (hz : ds.length ≤ 100000) (hs : ∀ (i : Nat) (d : D) (x : V) (H' : Hp), ds[i]? = some d → Ex H H' → Rp K H' x d → Turn' K (f d) g tt te vs σ x H')
    (hd : ∀ p ys H', Ex H H' → H p = none → H' p = some (.lst ys) → RpL K H' ys (ds.filterMap f) → Q (.ref p) H') : LcIt (Itt K a) g tt te vs σ H Q := by
  refine lcT (fun i => ds[i]?.bind f) hx (by rw [hr.len]; exact hz) (fun i x H' hi e => ?_) (fun p ys H' e n h r => ?_)
  · obtain ⟨d, h1, h2⟩ := hr.at' hi
    rw [h1]
    exact hs i d x H' h1 e (h2.mono e)
  · rw [hr.len, fm_range f _ ds rfl] at r
    exact hd p ys H' e n h r
theorem lcLI {a : Addr} {ns : List Int} {vs : List Nat} (f : Int → Option D) (hx : SqL K H a (ns.map V.int)) (hz : ns.length ≤ 100000) (hs : ∀ (i : Nat) (n : Int) (H' : Hp), ns[i]? = some n → Ex H H' → Turn' K (f n) g tt te vs σ (.int n) H')
    (hd : ∀ p ys H', Ex H H' → H p = none → H' p = some (.lst ys) → RpL K H' ys (ns.filterMap f) → Q (.ref p) H') : LcIt (Itl K a) g tt te vs σ H Q := by
  refine lcL (fun i => ns[i]?.bind f) hx (by rw [List.length_map]; exact hz) (fun i x H' hi e => ?_) (fun p ys H' e n h r => ?_)
  · rw [List.getElem?_map] at hi
    cases h1 : ns[i]? with
    | none =>
      rw [h1] at hi
      cases hi
    | some n =>
      rw [h1] at hi
      have e2 : V.int n = x := Option.some.inj hi
      rw [← e2]
      exact hs i n H' h1 e
  · rw [List.length_map, fm_range f _ ns rfl] at r
    exact hd p ys H' e n h r
theorem lcTI {a : Addr} {ns : List Int} {vs : List Nat} (f : Int → Option D) (hx : SqT K H a (ns.map V.int)) (hz : ns.length ≤ 100000) (hs : ∀ (i : Nat) (n : Int) (H' : Hp), ns[i]? = some n → Ex H H' → Turn' K (f n) g tt te vs σ (.int n) H')
    (hd : ∀ p ys H', Ex H H' → H p = none → H' p = some (.lst ys) → RpL K H' ys (ns.filterMap f) → Q (.ref p) H') : LcIt (Itt K a) g tt te vs σ H Q := by
  refine lcT (fun i => ns[i]?.bind f) hx (by rw [List.length_map]; exact hz) (fun i x H' hi e => ?_) (fun p ys H' e n h r => ?_)
  · rw [List.getElem?_map] at hi
    cases h1 : ns[i]? with
    | none =>
      rw [h1] at hi
      cases hi
    | some n =>
      rw [h1] at hi
      have e2 : V.int n = x := Option.some.inj hi
      rw [← e2]
      exact hs i n H' h1 e
  · rw [List.length_map, fm_range f _ ns rfl] at r
    exact hd p ys H' e n h r
/-- a turn without a test: the value y stands for d -/
theorem turn_all {d : D} {vs : List Nat} {x : V} {H' : Hp} (h : ∀ R : VK, (∀ y H4, Ex H' H4 → Rp K H4 y d → R y H4) → g x (wipe σ vs) H' fun σ2 H2 => wipe σ2 vs = wipe σ vs ∧ te σ2 H2 R) : Turn' K (some d) g tYes te vs σ x H' := by
  intro R RN k kn
  have h1 := h R fun y H4 e r => k y H4 d e rfl r
  have e : (fun σ2 H2 => wipe σ2 vs = wipe σ vs ∧ tYes σ2 H2 fun b H3 => if b = true then te σ2 H3 R else RN H3) = fun σ2 H2 => wipe σ2 vs = wipe σ vs ∧ te σ2 H2 R := by
    funext σ2 H2
    show (_ ∧ (if true = true then te σ2 H2 R else RN H2)) = _
    rw [if_pos rfl]
  rw [e]
  exact h1
end

/-! ### slices -/
theorem cut_to (xs : List V) (j : Nat) : cutV xs none (some (j : Int)) = xs.take j := by
  unfold cutV
  rw [HT.sIx_none, HT.sIx_nat]
  simp only [List.drop_zero, Nat.sub_zero]
  by_cases h : j ≤ xs.length
  · rw [Nat.min_eq_left h]
  · rw [Nat.min_eq_right (by omega), List.take_length, List.take_of_length_le (by omega)]
theorem cut_from (xs : List V) (i : Nat) : cutV xs (some (i : Int)) none = xs.drop i := by
  unfold cutV
  rw [HT.sIx_none, HT.sIx_nat]
  by_cases h : i ≤ xs.length
  · rw [Nat.min_eq_left h, List.take_of_length_le (by rw [List.length_drop]; omega)]
  · rw [Nat.min_eq_right (by omega), Nat.sub_self, List.take_zero, List.drop_eq_nil_of_le (by omega)]
theorem cut_mid (xs : List V) (i j : Nat) : cutV xs (some (i : Int)) (some (j : Int)) = (xs.drop i).take (j - i) := by
  unfold cutV
  rw [HT.sIx_nat, HT.sIx_nat]
  by_cases h : i ≤ xs.length
  · have e : min i xs.length = i := by omega
    rw [e]
    by_cases h2 : j ≤ xs.length
    · have e2 : min j xs.length = j := by omega
      rw [e2]
    · have e2 : min j xs.length = xs.length := by omega
      rw [e2, List.take_of_length_le (show (xs.drop i).length ≤ xs.length - i by simp), List.take_of_length_le (show (xs.drop i).length ≤ j - i by simp; omega)]
  · have e : min i xs.length = xs.length := by omega
    have e1 : xs.drop xs.length = [] := List.drop_length
    have e2 : xs.drop i = [] := List.drop_eq_nil_of_le (by omega)
    rw [e, e1, e2, List.take_nil, List.take_nil]
/-! ### == of data -/
section
variable {K : PySem.W.Frag} {H H' : Hp} {Q : VK}
def pI (ns : List Int) : List PyData := ns.map PyData.int
theorem canI : ∀ ns : List Int, PyData.canLayAll0 (pI ns) = true
  | [] => rfl
  | n :: r => by
    show (PyData.canLay0 (.int n) && PyData.canLayAll0 (pI r)) = true
    rw [canI r] <;> rfl
theorem depthI : ∀ ns : List Int, PyData.depthAll (pI ns) = 0
  | [] => rfl
  | n :: r => by
    show max (PyData.depth (.int n)) (PyData.depthAll (pI r)) = 0
    rw [depthI r] <;> rfl
theorem shapedLI (ns : List Int) : SeqAt.shaped (.list (pI ns)) = true := by
  unfold SeqAt.shaped
  have e1 : PyData.canLay0 (.list (pI ns)) = true := by
    unfold PyData.canLay0
    exact canI ns
  have e2 : PyData.depth (.list (pI ns)) = 1 := by
    unfold PyData.depth
    rw [depthI]
  rw [e1, e2] <;> rfl
theorem shapedTI (ns : List Int) : SeqAt.shaped (.tuple (pI ns)) = true := by
  unfold SeqAt.shaped
  have e1 : PyData.canLay0 (.tuple (pI ns)) = true := by
    unfold PyData.canLay0
    exact canI ns
  have e2 : PyData.depth (.tuple (pI ns)) = 1 := by
    unfold PyData.depth
    rw [depthI]
  rw [e1, e2] <;> rfl
theorem eqvI : ∀ ns ms : List Int, PyData.eqvAll (pI ns) (pI ms) = decide (ns = ms)
  | [], [] => rfl
  | [], _ :: _ => rfl
  | _ :: _, [] => rfl
  | n :: r, m :: s => by
    show (PyData.eqv (.int n) (.int m) && PyData.eqvAll (pI r) (pI s)) = _
    rw [eqvI r s]
    show ((n == m) && decide (r = s)) = decide (n :: r = m :: s)
    rw [Bool.beq_eq_decide_eq, ← Bool.decide_and]
    exact decide_eq_decide.mpr ⟨fun ⟨a, b⟩ => by rw [a, b], fun h => ⟨(List.cons.inj h).1, (List.cons.inj h).2⟩⟩
theorem DpAll.ints : ∀ ns : List Int, DpAll K H (ns.map V.int) (pI ns)
  | [] => .nil
  | n :: r => .cons (.int n) (DpAll.ints r)
theorem Dp.li {a : Addr} {ns : List Int} (h : SqL K H a (ns.map V.int)) : Dp K H (.ref a) (.list (pI ns)) := .lst h (DpAll.ints ns)
theorem Dp.ti {a : Addr} {ns : List Int} (h : SqT K H a (ns.map V.int)) : Dp K H (.ref a) (.tuple (pI ns)) := .tup h (DpAll.ints ns)
theorem x_eqLI {a b : Addr} {ns ms : List Int} (h1 : SqL K H a (ns.map V.int)) (h2 : SqL K H b (ms.map V.int)) (q : Q (.bl (decide (ns = ms))) H) : rEqD K (.ref a) (.ref b) H Q :=
  ⟨_, _, Dp.li h1, Dp.li h2, shapedLI _, shapedLI _, by
    have e : PyData.eqv (.list (pI ns)) (.list (pI ms)) = decide (ns = ms) := by
      unfold PyData.eqv
      exact eqvI ns ms
    rw [e]
    exact q⟩
theorem x_neLI {a b : Addr} {ns ms : List Int} (h1 : SqL K H a (ns.map V.int)) (h2 : SqL K H b (ms.map V.int)) (q : Q (.bl (!decide (ns = ms))) H) : rNeD K (.ref a) (.ref b) H Q :=
  ⟨_, _, Dp.li h1, Dp.li h2, shapedLI _, shapedLI _, by
    have e : PyData.eqv (.list (pI ns)) (.list (pI ms)) = decide (ns = ms) := by
      unfold PyData.eqv
      exact eqvI ns ms
    rw [e]
    exact q⟩
theorem x_eqTI {a b : Addr} {ns ms : List Int} (h1 : SqT K H a (ns.map V.int)) (h2 : SqT K H b (ms.map V.int)) (q : Q (.bl (decide (ns = ms))) H) : rEqD K (.ref a) (.ref b) H Q :=
  ⟨_, _, Dp.ti h1, Dp.ti h2, shapedTI _, shapedTI _, by
    have e : PyData.eqv (.tuple (pI ns)) (.tuple (pI ms)) = decide (ns = ms) := by
      unfold PyData.eqv
      exact eqvI ns ms
    rw [e]
    exact q⟩
theorem x_neTI {a b : Addr} {ns ms : List Int} (h1 : SqT K H a (ns.map V.int)) (h2 : SqT K H b (ms.map V.int)) (q : Q (.bl (!decide (ns = ms))) H) : rNeD K (.ref a) (.ref b) H Q :=
  ⟨_, _, Dp.ti h1, Dp.ti h2, shapedTI _, shapedTI _, by
    have e : PyData.eqv (.tuple (pI ns)) (.tuple (pI ms)) = decide (ns = ms) := by
      unfold PyData.eqv
      exact eqvI ns ms
    rw [e]
    exact q⟩
theorem x_eqD {x y : V} {d : PyData} (h1 : Dp K H x d) (h2 : Dp K H y d) (hs : SeqAt.shaped d = true) (q : Q (.bl true) H) : rEqD K x y H Q :=
  ⟨_, _, h1, h2, hs, hs, by rw [SeqAt.eqv_refl d (SeqAt.canLay_of_shaped hs)]; exact q⟩
theorem x_neD {x y : V} {d : PyData} (h1 : Dp K H x d) (h2 : Dp K H y d) (hs : SeqAt.shaped d = true) (q : Q (.bl false) H) : rNeD K x y H Q :=
  ⟨_, _, h1, h2, hs, hs, by rw [SeqAt.eqv_refl d (SeqAt.canLay_of_shaped hs)]; exact q⟩
end
/-! ### lists of lists -/
inductive LL (H : Hp) : List Addr → List (List V) → Prop
  | nil : LL H [] []
  | cons {p : Addr} {ps : List Addr} {zs : List V} {zz : List (List V)} : H p = some (.lst zs) → LL H ps zz → LL H (p :: ps) (zs :: zz)
theorem LL.len {H : Hp} {ps : List Addr} {zz : List (List V)} (h : LL H ps zz) : ps.length = zz.length := by
  induction h with
  | nil => rfl
  | cons _ _ ih => exact congrArg Nat.succ ih
theorem LL.mono {H H' : Hp} (e : Ex H H') {ps : List Addr} {zz : List (List V)} (h : LL H ps zz) : LL H' ps zz := by
  induction h with
  | nil => exact .nil
  | cons h _ ih => exact .cons (e _ _ h) ih
theorem LL.set {H : Hp} {l : Addr} {o : HO} {ps : List Addr} {zz : List (List V)} (h : LL H ps zz) (n : l ∉ ps) : LL (upd H l o) ps zz := by
  induction h with
  | nil => exact .nil
  | cons h _ ih =>
    rw [List.mem_cons, not_or] at n
    exact .cons (by rw [upd_ne (Ne.symm n.1)]; exact h) (ih n.2)
theorem LL.snoc {H : Hp} {p : Addr} {zs : List V} {ps : List Addr} {zz : List (List V)} (h : LL H ps zz) (q : H p = some (.lst zs)) : LL H (ps ++ [p]) (zz ++ [zs]) := by
  induction h with
  | nil => exact .cons q .nil
  | cons h _ ih => exact .cons h ih
theorem LL.get {H : Hp} {ps : List Addr} {zz : List (List V)} (h : LL H ps zz) : ∀ {i : Nat} {p : Addr}, ps[i]? = some p → ∃ zs, zz[i]? = some zs ∧ H p = some (.lst zs) := by
  induction h with
  | nil =>
    intro i p e
    simp at e
  | cons h _ ih =>
    intro i p e
    cases i with
    | zero =>
      simp at e
      subst e
      exact ⟨_, rfl, h⟩
    | succ i => exact ih (by simpa using e)
section
variable {K : PySem.W.Frag} {σ : L2.St} {H : Hp} {Q : VK} {te : TE} {g : TG}
theorem tYes_eq {σ2 : L2.St} {H2 : Hp} {A B : Hp → Prop} : (tYes σ2 H2 fun b H3 => if b = true then A H3 else B H3) = A H2 := by
  show (if true = true then A H2 else B H2) = A H2
  rw [if_pos rfl]
/-- a comprehension of new lists, over a tuple -/
theorem lcT_lists {a : Addr} {xs : List V} {vs : List Nat} (f : Nat → List V) (hx : SqT K H a xs) (hz : xs.length ≤ 100000)
    (hs : ∀ (i : Nat) (x : V) (H' : Hp), xs[i]? = some x → Ex H H' → ∀ R : VK, (∀ p H4, H' p = none → Ex H' H4 → H4 p = some (.lst (f i)) → R (.ref p) H4) → g x (wipe σ vs) H' fun σ2 H2 => wipe σ2 vs = wipe σ vs ∧ te σ2 H2 R)
    (hd : ∀ D1 ps H', Ex H H' → H D1 = none → H' D1 = some (.lst (ps.map V.ref)) → LL H' ps ((List.range xs.length).map f) → Q (.ref D1) H') : LcIt (Itt K a) g tYes te vs σ H Q := fun D1 hD => by
  refine lc_tup (Qd := Q (.ref D1)) (fun i H' => Ex H H' ∧ ∃ ps, H' D1 = some (.lst (ps.map V.ref)) ∧ D1 ∉ ps ∧ ps.length = i ∧ LL H' ps ((List.range i).map f)) ⟨Ex.new hD, [], upd_same, by simp, rfl, .nil⟩ (fun _ _ _ p => p.1.t hx) ?_ (fun H' p => let ⟨e, ps, h1, _, _, h2⟩ := p; hd D1 ps H' e hD h1 h2)
  rintro i x H' hi ⟨e, ps, h1, h2, h3, h4⟩
  have hil := (List.getElem?_eq_some_iff.mp hi).1
  have h := hs i x H' hi e (fun y H4 => ∃ acc, H4 D1 = some (.lst acc) ∧ acc.length < sizeLine ∧ (Ex H (upd H4 D1 (.lst (acc ++ [y]))) ∧ ∃ ps, upd H4 D1 (.lst (acc ++ [y])) D1 = some (.lst (ps.map V.ref)) ∧ D1 ∉ ps ∧ ps.length = i + 1 ∧ LL (upd H4 D1 (.lst (acc ++ [y]))) ps ((List.range (i + 1)).map f))) (fun p H4 np e4 hp => by
    have hA : H4 D1 = some (.lst (ps.map V.ref)) := e4 _ _ h1
    have hne : D1 ≠ p := ne_of_none h1 np
    refine ⟨_, hA, big_lt (by rw [List.length_map]; omega), (e.trans e4).mut hD, ps ++ [p], by rw [upd_same, List.map_append] <;> rfl, by simp [h2, hne], by simp [h3], ?_⟩
    rw [List.range_succ, List.map_append]
    exact ((h4.mono e4).set h2).snoc (by rw [upd_ne (Ne.symm hne)]; exact hp))
  simp only [tYes_eq]
  exact h
/-- two clauses over a list of lists: for r in rows for c in r -/
theorem lc2LL {a : Addr} {ps : List Addr} {zz : List (List V)} {r c : Nat} {vs vs1 : List Nat} (F : V → D) (hsrc : SqL K H a (ps.map V.ref)) (hl : LL H ps zz) (hz : zz.flatten.length ≤ 100000)
    (hw : ∀ x, wipe ((wipe σ vs).set r (some x)) vs = wipe σ vs) (hw1 : ∀ x y, wipe ((wipe ((wipe σ vs).set r (some x)) vs1).set c (some y)) vs1 = wipe ((wipe σ vs).set r (some x)) vs1) (hr : ∀ x, ((wipe σ vs).set r (some x))[r]? = some (some x))
    (hs : ∀ z ∈ zz.flatten, ∀ (x : V) (H' : Hp), Ex H H' → ∀ R : VK, (∀ y H4, Ex H' H4 → Rp K H4 y (F z) → R y H4) → te ((wipe ((wipe σ vs).set r (some x)) vs1).set c (some z)) H' R)
    (hd : ∀ D1 ys H', Ex H H' → H D1 = none → H' D1 = some (.lst ys) → RpL K H' ys (zz.flatten.map F) → Q (.ref D1) H') : Lc2It (Itl K a) (gName r) tYes (iList K (tVar r)) (gName c) tYes te vs vs1 σ H Q := fun D1 hD => by
  refine ⟨fun i m H' => m = ps.length - i ∧ i ≤ ps.length ∧ Ex H H' ∧ ∃ acc, H' D1 = some (.lst acc) ∧ RpL K H' acc ((zz.take i).flatten.map F), ⟨ps.length, rfl, Nat.zero_le _, Ex.new hD, [], upd_same, .nil⟩, ?_⟩
  rintro i m H' ⟨rfl, hi, e, acc, hA, hR⟩
  have hlen := hl.len
  have hsrc' : SqL K H' a (ps.map V.ref) := e.l hsrc
  by_cases hlt : i < ps.length
  · obtain ⟨zs, hzs, hp⟩ := hl.get (i := i) (p := ps[i]) (List.getElem?_eq_getElem hlt)
    have hx : (ps.map V.ref)[i]? = some (.ref ps[i]) := by rw [List.getElem?_map, List.getElem?_eq_getElem hlt]; rfl
    have htk : (zz.take (i + 1)).flatten = (zz.take i).flatten ++ zs := by
      rw [List.take_add_one, hzs]
      simp
    have hsub : ∀ k, ((zz.take i).flatten ++ zs.take k).length ≤ zz.flatten.length := by
      intro k
      have h1 : zz.flatten = (zz.take (i + 1)).flatten ++ (zz.drop (i + 1)).flatten := by rw [← List.flatten_append, List.take_append_drop]
      rw [h1, htk]
      simp only [List.length_append, List.length_take]
      omega
    refine .inr ⟨⟨_, _, hsrc', hx⟩, fun H2 => Ex H H2 ∧ ∃ acc, H2 D1 = some (.lst acc) ∧ RpL K H2 acc ((zz.take (i + 1)).flatten.map F), fun H2 ⟨e2, acc2, h2, r2⟩ => ⟨ps.length - (i + 1), by omega, rfl, by omega, e2, acc2, h2, r2⟩, ?_⟩
    rintro x H2 ⟨rfl, hy⟩
    have ex : x = .ref ps[i] := Option.some.inj ((hy _ hsrc').symm.trans hx)
    subst ex
    refine ⟨hw _, ?_⟩
    refine x_yes (b_t rfl ?_)
    refine ⟨_, hr _, _, rfl, ⟨zs, SqL.of (e _ _ hp)⟩, ?_⟩
    refine ⟨fun j k H3 => k = zs.length - j ∧ j ≤ zs.length ∧ Ex H H3 ∧ ∃ acc, H3 D1 = some (.lst acc) ∧ RpL K H3 acc (((zz.take i).flatten ++ zs.take j).map F), ⟨zs.length, rfl, Nat.zero_le _, e, acc, hA, by simpa using hR⟩, ?_⟩
    rintro j k H3 ⟨rfl, hj, e3, acc3, hA3, hR3⟩
    have hsz : SqL K H3 ps[i] zs := SqL.of (e3 _ _ hp)
    by_cases hjl : j < zs.length
    · have hzj : zs[j]? = some zs[j] := List.getElem?_eq_getElem hjl
      refine .inr ⟨⟨_, _, hsz, hzj⟩, fun H4 => Ex H H4 ∧ ∃ acc, H4 D1 = some (.lst acc) ∧ RpL K H4 acc (((zz.take i).flatten ++ zs.take (j + 1)).map F), fun H4 ⟨e4, acc4, h4, r4⟩ => ⟨zs.length - (j + 1), by omega, rfl, by omega, e4, acc4, h4, r4⟩, ?_⟩
      rintro y H4 ⟨rfl, hy4⟩
      have ey : y = zs[j] := Option.some.inj ((hy4 _ hsz).symm.trans hzj)
      subst ey
      refine ⟨hw1 _ _, ?_⟩
      refine x_yes (b_t rfl ?_)
      have hmem : zs[j] ∈ zz.flatten := List.mem_flatten.mpr ⟨zs, List.mem_of_getElem? hzs, List.getElem_mem hjl⟩
      refine hs _ hmem _ _ e3 _ fun v H5 e5 r5 => ?_
      have hA5 := e5 _ _ hA3
      refine ⟨acc3, hA5, big_lt ?_, (e3.trans e5).mut hD, acc3 ++ [v], upd_same, ?_⟩
      · have h6 := hR3.len
        rw [List.length_map] at h6
        have h7 := hsub (j + 1)
        have h8 : ((zz.take i).flatten ++ zs.take j).length < ((zz.take i).flatten ++ zs.take (j + 1)).length := by
          simp only [List.length_append, List.length_take]
          omega
        omega
      · have h9 : (zz.take i).flatten ++ zs.take (j + 1) = ((zz.take i).flatten ++ zs.take j) ++ [zs[j]] := by
          rw [List.take_add_one, hzj, List.append_assoc] <;> rfl
        rw [h9, List.map_append]
        exact ((hR3.mono e5).im (Im.set hA5)).snoc (r5.im (Im.set hA5))
    · have ej : j = zs.length := by omega
      subst ej
      refine .inl ⟨⟨zs, hsz, Nat.le_refl _⟩, e3, acc3, hA3, ?_⟩
      rw [htk]
      rw [List.take_length] at hR3
      exact hR3
  · have ei : i = ps.length := by omega
    subst ei
    refine .inl ⟨⟨_, hsrc', by simp⟩, hd D1 acc H' e hD hA ?_⟩
    rw [hlen, List.take_length] at hR
    exact hR
end

/-! ### calls of the text's defs -/
section
variable (P : Program) (w : World) (K : PySem.W.Frag) (mg : Str → Option Value) (base : Heap)
/-- the def x keeps the promise sp; all its parameters are given by place -/
structure Cal (x : Str) (k : Nat) (ps : List Str) (sp : Sp) : Prop where
  ex : ∃ fd, mg x = some (.ref (He.ga K x)) ∧ PySem.W.keepIn K (.ref (He.ga K x)) = true ∧ Binds K fd ps [] ∧ FnOk P w K mg base CX0 k (He.ga K x) fd ps sp
/-- .. the defaults dvs fill up -/
structure CalD (x : Str) (k : Nat) (ps : List Str) (sp : Sp) (dvs : List V) : Prop where
  ex : ∃ fd ds, mg x = some (.ref (He.ga K x)) ∧ PySem.W.keepIn K (.ref (He.ga K x)) = true ∧ Vals dvs ds ∧ Binds K fd ps ds ∧ FnOk P w K mg base CX0 k (He.ga K x) fd ps sp
/-- .. by n places and the keywords ks -/
structure CalN (x : Str) (k : Nat) (ps : List Str) (sp : Sp) (n : Nat) (ks : List Str) (gV : List V → List V → List V) : Prop where
  ex : ∃ fd g, mg x = some (.ref (He.ga K x)) ∧ PySem.W.keepIn K (.ref (He.ga K x)) = true ∧ KBn K fd ps n ks g gV ∧ FnOk P w K mg base CX0 k (He.ga K x) fd ps sp
end
section
variable {X : Cx} {k n : Nat} {ps ks : List Str} {sp : Sp} {dvs : List V} {x : Str} {p pos : Pos} {e : Expr} {es : List Expr} {kws : List Keyword} {t tk : TA} {gV : List V → List V → List V}
theorem pe_cal (c : Cal X.prog X.w X.K X.mg X.base x k ps sp) (hr : Room k X.A) (hg : Gl X x) (ha : PA X (e :: es) t) (hdb : (x == ("__debug__" : Str)) = false := by decide) (he : starEach (e :: es) X.env = (false, eval e X.env) :: starEach es X.env := by rfl) (hpl : (backTo pos (starEach es X.env)).any (·.1) = false := by rfl) :
    PE X (.Call (.Name x p) (e :: es) [] pos) (tCall sp [] E0 t) := by
  obtain ⟨fd, m, kp, b, G⟩ := c.ex
  exact pe_call G hr hg m kp b .nil pass0 ha hdb he hpl
theorem pe_cal0 (c : Cal X.prog X.w X.K X.mg X.base x k ps sp) (hr : Room k X.A) (hg : Gl X x) (hdb : (x == ("__debug__" : Str)) = false := by decide) : PE X (.Call (.Name x p) [] [] pos) (tCall sp [] E0 tNil) := by
  obtain ⟨fd, m, kp, b, G⟩ := c.ex
  exact pe_call0 G hr hg m kp b .nil pass0 hdb
theorem pe_calD (c : CalD X.prog X.w X.K X.mg X.base x k ps sp dvs) (hr : Room k X.A) (hg : Gl X x) (ha : PA X (e :: es) t) (hdb : (x == ("__debug__" : Str)) = false := by decide) (he : starEach (e :: es) X.env = (false, eval e X.env) :: starEach es X.env := by rfl) (hpl : (backTo pos (starEach es X.env)).any (·.1) = false := by rfl) :
    PE X (.Call (.Name x p) (e :: es) [] pos) (tCall sp dvs E0 t) := by
  obtain ⟨fd, ds, m, kp, hv, b, G⟩ := c.ex
  exact pe_call G hr hg m kp b hv pass0 ha hdb he hpl
theorem pe_calN {m : Nat} (c : CalN X.prog X.w X.K X.mg X.base x k ps sp n ks gV) (hr : Room k X.A) (hg : Gl X x) (ha : PA X (e :: es) t) (hkw : PK X kws tk) (hall : (backToKw pos (keywordEach kws X.env)).all (·.1.isSome) = true := by rfl) (hks : (backToKw pos (keywordEach kws X.env)).filterMap (·.1) = ks := by rfl)
    (hdb : (x == ("__debug__" : Str)) = false := by decide) (he : starEach (e :: es) X.env = (false, eval e X.env) :: starEach es X.env := by rfl)
    (hpl : ((backTo pos (starEach (e :: es) X.env)).any (·.1) || (backToKw pos (keywordEach kws X.env)).any (·.1.isNone)) = false := by rfl) (hm : ks.length = m := by rfl) :
    PE X (.Call (.Name x p) (e :: es) kws pos) (tCallN n m sp gV E0 t tk) := by
  subst hm
  obtain ⟨fd, g, m, kp, b, G⟩ := c.ex
  exact L2.pe_callN G hr hg m kp b pass0 ha hkw hall hks hdb he hpl
end
end Xl

/-! Own: instances of the text's own classes, step by step (own work). -/
namespace Xl
open PySem PySem.Spec PyProof.Rows L2

/-- a statement that no run reaches -/
def tNo : TS := fun _ _ _ => False
theorem ps_no {X : Cx} {st : Stmt} : PS X st tNo := ⟨fun _ _ _ _ _ _ h => h.elim⟩
def tNoE : TE := fun _ _ _ => False
theorem pe_no {X : Cx} {e : Expr} : PE X e tNoE := ⟨fun _ _ _ _ _ _ h => h.elim⟩

section
variable (P : Program) (w : World) (K : PySem.W.Frag) (mg : Str → Option Value) (base : Heap)
/-- C(..) by its __init__ -/
structure CalM (x : Str) (k : Nat) (ps : List Str) (sp : Sp) : Prop where
  ex : ∃ f fd, mg x = some (.ref (He.ga K x)) ∧ Mk K (He.ga K x) f ∧ Binds K fd ps [] ∧ FnOk P w K mg base CX0 k f fd ps sp
/-- a property of C -/
structure CalP (x f : Str) (k : Nat) (ps : List Str) (sp : Sp) : Prop where
  ex : ∃ p g fd, Cls K (He.ga K x) ∧ PropOf K (He.ga K x) f p g ∧ Binds K fd ps [] ∧ FnOk P w K mg base CX0 k g fd ps sp
/-- a classmethod of C -/
structure CalC (x m : Str) (k : Nat) (ps : List Str) (sp : Sp) : Prop where
  ex : ∃ p g fd, mg x = some (.ref (He.ga K x)) ∧ ClX.CRead K (He.ga K x) (.type "type") ∧ ClX.CMet K (He.ga K x) (.type "type") m p g ∧ Binds K fd ps [] ∧ FnOk P w K mg base CX0 k g fd ps sp
/-- a method of C -/
structure CalT (x m : Str) (k : Nat) (ps : List Str) (sp : Sp) : Prop where
  ex : ∃ g fd, Cls K (He.ga K x) ∧ Meth K (He.ga K x) m g ∧ Binds K fd ps [] ∧ FnOk P w K mg base CX0 k g fd ps sp
end

/-- c(e, ..), c a value that is the class at C -/
def tMakeV (C : Addr) (sp : Sp) (tf : TE) (t : TA) : TE := fun σ H Q => tf σ H fun c H0 => c = .ref C ∧ t σ H0 fun vs H1 => ∀ x dx, H1 x = none → H1 dx = none → dx ≠ x →
  sp (.ref x :: vs) (upd (upd H1 dx (.own x)) x (.ins C dx [])) (fun v H2 => v = .non ∧ Q (.ref x) H2) E0
section
variable {X : Cx} {k n : Nat} {ps ks : List Str} {sp : Sp} {x f m : Str} {p pos apos : Pos} {o e : Expr} {es : List Expr} {t : TA} {tf ta : TE}
theorem pe_calM (c : CalM X.prog X.w X.K X.mg X.base x k ps sp) (hr : Room (k + 1) X.A) (hg : Gl X x) (ha : PA X (e :: es) t)
    (hdb : (x == ("__debug__" : Str)) = false := by decide) (he : starEach (e :: es) X.env = (false, eval e X.env) :: starEach es X.env := by rfl) (hpl : (backTo pos (starEach es X.env)).any (·.1) = false := by rfl) :
    PE X (.Call (.Name x p) (e :: es) [] pos) (tMake (He.ga X.K x) sp [] E0 t) := by
  obtain ⟨g, fd, m, M, b, F⟩ := c.ex
  exact pe_make M F hr hg m b .nil pass0 ha hdb he hpl
theorem pe_calMV {y : Str} (c : CalM X.prog X.w X.K X.mg X.base x k ps sp) (hr : Room (k + 1) X.A) (hf : PE X (.Name y p) tf) (ha : PA X (e :: es) t)
    (he : starEach (e :: es) X.env = (false, eval e X.env) :: starEach es X.env := by rfl) (hpl : (backTo pos (starEach es X.env)).any (·.1) = false := by rfl) :
    PE X (.Call (.Name y p) (e :: es) [] pos) (tMakeV (He.ga X.K x) sp tf t) := by
  obtain ⟨g, fd, _, M, b, F⟩ := c.ex
  refine ⟨fun pins s σ H Q I h => ?_⟩
  refine wpAny_Call_Name_kw (thn (hf.run pins s σ H _ I h) fun u s1 ⟨c, H1, I1, rc, ec, q1⟩ => ?_)
  subst ec
  obtain rfl : u = Value.ref _ := rc
  refine PySem.W.callWith_K (h₀ := X.base) I.ok.mod.kin M.kp (thn (ha.run pos pins s1 σ H1 _ I1 q1) fun us s2 ⟨vs, H2, I2, r, q⟩ => ⟨I2.kIn, ?_⟩) he hpl
  exact run_make M F hr b .nil pass0 I2 r (fun y dx h1 h2 h3 => by rw [List.append_nil]; exact q y dx h1 h2 h3)
theorem pe_calP (c : CalP X.prog X.w X.K X.mg X.base x f k ps sp) (hr : Room (k + 1) X.A) (he : PE X e ta) (hab : attributeBase e f X.env (eval e X.env) = eval e X.env := by rfl) :
    PE X (.Attribute e f pos) (tProp (He.ga X.K x) sp [] E0 ta) := by
  obtain ⟨q, g, fd, C, hp, b, F⟩ := c.ex
  exact pe_prop he C hp F hr b .nil pass0 hab
theorem pe_calT {pl : Sem Bool} (c : CalT X.prog X.w X.K X.mg X.base x m k ps sp) (hr : Room k X.A) (he : PE X o ta) (ha : PA X (e :: es) t)
    (hst : starEach (e :: es) X.env = (false, eval e X.env) :: starEach es X.env := by rfl) (hpl : (backTo pos (starEach es X.env)).any (·.1) = false := by rfl)
    (ht : eval (.Call (.Attribute o m apos) (e :: es) [] pos) X.env = (do
      let ov ← eval o X.env
      standAt apos.atName
      let (f, first) ← holding [ov] (getMethod ov m pl)
      callWith pos f first (backTo pos (starEach (e :: es) X.env)) (backToKw pos (keywordEach [] X.env))) := by rfl) :
    PE X (.Call (.Attribute o m apos) (e :: es) [] pos) (tMeth (He.ga X.K x) m sp [] E0 ta t) := by
  obtain ⟨g, fd, C, M, b, F⟩ := c.ex
  exact pe_meth (pl := pl) he C M F hr b .nil pass0 ha hst hpl ht
theorem pe_calC {pl : Sem Bool} (c : CalC X.prog X.w X.K X.mg X.base x m k ps sp) (hr : Room k X.A) (he : PE X o ta) (ha : PA X (e :: es) t)
    (hst : starEach (e :: es) X.env = (false, eval e X.env) :: starEach es X.env := by rfl) (hpl : (backTo pos (starEach es X.env)).any (·.1) = false := by rfl)
    (ht : eval (.Call (.Attribute o m apos) (e :: es) [] pos) X.env = (do
      let ov ← eval o X.env
      standAt apos.atName
      let (f, first) ← holding [ov] (getMethod ov m pl)
      callWith pos f first (backTo pos (starEach (e :: es) X.env)) (backToKw pos (keywordEach [] X.env))) := by rfl) :
    PE X (.Call (.Attribute o m apos) (e :: es) [] pos) (ClX.tCMeth (He.ga X.K x) sp E0 ta t) := by
  obtain ⟨q, g, fd, mm, r, cm, b, F⟩ := c.ex
  exact ClX.pe_cmeth (pl := pl) he r cm ((F.raw b .nil).imp fun vs H Q E h => by rw [List.append_nil]; exact h) hr pass0 ha hst hpl ht
end

/-! ### x != y, x == y, x < y, str(x) by the text's own methods -/
section
variable {M : Model} {prog : Program} {w : World} {A : Around} {E : Value → Shared → Prop} {s : Shared} {K : PySem.W.Frag} {x y C f : Addr} {ox oy : Obj} {od od' : Option Obj}
theorem ifBound_ne {args : List Value} {Q : Option Value → Shared → Prop} (X : K.In s.heap) (I : PySem.W.InstAt s.heap x ox C od) (hs : PySem.W.findIn K (.ref C) "__ne__" = some (some (.builtin "object.__ne__")))
    (h : wpAny M A (call (.builtin "object.__ne__") (.ref x :: args)) (fun v => Q (some v)) E s) : wpAny M A (callSpecialIfBound? (.ref x) "__ne__" args) Q E s := by
  simp only [callSpecialIfBound?, bindSpecialIfBound?]
  refine wpAny_holding (wpAny_bind (wpAny_bind (wpAny_bind (I.type.here ((PySem.W.looks_findIn X hs).here ?_)))))
  refine wpAny_bind (wpAny_askSetting (wpAny_ite ?_))
  have fin : wpAny M A (call (.builtin "object.__ne__") ([.ref x] ++ args) >>= fun v => pure (some v)) Q E s := wpAny_bind (wpAny_mono h (fun v s' h' => wpAny_pure h') fun _ _ h' => h')
  split
  · exact wpAny_bind (wpAny_of_eq (F.cmp_object.ne.bind _) (wpAny_pure (by exact fin)))
  · exact wpAny_tryCatch (wpAny_bind (wpAny_of_eq (F.cmp_object.ne.bind _) (wpAny_pure (by exact fin))))
theorem entry_ne {Q : PySem.Fin → Shared → Prop} (hu : A.units < cLine) (X : K.In s.heap) (I : PySem.W.InstAt s.heap x ox C od) (hs : PySem.W.findIn K (.ref C) "__eq__" = some (some (.ref f))) (hf : PySem.W.isFn K (.ref f) = true)
    (h : wpAny (model prog w) A (call (.ref f) [.ref x, .ref y]) (fun v s' => ∃ b, v = .bool b ∧ Q (.done (.ret (.bool (!b)))) s') E s) :
    wpAny (model prog w) A (Builtin.«object.__ne__» ⟨[.ref x, .ref y], []⟩) Q E s := by
  unfold Builtin.«object.__ne__»
  repeat (first
    | with_reducible refine wpAny_cRoomFor hu ?_
    | (refine wpAny_bind (m := callSpecialIfBound? (.ref x) (Str.ofString "__eq__") [.ref y])
        (PySem.W.ifBound_K X I hs hf (wpAny_mono h (fun r s' hr => by
          obtain ⟨b, rfl, hq⟩ := hr
          repeat (first | exact hq | exact wpAny_pure hq | exact wpAny_truthy_bool hq | (refine wpAny_bind (m := truthy (.bool _)) (wpAny_truthy_bool ?_)) | wp_step)) fun _ _ e => e)))
    | wp_step)
theorem ne_own {Q : Value → Shared → Prop} (hu : A.units + 1 < cLine) (X : K.In s.heap) (I : PySem.W.InstAt s.heap x ox C od) (J : PySem.W.InstAt s.heap y oy C od') (hm : PySem.W.mroIn K C (.type "object") = some true)
    (hn : PySem.W.findIn K (.ref C) "__ne__" = some (some (.builtin "object.__ne__"))) (hs : PySem.W.findIn K (.ref C) "__eq__" = some (some (.ref f))) (hf : PySem.W.isFn K (.ref f) = true)
    (h : wpAny (model prog w) A.in1 (call (.ref f) [.ref x, .ref y]) (fun v s' => ∃ b, v = .bool b ∧ Q (.bool (!b)) s') E s) :
    wpAny (model prog w) A (richCompare .NotEq (.ref x) (.ref y)) Q E s := by
  have one : wpAny (model prog w) A (tryCompare (.ref x) "__ne__" (.ref y)) (fun r s' => ∃ b, r = some (.bool b) ∧ Q (.bool b) s') E s := by
    unfold tryCompare
    refine wpAny_bind (ifBound_ne X I hn (wpAny_call (codeAny_call_builtin F.cmp_object.ne.plain F.cmpEntry_ne (PySem.W.check_slot F.cmpKind_ne F.cmpSplit_ne (I.type.andThen (PySem.W.looks_mroIn X hm)) (F.cmpArgs_ne _ _)
      (entry_ne (A := A.in1) hu X I hs hf (wpAny_mono h (fun v s' hv => ?_) fun _ _ e => e))))))
    obtain ⟨b, rfl, hq⟩ := hv
    exact ⟨b, rfl, wpAny_pure ⟨_, rfl, hq⟩⟩
  unfold richCompare
  simp only [oneThing_ref]
  refine wpAny_holding (wpAny_bind (wpAny_cRoomFor (Nat.lt_of_succ_lt hu) ?_))
  rw [cmpInfo_NotEq]
  dsimp only
  refine wpAny_bind (I.type.here (wpAny_bind (J.type.here ?_)))
  rw [show (Value.ref C != Value.ref C) = false from by simp]
  simp only [Bool.false_eq_true, if_false]
  refine wpAny_bind (wpAny_pure ?_)
  simp only [Bool.false_eq_true, if_false]
  refine wpAny_bind (wpAny_mono one (fun v s' hv => ?_) fun _ _ e => e)
  obtain ⟨b, rfl, hq⟩ := hv
  first | exact wpAny_pure hq | exact wpAny_pure (wpAny_pure hq)
end

/-- two instances of the class at C, compared by the own method whose promise is sp -/
def rOwn2 (C : Addr) (sp : Sp) (g : Bool → Bool) : R2 := fun x y H Q => ∃ a b dx dy fs gs, x = .ref a ∧ y = .ref b ∧ H a = some (.ins C dx fs) ∧ H b = some (.ins C dy gs) ∧ sp [.ref a, .ref b] H (fun v H' => ∃ r, v = .bl r ∧ Q (.bl (g r)) H') E0
/-- what != asks of the class -/
structure NeOk (K : PySem.W.Frag) (C : Addr) : Prop where
  mro : PySem.W.mroIn K C (.type "object") = some true
  ne : PySem.W.findIn K (.ref C) "__ne__" = some (some (.builtin "object.__ne__"))
section
variable {X : Cx} {k : Nat} {ps : List Str} {sp : Sp} {x : Str}
theorem run_own {A : Around} {pins : List (Addr × Obj)} {σ : L2.St} {H : Hp} {s : Shared} {Q : VK} {a b g : Addr} {fd : FuncData} (F : FnOk X.prog X.w X.K X.mg X.base CX0 k g fd ps sp) (hb : Binds X.K fd ps []) (hr : Room k A) (hA : A.frames = X.A.frames) (I : Inv X pins σ H s)
    (h : sp [.ref a, .ref b] H Q E0) : wpAny (model X.prog X.w) A (call (.ref g) [.ref a, .ref b]) (EP X pins σ Q) X.xe s := by
  have e0 : Env0 X.prog X.w X.K X.mg X.base A X.stack s H := by
    have e := I.env0
    exact ⟨by rw [hA]; exact e.frames, e.mod, e.bs, e.bsz, e.funs, e.frf, e.hok, e.bare⟩
  have hl := F.len _ _ _ _ h
  have r2 : Vals [V.ref a, V.ref b] [Value.ref a, Value.ref b] := .cons rfl (.cons rfl .nil)
  refine wpAny_call (codeAny_mono (F.run A X.stack s H ⟨[.ref a, .ref b], []⟩ [.ref a, .ref b] [.ref a, .ref b] _ E0 hr e0 (by
    have := hb s [.ref a, .ref b] I.kIn (by simpa using hl)
    simpa using this) r2 h) fun r s' hq => ?_)
  cases r with
  | error e => exact pass0 pins σ H s e s' I hq
  | ok fl =>
    cases fl with
    | ret w => exact I.after hq
    | next => exact False.elim hq
    | brk => exact False.elim hq
    | cont => exact False.elim hq
theorem op_neOwn (c : CalT X.prog X.w X.K X.mg X.base x "__eq__" k ps sp) (n : NeOk X.K (He.ga X.K x)) (hr : Room (k + 1) X.A) : OpR X (compareOp .NotEq) (rOwn2 (He.ga X.K x) sp (!·)) := by
  intro pins s σ H y z u v Q I ry rz h
  obtain ⟨a, b, dx, dy, fs, gs, rfl, rfl, ha, hb, hq⟩ := h
  cases ry
  cases rz
  obtain ⟨g, fd, C, M, bd, F⟩ := c.ex
  obtain ⟨mA, J, _⟩ := ins_get I.hok ha
  obtain ⟨mB, J', _⟩ := ins_get I.hok hb
  obtain ⟨od, J, _⟩ := J.look
  obtain ⟨od', J', _⟩ := J'.look
  refine ne_own (hu_of hr) I.kIn J J' n.mro n.ne M.at_ M.fn ?_
  refine wpAny_mono (run_own F bd hr.in1 rfl I hq) (fun v s' z => ?_) fun _ _ e => e
  obtain ⟨w, H', I', rw, b, rfl, q⟩ := z
  cases rw
  exact ⟨b, rfl, .bl (!b), H', I', rfl, q⟩
theorem op_own2 {op : CmpOp} {m : Str} (c : CalT X.prog X.w X.K X.mg X.base x m k ps sp) (hr : Room k X.A) (hop : ∀ a b, compareOp op a b = richCompare op a b) (hm : m = (cmpInfo op).2.1) : OpR X (compareOp op) (rOwn2 (He.ga X.K x) sp id) := by
  intro pins s σ H y z u v Q I ry rz h
  obtain ⟨a, b, dx, dy, fs, gs, rfl, rfl, ha, hb, hq⟩ := h
  cases ry
  cases rz
  obtain ⟨g, fd, C, M, bd, F⟩ := c.ex
  obtain ⟨mA, J, _⟩ := ins_get I.hok ha
  obtain ⟨mB, J', _⟩ := ins_get I.hok hb
  obtain ⟨od, J, _⟩ := J.look
  obtain ⟨od', J', _⟩ := J'.look
  obtain ⟨m', hF⟩ := I.fr
  rw [hop]
  refine PySem.W.cmp_K (op := op) (tb := .ref (He.ga X.K x)) (Nat.lt_of_succ_lt (hu_of hr)) hF I.ok.mod.kin J J'.type (by simp [PySem.W.notFirst]) (by rw [← hm]; exact M.at_) M.fn ?_
  refine wpAny_mono (run_own F bd hr rfl I hq) (fun v s' z => ?_) fun _ _ e => e
  obtain ⟨w, H', I', rw, b, rfl, q⟩ := z
  cases rw
  exact ⟨.bl b, H', I', rfl, q⟩
/-- str(x), x an instance with the own __str__ -/
def rStrOwn (C : Addr) (sp : Sp) : List V → Hp → VK → Prop := fun xs H Q => ∃ a dx fs, xs = [.ref a] ∧ H a = some (.ins C dx fs) ∧ sp [.ref a] H (fun v H' => ∃ z, v = .str z ∧ Q v H') E0
theorem call_strOwn (c : CalT X.prog X.w X.K X.mg X.base x "__str__" k ps sp) (hr : Room (k + 2) X.A) : CallR X (.type "str") (rStrOwn (He.ga X.K x) sp) := by
  intro pins s σ H xs us Q I r h
  obtain ⟨a, dx, fs, rfl, ha, q⟩ := h
  obtain ⟨u, rfl, ru⟩ := r.one
  cases ru
  obtain ⟨g, fd, C, M, bd, F⟩ := c.ex
  obtain ⟨mA, J, _⟩ := ins_get I.hok ha
  obtain ⟨od, J, _⟩ := J.look
  refine PySem.W.kso_call (Nat.lt_of_succ_lt (hu_of hr.in1.in1)) I.kIn J M.at_ M.fn ?_
  have e0 : Env0 X.prog X.w X.K X.mg X.base X.A.in1.in1 X.stack s H := I.env0.in1.in1
  have hl := F.len _ _ _ _ q
  have r2 : Vals [V.ref a] [Value.ref a] := .cons rfl .nil
  refine wpAny_call (codeAny_mono (F.run X.A.in1.in1 X.stack s H ⟨[.ref a], []⟩ [.ref a] [.ref a] _ E0 hr.in1.in1 e0 (by
    have := bd s [.ref a] I.kIn (by simpa using hl)
    simpa using this) r2 q) fun r s' hq => ?_)
  cases r with
  | error e => exact pass0 pins σ H s e s' I hq
  | ok fl =>
    cases fl with
    | ret w =>
      obtain ⟨z, H', I', rz, y, rfl, q2⟩ := I.after hq
      obtain ⟨t, rfl⟩ := rz
      exact ⟨.str y, H', I', ⟨t, rfl⟩, q2⟩
    | next => exact False.elim hq
    | brk => exact False.elim hq
    | cont => exact False.elim hq
end

/-! ### text * int, {i:d}, f-strings -/
/-- z repeated, as the model makes it -/
def repS (z : Str) (n : Int) : Str := if n < 1 then Str.empty else if (n == 1 || z.length == 0) = true then z else ⟨(List.replicate n.toNat z.cps).foldl (· ++ ·) #[]⟩
theorem fold_size {α : Type} (a : Array α) : ∀ (k : Nat) (b : Array α), ((List.replicate k a).foldl (· ++ ·) b).size = b.size + k * a.size
  | 0, b => by simp
  | k + 1, b => by
    rw [List.replicate_succ, List.foldl_cons, fold_size a k, Array.size_append, Nat.add_mul]
    omega
theorem repS_len {z : Str} {n : Int} (hz : z.length = 1) (h0 : 0 ≤ n) (h1 : n ≤ 100) : (repS z n).length ≤ 100 := by
  unfold repS
  split
  · decide
  · split
    · omega
    · show (Array.size _) ≤ 100
      rw [fold_size, show z.cps.size = 1 from hz]
      simp
      omega
def rRepS : R2 := fun x y H Q => ∃ z n, x = .str z ∧ y = .int n ∧ z.length = 1 ∧ 0 ≤ n ∧ n ≤ 100 ∧ Q (.str (repS z n)) H
theorem op_repS {X : Cx} : OpR X (binaryOp .Mult) rRepS := by
  intro pins s σ H x y v u Q I rx ry h
  obtain ⟨z, n, rfl, rfl, hz, h0, h1, q⟩ := h
  obtain ⟨t, rfl⟩ := rx
  obtain ⟨t2, rfl⟩ := ry
  have hl := repS_len hz h0 h1
  refine P.mul_str (by simp; omega) (fun hn _ => ?_) (fun hn _ => ?_) ?_
  · rw [hz]
    have : (1 : Int) ≤ (2 ^ 63 - 1) / n := by
      rw [Int.le_ediv_iff_mul_le (by omega)]
      omega
    omega
  · rw [hz]
    obtain ⟨k, rfl⟩ : ∃ k : Nat, n = (k : Int) := ⟨n.toNat, by omega⟩
    rw [Int.toNat_natCast, Nat.one_mul]
    unfold Builtin.Str.tooLong
    exact decide_eq_false (by rw [sizeLine_eq]; omega)
  · unfold repS at q hl
    by_cases c1 : n < 1
    · rw [if_pos c1] at q ⊢
      exact ⟨by decide, .str Str.empty, H, I.tok _, ⟨_, rfl⟩, q⟩
    · rw [if_neg c1] at q hl ⊢
      by_cases c2 : (n == 1 || z.length == 0) = true
      · rw [if_pos c2] at q ⊢
        exact ⟨.str z, H, I, ⟨_, rfl⟩, q⟩
      · rw [if_neg c2] at q hl ⊢
        exact ⟨big_le (Nat.le_trans hl (by decide)), .str _, H, I.tok _, ⟨_, rfl⟩, q⟩
def tFmtD (te : TE) : TE := fun σ H Q => te σ H fun x H1 => ∃ i : Int, x = .int i ∧ 0 ≤ i ∧ i ≤ 10 ∧ Q (.str (toString i)) H1
theorem fmtd {prog : Program} {w : World} {A : Around} {E : Value → Shared → Prop} {s : Shared} {t : Tok} {i : Int} {Q : Value → Shared → Prop} (h0 : 0 ≤ i) (h1 : i ≤ 10) (h : ∀ t' k, Q (.str (toString i) t') { s with toks := k }) :
    wpAny (model prog w) A (formatField (.int i t) (Str.ofString "d")) Q E s := by
  refine PySem.W.KXf.field_int (spec' := Str.ofString "d") rfl (by decide +kernel) (by decide +kernel) ?_ h
  obtain ⟨k, rfl⟩ : ∃ k : Nat, i = (k : Int) := ⟨i.toNat, by omega⟩
  match k, h1 with
  | 0, _ => kxf_run_i
  | 1, _ => kxf_run_i
  | 2, _ => kxf_run_i
  | 3, _ => kxf_run_i
  | 4, _ => kxf_run_i
  | 5, _ => kxf_run_i
  | 6, _ => kxf_run_i
  | 7, _ => kxf_run_i
  | 8, _ => kxf_run_i
  | 9, _ => kxf_run_i
  | 10, _ => kxf_run_i
  | n + 11, h1 => exact absurd h1 (by omega)
def tJoin (ts : List TE) : TE := fun σ H Q => tJs ts Str.empty σ H fun out H1 => Q (.str out) H1
theorem pe_fmtD {X : Cx} {e : Expr} {te : TE} {pos p1 p2 : Pos} {z : Nat} (he : PE X e te) : PE X (.FormattedValue e (-1) (some (.JoinedStr [.Constant (.str (Str.ofString "d")) z p1] p2)) pos) (tFmtD te) := by
  refine ⟨fun pins s σ H Q I h => ?_⟩
  refine wpAny_FormattedValue_spec (thn (he.run pins s σ H _ I h) fun v s1 ⟨x, H1, I1, r1, i, ei, h0, h1, q⟩ => ?_)
  subst ei
  obtain ⟨t, rfl⟩ := r1
  refine wpAny_JoinedStr_one (thn (pe_str.run pins s1 σ H1 (fun y H2 => y = .str (Str.ofString "d") ∧ Q (.str (toString i)) H2) I1 ⟨rfl, q⟩) fun v2 s2 ⟨y, H2, I2, r2, ey, q2⟩ => ?_)
  subst ey
  obtain ⟨t2, rfl⟩ := r2
  exact ⟨_, _, rfl, fmtd h0 h1 fun t' k => ⟨.str (toString i), H2, I2.tok _, ⟨_, rfl⟩, q2⟩⟩
section
variable {K : PySem.W.Frag} {σ : L2.St} {H : Hp} {Q : VK} {QA : List V → Hp → Prop} {ta tf te : TE} {al : TA} {C : Addr} {sp : Sp}
/-! ### steps -/
/-- a new instance of C, its __init__ run -/
def Mkd (C : Addr) (sp : Sp) (vs : List V) (H : Hp) (Q : VK) : Prop := ∀ x dx, H x = none → H dx = none → dx ≠ x → sp (.ref x :: vs) (upd (upd H dx (.own x)) x (.ins C dx [])) (fun v H2 => v = .non ∧ Q (.ref x) H2) E0
theorem x_mk (h : al σ H fun vs H1 => Mkd C sp vs H1 Q) : tMake C sp [] E0 al σ H Q := by
  unfold tMake
  simp only [List.append_nil]
  exact h
def IsC (C : Addr) (x : V) (p : Prop) : Prop := x = .ref C ∧ p
theorem x_isC {p : Prop} (h : p) : IsC C (.ref C) p := ⟨rfl, h⟩
theorem x_mkV (h : tf σ H fun c H0 => IsC C c (al σ H0 fun vs H1 => Mkd C sp vs H1 Q)) : tMakeV C sp tf al σ H Q := h
theorem x_cmeth (h : ta σ H fun x H1 => IsC C x (al σ H1 fun vs H2 => sp (.ref C :: vs) H2 Q E0)) : ClX.tCMeth C sp E0 ta al σ H Q := h
/-- an instance of C is asked -/
def Ofc (C : Addr) (x : V) (H : Hp) (k : Addr → Prop) : Prop := ∃ a dx fs, x = .ref a ∧ H a = some (.ins C dx fs) ∧ k a
theorem x_Ofc {a dx : Addr} {fs : List (Str × V)} {k : Addr → Prop} (h : H a = some (.ins C dx fs)) (q : k a) : Ofc C (.ref a) H k := ⟨a, dx, fs, rfl, h, q⟩
theorem x_prop (h : ta σ H fun x H1 => Ofc C x H1 fun a => sp [.ref a] H1 Q E0) : tProp C sp [] E0 ta σ H Q := h
def Fld (K : PySem.W.Frag) (f : Str) (x : V) (H : Hp) (Q : VK) : Prop := ∃ a C dx fs v, x = .ref a ∧ H a = some (.ins C dx fs) ∧ Cls K C ∧ NoAttr K C f ∧ fs.lookup f = some v ∧ Q v H
theorem x_fld {f : Str} (h : ta σ H fun x H1 => Fld K f x H1 Q) : tFld K ta f σ H Q := h
theorem x_Fld {f : Str} {a dx : Addr} {fs : List (Str × V)} {v : V} (h : H a = some (.ins C dx fs)) (c : Cls K C) (n : NoAttr K C f) (l : fs.lookup f = some v) (q : Q v H) : Fld K f (.ref a) H Q := ⟨a, C, dx, fs, v, rfl, h, c, n, l, q⟩
def SFld (K : PySem.W.Frag) (f : Str) (x y : V) (H : Hp) (k : Hp → Prop) : Prop := ∃ a C dx fs, x = .ref a ∧ H a = some (.ins C dx fs) ∧ Cls K C ∧ NoAttr K C f ∧ fs.length < 1000 ∧ k (upd H a (.ins C dx (putF f y fs)))
theorem x_sfld {f : Str} {nx : L2.St → Hp → Prop} {rt : VK} {bk ct : L2.St → Hp → Prop} (h : te σ H fun y H1 => ta σ H1 fun x H2 => SFld K f x y H2 fun H3 => nx σ H3) : sFld K ta te f ⟨nx, rt, bk, ct⟩ σ H := h
theorem x_SFld {f : Str} {a dx : Addr} {fs : List (Str × V)} {y : V} {k : Hp → Prop} (h : H a = some (.ins C dx fs)) (c : Cls K C) (n : NoAttr K C f) (l : fs.length < 1000) (q : k (upd H a (.ins C dx (putF f y fs)))) : SFld K f (.ref a) y H k := ⟨a, C, dx, fs, rfl, h, c, n, l, q⟩
theorem x_own2 {a b dx dy : Addr} {fs gs : List (Str × V)} {g : Bool → Bool} (ha : H a = some (.ins C dx fs)) (hb : H b = some (.ins C dy gs)) (q : sp [.ref a, .ref b] H (fun v H' => ∃ r, v = .bl r ∧ Q (.bl (g r)) H') E0) : rOwn2 C sp g (.ref a) (.ref b) H Q := ⟨a, b, dx, dy, fs, gs, rfl, rfl, ha, hb, q⟩
theorem x_strO {a dx : Addr} {fs : List (Str × V)} (ha : H a = some (.ins C dx fs)) (q : sp [.ref a] H (fun v H' => ∃ z, v = .str z ∧ Q v H') E0) : rStrOwn C sp [.ref a] H Q := ⟨a, dx, fs, rfl, ha, q⟩
theorem x_repS {z : Str} {n : Int} (hz : z.length = 1) (h0 : 0 ≤ n ∧ n ≤ 100) (q : Q (.str (repS z n)) H) : rRepS (.str z) (.int n) H Q := ⟨z, n, rfl, rfl, hz, h0.1, h0.2, q⟩
def FmtD (x : V) (H : Hp) (Q : VK) : Prop := ∃ i : Int, x = .int i ∧ 0 ≤ i ∧ i ≤ 10 ∧ Q (.str (toString i)) H
theorem x_FmtD {i : Int} (h : 0 ≤ i ∧ i ≤ 10) (q : Q (.str (toString i)) H) : FmtD (.int i) H Q := ⟨i, rfl, h.1, h.2, q⟩
theorem x_fmtD (h : ta σ H fun x H1 => FmtD x H1 Q) : tFmtD ta σ H Q := h
end

/-! ### two ways meet -/
theorem s_joinB {c : Bool} {t u : TS} {σ1 : L2.St} {H1 : Hp} {nx : L2.St → Hp → Prop} {rt : VK} {bk ct : L2.St → Hp → Prop} (J : L2.St → Hp → Prop) (k : ∀ σ' H', J σ' H' → nx σ' H') (h1 : c = true → ∀ nx' : L2.St → Hp → Prop, (∀ σ' H', J σ' H' → nx' σ' H') → t ⟨nx', rt, bk, ct⟩ σ1 H1)
    (h2 : c = false → ∀ nx' : L2.St → Hp → Prop, (∀ σ' H', J σ' H' → nx' σ' H') → u ⟨nx', rt, bk, ct⟩ σ1 H1) : if c = true then t ⟨nx, rt, bk, ct⟩ σ1 H1 else u ⟨nx, rt, bk, ct⟩ σ1 H1 := b_2 (fun h => h1 h nx k) (fun h => h2 h nx k)
/-! ### is None, in, slices of tuples -/
section
variable {K : PySem.W.Frag} {H : Hp} {Q : VK}
def RevL (K : PySem.W.Frag) (x : V) (H : Hp) (Q : VK) : Prop := ∃ a xs, x = .ref a ∧ SqL K H a xs ∧ ∀ p, H p = none → Q (.ref p) (upd H p (.lst xs.reverse))
theorem x_revL {te : TE} {σ : L2.St} (h : te σ H fun x H1 => RevL K x H1 Q) : tRevL K te σ H Q := h
theorem x_RevL {a : Addr} {xs : List V} (h : SqL K H a xs) (q : ∀ p H1, H p = none → Ex H H1 → H1 p = some (.lst xs.reverse) → Q (.ref p) H1) : RevL K (.ref a) H Q := ⟨a, xs, rfl, h, fun p hp => q p _ hp (Ex.new hp) upd_same⟩
theorem x_isNr {a : Addr} (q : Q (.bl false) H) : rIsN (.ref a) .non H Q := ⟨rfl, q⟩
theorem x_isNn (q : Q (.bl true) H) : rIsN .non .non H Q := ⟨rfl, q⟩
theorem x_notNr {a : Addr} (q : Q (.bl true) H) : rNotN (.ref a) .non H Q := ⟨rfl, q⟩
theorem x_notNn (q : Q (.bl false) H) : rNotN .non .non H Q := ⟨rfl, q⟩
theorem flat_ints : ∀ ns : List Int, (ns.map V.int).all flatV = true
  | [] => rfl
  | n :: r => by
    rw [List.map_cons, List.all_cons, flat_ints r]
    rfl
theorem inV_ints (i : Int) : ∀ ns : List Int, inV (.int i) (ns.map V.int) = decide (i ∈ ns)
  | [] => by simp [inV]
  | n :: r => by
    have h := inV_ints i r
    unfold inV at h ⊢
    rw [List.map_cons, List.any_cons, h]
    have e : eqV (.int n) (.int i) = (n == i) := rfl
    rw [e, Bool.eq_iff_iff, Bool.or_eq_true, beq_iff_eq, decide_eq_true_eq, decide_eq_true_eq, List.mem_cons]
    exact ⟨fun z => z.elim (fun z => .inl z.symm) .inr, fun z => z.elim (fun z => .inl z.symm) .inr⟩
theorem x_inL {p : Addr} {i : Int} {ns : List Int} (h : SqL K H p (ns.map V.int)) (q : Q (.bl (decide (i ∈ ns))) H) : rIn K false (.int i) (.ref p) H Q :=
  ⟨p, _, rfl, .inl h, rfl, flat_ints ns, by
    rw [if_neg Bool.false_ne_true, inV_ints]
    exact q⟩
theorem x_slA {a : Addr} {xs : List V} {lo hi : Option Int} (hs : SqT K H a xs) (q : ∀ p H1, Ex H H1 → SqT K H1 p (cutV xs lo hi) → Q (.ref p) H1) : rSlA K (.ref a) lo hi H Q :=
  ⟨a, xs, rfl, hs, fun h => q a H (Ex.refl _) (by
    have e : cutV xs lo hi = xs := by
      unfold cutV
      rw [h.1, h.2, List.drop_zero, Nat.sub_zero, List.take_length]
    rw [e]
    exact hs), fun _ p hp => q p _ (Ex.new hp) (SqT.of upd_same)⟩
theorem x_catA {a b : Addr} {xs ys : List V} (h1 : SqT K H a xs) (h2 : SqT K H b ys) (hz : xs.length + ys.length ≤ 100000) (q : ∀ p H1, Ex H H1 → SqT K H1 p (xs ++ ys) → Q (.ref p) H1) : rCatA K (.ref a) (.ref b) H Q :=
  ⟨a, b, xs, ys, rfl, rfl, h1, h2, big_le hz, fun e => q b H (Ex.refl _) (by rw [e, List.nil_append]; exact h2), fun _ e => q a H (Ex.refl _) (by rw [e, List.append_nil]; exact h1), fun _ _ p hp => q p _ (Ex.new hp) (SqT.of upd_same)⟩
theorem x_catT {a b : Addr} {xs ys : List V} (h1 : SqT K H a xs) (h2 : SqT K H b ys) (hx : xs ≠ []) (hz : xs.length + ys.length ≤ 100000) (q : ∀ p H1, Ex H H1 → SqT K H1 p (xs ++ ys) → Q (.ref p) H1) : rCatA K (.ref a) (.ref b) H Q := x_catA h1 h2 hz q
end

/-! ### sum of a tuple of ints -/
theorem sum_tup {prog : Program} {w : World} {A : Around} {E : Value → Shared → Prop} {s : Shared} {l : Addr} {its : List Value} {ns : List Int} {Q : Value → Shared → Prop} (hh : A.handled = none) (hl : s.heap.IsTuple l its.toArray) (hi : IntsAre its ns)
    (h : ∀ h' tk t', (∀ b o, s.heap.get? b = some o → h'.get? b = some o) → Q (.int ns.sum t') { s with heap := h', toks := tk }) : wpAny (model prog w) A (call (.builtin "sum") [.ref l]) Q E s := by
  obtain ⟨xs, e⟩ := hi.allInts.items
  have hn : numsOf (intItems xs).toList = ns := by rw [← e]; exact hi.numsOf
  rw [nums_intItems] at hn
  rw [e] at hl
  have hlt : l < s.heap.objs.size := by obtain ⟨_, e, _⟩ := hl; exact Heap.lt_size e
  refine call_sum_walkG (wpAny_pyIter_tuple hl ⟨_, _, _, _, _, _, numAt xs, rfl, Walks.tuple (A := A.in1) hh _ l (Nat.ne_of_lt hlt) (intItems xs), ⟨⟨_, Heap.get?_push_size _ rfl, rfl, rfl⟩, hl.push _⟩, fun b hb => ?_, (fun _ _ => intItems_at), fun h' tk t' hk => ?_⟩)
  · show b < (s.heap.push _).objs.size
    rw [Heap.size_push]
    rcases List.mem_cons.mp hb with rfl | hb
    · exact Nat.lt_succ_self _
    · rcases List.mem_cons.mp hb with rfl | hb
      · exact Nat.lt_succ_of_lt hlt
      · cases hb
  · have := h h' tk t' fun b o eb => hk b o (fun hb => absurd (Heap.lt_size eb) ((List.mem_singleton.mp hb) ▸ Nat.lt_irrefl _)) (Heap.get?_push_of_some _ eb)
    have e2 : preSum (numAt xs) (intItems xs).size = ns.sum := by
      rw [show (intItems xs).size = xs.size by simp [intItems], preSum_eq, List.take_of_length_le (by simp), hn]
    rw [e2]
    exact this
def rSumT (K : PySem.W.Frag) : List V → Hp → VK → Prop := fun vs H Q => ∃ (a : Addr) (ns : List Int), vs = [V.ref a] ∧ SqT K H a (ns.map V.int) ∧ Q (.int ns.sum) H
theorem cr_sumT {X : Cx} (hc : X.calm = true) : CallR X (.builtin "sum") (rSumT X.K) := by
  intro pins s σ H vs us Q I r h
  obtain ⟨a, ns, rfl, hs, q⟩ := h
  obtain ⟨its, rv, hl, _⟩ := I.tuple hs
  rw [Vals.ref1 r]
  exact sum_tup (I.ok.hd hc) hl rv.ints fun h' tk t' hk => ⟨.int _, H, I.kept hk, ⟨_, rfl⟩, q⟩
theorem x_sumT {K : PySem.W.Frag} {H : Hp} {Q : VK} {p : Addr} {ns : List Int} (h : SqT K H p (ns.map V.int)) (q : Q (.int ns.sum) H) : rSumT K [.ref p] H Q := ⟨p, ns, rfl, h, q⟩

/-! ### the head: what is told of a class -/
def propB (K : PySem.W.Frag) (C : Addr) (f : Str) : Bool := He.eqO (PySem.W.findIn K (.ref C) f) (some (some (.ref (He.ma K C f)))) && (He.eqO (PySem.W.specialIn K (.ref (He.ma K C f)) "__get__") (some (some (.builtin "property.__get__"))) &&
  (decide (PySem.W.takesIn K (.ref (He.ma K C f)) = some true) && (match PySem.W.recIn K (He.ma K C f) "property" with
    | some (.ref _ :: _) => true
    | _ => false)))
theorem propB_ok {K : PySem.W.Frag} {C : Addr} {f : Str} (h : propB K C f = true) : PropOf K C f (He.ma K C f) (He5.wf K C "property" f) := by
  obtain ⟨h1, h⟩ := He.ba h
  obtain ⟨h2, h⟩ := He.ba h
  obtain ⟨h3, h4⟩ := He.ba h
  refine ⟨He.eqO_ok h1, He.eqO_ok h2, of_decide_eq_true h3, ?_⟩
  unfold He5.wf
  split at h4
  · rename_i g r e
    exact ⟨r, by rw [e]⟩
  · cases h4
def insB (K : PySem.W.Frag) (C : Addr) : Bool := He.eqO (PySem.W.findIn K (.ref C) "__class__") (some (some (.builtin "object.__class__"))) && (He.eqO (PySem.W.specialIn K (.builtin "object.__class__") "__get__") (some (some (.builtin "getset_descriptor.__get__"))) &&
  (decide (PySem.W.takesIn K (.builtin "object.__class__") = some true) && (decide (PySem.W.mroIn K C (.type "object") = some true) && decide (PySem.W.kitOne K (.ref C) (.ref C) = some true))))
theorem insB_ok {K : PySem.W.Frag} {C : Addr} (h : insB K C = true) (c : Cls K C) : C8.InsC K C := by
  obtain ⟨h1, h⟩ := He.ba h
  obtain ⟨h2, h⟩ := He.ba h
  obtain ⟨h3, h⟩ := He.ba h
  obtain ⟨h4, h5⟩ := He.ba h
  exact ⟨c, He.eqO_ok h1, He.eqO_ok h2, of_decide_eq_true h3, of_decide_eq_true h4, of_decide_eq_true h5⟩
def neB (K : PySem.W.Frag) (C : Addr) : Bool := decide (PySem.W.mroIn K C (.type "object") = some true) && He.eqO (PySem.W.findIn K (.ref C) "__ne__") (some (some (.builtin "object.__ne__")))
theorem neB_ok {K : PySem.W.Frag} {C : Addr} (h : neB K C = true) : NeOk K C := ⟨of_decide_eq_true (He.ba h).1, He.eqO_ok (He.ba h).2⟩
def cmB (K : PySem.W.Frag) (C : Addr) (m : Str) : Bool := He5.wrapB K C "classmethod" "classmethod.__get__" m && (PySem.W.readsIn K C (.type "type") && PySem.W.fnIn K (He5.wf K C "classmethod" m))
theorem cmB_ok {K : PySem.W.Frag} {C : Addr} {m : Str} (h : cmB K C m = true) : ClX.CRead K C (.type "type") ∧ ClX.CMet K C (.type "type") m (He.ma K C m) (He5.wf K C "classmethod" m) := by
  obtain ⟨h1, h⟩ := He.ba h
  obtain ⟨h2, h3⟩ := He.ba h
  refine ⟨⟨h2, ?_⟩, He5.cmet_of h1 h3⟩
  have h := h2
  unfold PySem.W.readsIn at h
  obtain ⟨h, _⟩ := He.ba h
  obtain ⟨h, _⟩ := He.ba h
  obtain ⟨h, h3⟩ := He.ba h
  obtain ⟨_, h2⟩ := He.ba h
  unfold PySem.W.specialIn
  rw [beq_iff_eq.mp h2, Option.bind_some]
  exact beq_iff_eq.mp h3

/-- the hook: facts, defs at any address, one more Bool -/
abbrev AlB : Type := He.AlD × Bool
def obsB (fa : List He.Fa) (fn : List He5.DefA) (ex : PySem.W.Frag → Bool) (K : PySem.W.Frag) : AlB := (He5.obsA fa fn K, ex K)
def SaysB (fa : List He.Fa) (fn : List He5.DefA) (ex : PySem.W.Frag → Bool) (K : PySem.W.Frag) : Prop := obsB fa fn ex K = (He5.valA fn, true)
def obsBG (n : Nat) (fa : List He.Fa) (fn : List He5.DefA) (ex : PySem.W.Frag → Bool) (g : Addr → Option Obj) : AlB := obsB fa fn ex (He.frG g (He5.asA g n))
def hookB (n : Nat) (fa : List He.Fa) (fn : List He5.DefA) (ex : PySem.W.Frag → Bool) : PySem.W.Hook where
  α := AlB
  obs := fun s => obsBG n fa fn ex s.heap.get?
  val := fun _ => (He5.valA fn, true)
  says := fun _ h => ∃ K : PySem.W.Frag, K.In h ∧ SaysB fa fn ex K
  of := fun _ _ e => ⟨_, He.frG_in, e⟩
  keeps := fun _ _ _ ⟨K, hK, c⟩ k => ⟨K, PySem.W.Frag.In.keeps hK k, c⟩
theorem obsBG_eq {n : Nat} {fa : List He.Fa} {fn : List He5.DefA} {ex : PySem.W.Frag → Bool} {g : Addr → Option Obj} {s : Shared} (h : ∀ a, g a = s.heap.get? a) : obsBG n fa fn ex g = (hookB n fa fn ex).obs s := by
  have e : g = s.heap.get? := funext h
  rw [e] <;> rfl
theorem SaysB.a {fa : List He.Fa} {fn : List He5.DefA} {ex : PySem.W.Frag → Bool} {K : PySem.W.Frag} (c : SaysB fa fn ex K) : He5.SaysA fa fn K := congrArg (fun z : AlB => z.1) c
theorem SaysB.x {fa : List He.Fa} {fn : List He5.DefA} {ex : PySem.W.Frag → Bool} {K : PySem.W.Frag} (c : SaysB fa fn ex K) : ex K = true := congrArg (fun z : AlB => z.2) c
end Xl

namespace Xl
open PySem PySem.Spec PyProof.Rows L2
local macro_rules | `(tactic| walk_at "x1") => `(tactic| first
  | ((with_reducible show tVar _ _ _ _); refine x_var rfl ?_)
  | (with_reducible refine x_c ?_)
  | (with_reducible refine x_II ?_)
  | ((with_reducible refine x_sd ?_ ?_); (first | (· first | exact trivial | decide | omega | exact .inl ⟨by omega, by omega⟩ | exact .inr ⟨by omega, by omega⟩ | exact ⟨by omega, by omega⟩ | exact ⟨by decide, by decide, by decide⟩) | rotate_left))
  | (with_reducible refine x_asB ?_)
  | (with_reducible refine x_seq ?_)
  | (with_reducible refine x_asgN ?_)
  | (with_reducible refine x_gN ?_)
  | (with_reducible refine x_asg ?_)
  | (with_reducible refine x_drop ?_)
  | (with_reducible refine x_ret ?_)
  | (with_reducible refine x_retN ?_)
  | (with_reducible refine x_next ?_)
  | (with_reducible refine x_if ?_)
  | (with_reducible refine x_brk ?_)
  | (with_reducible refine x_cont ?_)
  | (with_reducible refine x_opI0 ?_)
  | (with_reducible refine x_opI ?_)
  | (with_reducible refine x_opEq ?_)
  | (with_reducible refine x_opNe ?_)
  | (with_reducible refine x_op ?_)
  | (with_reducible refine x_chain ?_)
  | (with_reducible refine x_unI ?_)
  | (with_reducible refine x_gsub ?_)
  | (with_reducible refine x_callN ?_)
  | ((with_reducible show Cn _ _ _ _ _); refine x_Cn rfl rfl ?_)
  | (with_reducible refine x_dget ?_)
  | (with_reducible refine x_din ?_)
  | (with_reducible refine x_dni ?_)
  | (with_reducible refine x_dput ?_)
  | (with_reducible refine x_lc2L ?_)
  | (with_reducible refine x_sl ?_)
  | (with_reducible refine x_noPart ?_)
  | (with_reducible refine x_part ?_)
  | (with_reducible refine x_asO ?_)
  | (with_reducible refine x_rI0 ?_)
  | (with_reducible refine x_rI ?_)
  | (with_reducible refine x_eqI ?_)
  | (with_reducible refine x_neI ?_)
  | (with_reducible refine x_eqS ?_)
  | (with_reducible refine x_neS ?_)
  | (with_reducible refine x_eqB ?_)
  | (with_reducible refine x_neB ?_)
  | (with_reducible refine x_tst ?_)
  | (with_reducible refine x_tB ?_)
  | (with_reducible refine x_and ?_)
  | (with_reducible refine x_or ?_)
  | (with_reducible refine x_not ?_)
  | (with_reducible refine x_andV ?_)
  | (with_reducible refine x_orV ?_)
  | (with_reducible refine x_notV ?_)
  | (with_reducible refine x_ifE ?_)
  | (with_reducible refine x_nilA ?_)
  | (with_reducible refine x_consA ?_)
  | (with_reducible refine x_tup ?_)
  | (with_reducible refine x_lst ?_)
  | (with_reducible refine x_call ?_)
  | (with_reducible refine x_callD ?_)
  | (with_reducible refine x_cb ?_)
  | (with_reducible refine x_min2 ?_)
  | (with_reducible refine x_max2 ?_)
  | (with_reducible refine x_par ?_)
  | (with_reducible refine x_Par ?_)
  | (with_reducible refine x_par3 ?_)
  | (with_reducible refine x_Par3 ?_)
  | ((with_reducible show tAug _ _ _ _ _ _); refine x_aug rfl ?_)
  | (with_reducible refine x_ipI ?_)
  | (with_reducible refine x_forR1 ?_)
  | (with_reducible refine x_forR2 ?_)
  | (with_reducible refine x_forL ?_)
  | (with_reducible refine x_forT ?_)
  | (with_reducible refine x_lcL ?_)
  | (with_reducible refine x_lcT ?_)
  | (with_reducible refine x_lcR1 ?_)
  | (with_reducible refine x_lcR2 ?_)
  | ((with_reducible refine x_R1 ?_ ?_); (first | (· first | decide | omega) | rotate_left))
  | ((with_reducible refine x_R2 ?_ ?_); (first | (· first | decide | omega) | rotate_left))
  | (with_reducible refine x_yes ?_)
  | (with_reducible refine b_t rfl ?_)
  | (with_reducible refine b_f rfl ?_))
local macro_rules | `(tactic| walk_at "x") => `(tactic| repeat walk_at "x1")
local macro_rules | `(tactic| walk_at "bf") => `(tactic| refine b_f (by first | exact decide_eq_false (by omega) | (simp; done) | (simp; omega)) ?_)
local macro_rules | `(tactic| walk_at "bt") => `(tactic| refine b_t (by first | exact decide_eq_true (by omega) | (simp; done) | (simp; omega)) ?_)

/-! ### the notes -/
def pw2 (n : Nat) : Nat := 2 ^ n
/-- the length of the note with power p and c dots -/
def lenN (p c : Nat) : Nat := 2 ^ (p + 1) - 2 ^ (p - c)
/-- all notes within bounds, by power and dots -/
def notesL (d l : Nat) : List (Nat × Nat) := (List.range (l + 1)).flatMap fun p => (List.range (min d p + 1)).map fun c => (p, c)
def szs (d l : Nat) : List Nat := (notesL d l).map fun q => lenN q.1 q.2
theorem notesL_mem {d l p c : Nat} : (p, c) ∈ notesL d l ↔ p ≤ l ∧ c ≤ d ∧ c ≤ p := by
  unfold notesL
  simp only [List.mem_flatMap, List.mem_range, List.mem_map, Prod.mk.injEq]
  constructor
  · rintro ⟨p', h1, c', h2, rfl, rfl⟩
    omega
  · rintro ⟨h1, h2, h3⟩
    exact ⟨p, by omega, c, by omega, rfl, rfl⟩
theorem lenN_pos {p c : Nat} (h : c ≤ p) : 0 < lenN p c := by
  unfold lenN
  have h1 : 2 ^ (p - c) < 2 ^ (p + 1) := Nat.pow_lt_pow_right (by decide) (by omega)
  omega
theorem szs_pos {d l s : Nat} (h : s ∈ szs d l) : 0 < s := by
  unfold szs at h
  obtain ⟨⟨p, c⟩, h1, rfl⟩ := List.mem_map.mp h
  exact lenN_pos (notesL_mem.mp h1).2.2
theorem szs_one (d l : Nat) : 1 ∈ szs d l := List.mem_map.mpr ⟨(0, 0), notesL_mem.mpr ⟨by omega, by omega, by omega⟩, rfl⟩
theorem len_flatMap_le {α β : Type} {f : α → List β} {n : Nat} : ∀ {l : List α}, (∀ a ∈ l, (f a).length ≤ n) → (l.flatMap f).length ≤ l.length * n
  | [], _ => by simp
  | a :: r, h => by
    have h1 := len_flatMap_le (l := r) fun b hb => h b (List.mem_cons_of_mem _ hb)
    have h2 := h a List.mem_cons_self
    rw [List.flatMap_cons, List.length_append, List.length_cons, Nat.add_mul]
    omega
theorem notesL_len {d l : Nat} (hl : l ≤ 10) : (notesL d l).length ≤ 121 := by
  have h1 : (notesL d l).length ≤ (List.range (l + 1)).length * 11 := len_flatMap_le fun p hp => by
    rw [List.length_map, List.length_range]
    have := List.mem_range.mp hp
    omega
  rw [List.length_range] at h1
  omega

/-! ### the powers -/
def powers12 : List Int := [1, 2, 4, 8, 16, 32, 64, 128, 256, 512, 1024, 2048]
theorem pow_at {j : Nat} (h : j ≤ 11) : atI (powers12.map V.int) (j : Int) = some (.int ((2 ^ j : Nat) : Int)) := by
  refine atI_n (by omega) ?_
  rw [Int.toNat_natCast]
  match j, h with
  | 0, _ => rfl
  | 1, _ => rfl
  | 2, _ => rfl
  | 3, _ => rfl
  | 4, _ => rfl
  | 5, _ => rfl
  | 6, _ => rfl
  | 7, _ => rfl
  | 8, _ => rfl
  | 9, _ => rfl
  | 10, _ => rfl
  | 11, _ => rfl
/-- what is known of the table of the powers -/
def PowT (K : PySem.W.Frag) : Prop := ∀ H : Hp, SqT K H (He.ga K "POWERS") (powers12.map V.int)
def sp_length_of (K : PySem.W.Frag) : Sp := fun vs H Q _ => ∃ p c : Nat, vs = [.int p, .int c] ∧ c ≤ p ∧ p ≤ 10 ∧ Q (.int (lenN p c)) H
theorem len_length_of {K : PySem.W.Frag} : ∀ vs H Q E, sp_length_of K vs H Q E → vs.length = 2 := by
  rintro _ H Q E ⟨a, ns, rfl, _⟩
  rfl
/-- length_of: power dots -/
def t_length_of (K : PySem.W.Frag) : TS := (tRet (tOp rMinus (tOp (rIxT K) (tC (.ref (He.ga K "POWERS"))) (tOp rPlus (tVar 0) (tC (.int 1)))) (tOp (rIxT K) (tC (.ref (He.ga K "POWERS"))) (tOp rMinus (tVar 0) (tVar 1)))))

theorem run_length_of {K : PySem.W.Frag} (hP : PowT K) {vs : List V} {H : Hp} {Q : VK} {E : XK} (h : sp_length_of K vs H Q E) : t_length_of K { nx := fun _ H' => Q .non H', rt := Q } (start ["power", "dots"] vs) H := by
  obtain ⟨p, c, rfl, hc, hp, q⟩ := h
  unfold t_length_of
  walk_at "x"
  refine x_ixT (hP H) (i := (p : Int) + 1) (pow_at (j := p + 1) (by omega)) ?_
  walk_at "x"
  have e : (p : Int) - (c : Int) = ((p - c : Nat) : Int) := by omega
  rw [e]
  refine x_ixT (hP H) (pow_at (j := p - c) (by omega)) ?_
  walk_at "x"
  have h1 : 2 ^ (p - c) < 2 ^ (p + 1) := Nat.pow_lt_pow_right (by decide) (by omega)
  have e2 : ((2 ^ (p + 1) : Nat) : Int) - ((2 ^ (p - c) : Nat) : Int) = ((lenN p c : Nat) : Int) := by
    unfold lenN
    omega
  rw [e2]
  exact q

/-! ### all_notes -/
def dPair (q : Nat × Nat) : D := .tup [.int q.1, .int q.2]
def sp_all_notes (K : PySem.W.Frag) : Sp := fun vs H Q _ => ∃ d l : Nat, vs = [.int d, .int l] ∧ d ≤ 10 ∧ l ≤ 10 ∧
  ∀ p H' ys, Ex H H' → H p = none → H' p = some (.lst ys) → RpL K H' ys ((notesL d l).map dPair) → Q (.ref p) H'
theorem len_all_notes {K : PySem.W.Frag} : ∀ vs H Q E, sp_all_notes K vs H Q E → vs.length = 2 := by
  rintro _ H Q E ⟨a, ns, rfl, _⟩
  rfl
/-- all_notes: dots longest found power count -/
def t_all_notes (K : PySem.W.Frag) : TS := (tSeq (tAsg (tLst tNil) (gName 2)) (tSeq (tFor (iRng1 (tCons (tOp rPlus (tVar 1) (tC (.int 1))) tNil)) (gName 3) (tFor (iRng1 (tCons (tOp rPlus (tCB rMin2 (tCons (tVar 0) (tCons (tVar 3) tNil))) (tC (.int 1))) tNil)) (gName 4) (tDrop (tBM K "list" rAppend (tVar 2) (tCons (tTup (tCons (tVar 3) (tCons (tVar 4) tNil))) tNil))))) (tRet (tVar 2))))

/-- the notes of the first powers, and of the next one the first dots -/
def notesP (d p c : Nat) : List (Nat × Nat) := ((List.range p).flatMap fun p => (List.range (min d p + 1)).map fun c => (p, c)) ++ (List.range c).map fun c => (p, c)
theorem notesP_next (d p : Nat) : notesP d p (min d p + 1) = notesP d (p + 1) 0 := by
  unfold notesP
  rw [List.range_succ (n := p), List.flatMap_append]
  simp
theorem notesP_step (d p c : Nat) : notesP d p (c + 1) = notesP d p c ++ [(p, c)] := by
  unfold notesP
  rw [List.range_succ, List.map_append, List.append_assoc] <;> rfl
theorem notesP_end (d l : Nat) : notesP d (l + 1) 0 = notesL d l := by
  unfold notesP notesL
  simp
theorem notesP_len {d p c : Nat} (hp : p ≤ 11) (hc : c ≤ p + 1) : (notesP d p c).length ≤ 1000 := by
  unfold notesP
  rw [List.length_append, List.length_map, List.length_range]
  have h1 : ((List.range p).flatMap fun p => (List.range (min d p + 1)).map fun c => (p, c)).length ≤ (List.range p).length * 12 := len_flatMap_le fun q hq => by
    rw [List.length_map, List.length_range]
    have := List.mem_range.mp hq
    omega
  rw [List.length_range] at h1
  omega
theorem run_all_notes {K : PySem.W.Frag} {vs : List V} {H : Hp} {Q : VK} {E : XK} (h : sp_all_notes K vs H Q E) : t_all_notes K { nx := fun _ H' => Q .non H', rt := Q } (start ["dots", "longest", "found", "power", "count"] vs) H := by
  obtain ⟨d, l, rfl, hd, hl, q⟩ := h
  unfold t_all_notes
  walk_at "x"
  refine x_newL rfl fun p H1 np e1 h1 _ => ?_
  walk_at "x"
  have en : ((l : Int) + 1).toNat = l + 1 := by omega
  rw [en]
  refine for_r (fun i σ H' => ∃ (ys : List V) (o1 o2 : Option V), σ = [some (.int d), some (.int l), some (.ref p), o1, o2] ∧ Ex H H' ∧ H' p = some (.lst ys) ∧ RpL K H' ys ((notesP d i 0).map dPair)) ?_ ?_ ?_
  · exact ⟨[], none, none, rfl, e1, h1, by unfold notesP; simpa using RpL.nil⟩
  · rintro i σ H' hi ⟨ys, o1, o2, rfl, eH, hp, hr⟩
    rw [Int.zero_add]
    walk_at "x"
    have em : ((if (i : Int) < (d : Int) then (i : Int) else (d : Int)) + 1).toNat = min d i + 1 := by
      split <;> omega
    rw [em]
    refine for_r (fun j σ H' => ∃ (ys : List V) (o2 : Option V), σ = [some (.int d), some (.int l), some (.ref p), some (.int i), o2] ∧ Ex H H' ∧ H' p = some (.lst ys) ∧ RpL K H' ys ((notesP d i j).map dPair)) ?_ ?_ ?_
    · exact ⟨ys, o2, rfl, eH, hp, hr⟩
    · rintro j σ H' hj ⟨ys, o2, rfl, eH, hp, hr⟩
      rw [Int.zero_add]
      walk_at "x"
      refine x_app rfl hp ?_
      walk_at "x"
      refine x_newT rfl fun t H2 nt e2 h2 _ => ?_
      have hp2 := e2 _ _ hp
      have hz := hr.len
      rw [List.length_map] at hz
      have hz2 := notesP_len (d := d) (p := i) (c := j) (by omega) (by omega)
      refine x_App hp2 (by omega) ?_
      refine ⟨ys ++ [.ref t], _, rfl, (eH.trans e2).mut np, upd_same, ?_⟩
      rw [notesP_step, List.map_append]
      refine ((hr.mono e2).im (Im.set hp2)).snoc (Rp.im (Im.set hp2) ?_)
      exact .tup (SqT.of h2) (.cons (.int _) (.cons (.int _) .nil))
    · rintro σ H' ⟨ys, o2, rfl, eH, hp, hr⟩
      rw [notesP_next] at hr
      exact ⟨ys, _, _, rfl, eH, hp, hr⟩
  · rintro σ H' ⟨ys, o1, o2, rfl, eH, hp, hr⟩
    walk_at "x"
    rw [notesP_end] at hr
    exact q p H' ys eH np hp hr

/-! ### the smallest number -/
def Wr (S : List Nat) (k n : Nat) : Prop := ∃ l : List Nat, l.length = k ∧ (∀ s ∈ l, s ∈ S) ∧ l.sum = n
def IsMin (S : List Nat) (n k : Nat) : Prop := Wr S k n ∧ ∀ j, Wr S j n → k ≤ j
theorem IsMin.uniq {S : List Nat} {n k j : Nat} (a : IsMin S n k) (b : IsMin S n j) : k = j := Nat.le_antisymm (a.2 _ b.1) (b.2 _ a.1)
theorem least {p : Nat → Prop} : ∀ n, p n → ∃ m, p m ∧ ∀ j, p j → m ≤ j := by
  intro n
  induction n using Nat.strongRecOn with
  | ind n ih =>
    intro h
    by_cases q : ∃ m, m < n ∧ p m
    · obtain ⟨m, h1, h2⟩ := q
      exact ih m h1 h2
    · exact ⟨n, h, fun j hj => Nat.le_of_not_lt fun hlt => q ⟨j, hlt, hj⟩⟩
theorem wr_ones {S : List Nat} (h : 1 ∈ S) (n : Nat) : Wr S n n := ⟨List.replicate n 1, by simp, fun s hs => by rw [List.eq_of_mem_replicate hs]; exact h, by simp⟩
theorem exMin {S : List Nat} (h : 1 ∈ S) (n : Nat) : ∃ k, IsMin S n k := least (p := fun k => Wr S k n) n (wr_ones h n)
/-- the smallest number of members of S with the sum n -/
noncomputable def mn (S : List Nat) (n : Nat) : Nat := Classical.epsilon fun k => IsMin S n k
theorem mn_is {S : List Nat} (h : 1 ∈ S) (n : Nat) : IsMin S n (mn S n) := Classical.epsilon_spec (exMin h n)
theorem mn_eq {S : List Nat} (h : 1 ∈ S) {n k : Nat} (q : IsMin S n k) : mn S n = k := (mn_is h n).uniq q
theorem wr_nil {S : List Nat} : Wr S 0 0 := ⟨[], rfl, by simp, rfl⟩
theorem mn_zero {S : List Nat} (h : 1 ∈ S) : mn S 0 = 0 := mn_eq h ⟨wr_nil, fun _ _ => Nat.zero_le _⟩
theorem Wr.cons {S : List Nat} {k n s : Nat} (h : Wr S k n) (hs : s ∈ S) : Wr S (k + 1) (n + s) := by
  obtain ⟨l, h1, h2, h3⟩ := h
  refine ⟨s :: l, by simp [h1], fun t ht => ?_, by simp [h3]; omega⟩
  rcases List.mem_cons.mp ht with rfl | ht
  · exact hs
  · exact h2 t ht
theorem Wr.out {S : List Nat} {k n : Nat} (h : Wr S k n) (hn : 0 < n) : ∃ s j, s ∈ S ∧ s ≤ n ∧ k = j + 1 ∧ Wr S j (n - s) := by
  obtain ⟨l, h1, h2, h3⟩ := h
  cases l with
  | nil =>
    simp at h3
    omega
  | cons s r =>
    rw [List.sum_cons] at h3
    rw [List.length_cons] at h1
    exact ⟨s, r.length, h2 s List.mem_cons_self, by omega, by omega, r, rfl, fun t ht => h2 t (List.mem_cons_of_mem _ ht), by omega⟩
theorem mn_step {S : List Nat} (h : 1 ∈ S) {a m : Nat} (ha : 0 < a) (h1 : ∃ s ∈ S, s ≤ a ∧ m = mn S (a - s)) (h2 : ∀ s ∈ S, s ≤ a → m ≤ mn S (a - s)) : mn S a = m + 1 := by
  refine mn_eq h ⟨?_, fun j hj => ?_⟩
  · obtain ⟨s, hs, hle, rfl⟩ := h1
    have q := (mn_is h (a - s)).1.cons hs
    rwa [Nat.sub_add_cancel hle] at q
  · obtain ⟨s, i, hs, hle, rfl, q⟩ := hj.out ha
    have h3 := h2 s hs hle
    have h4 := (mn_is h (a - s)).2 i q
    omega
/-! ### fewest_table -/
noncomputable def tblI (S : List Nat) (n : Nat) : List Int := (List.range n).map fun i => ((mn S i : Nat) : Int)
theorem tblI_len (S : List Nat) (n : Nat) : (tblI S n).length = n := by unfold tblI; rw [List.length_map, List.length_range]
theorem tblI_at {S : List Nat} {n i : Nat} (h : i < n) : (tblI S n)[i]? = some ((mn S i : Nat) : Int) := by
  unfold tblI
  rw [List.getElem?_map, List.getElem?_range h] <;> rfl
theorem tblI_succ (S : List Nat) (n : Nat) : tblI S (n + 1) = tblI S n ++ [((mn S n : Nat) : Int)] := by
  unfold tblI
  rw [List.range_succ, List.map_append] <;> rfl
def sp_fewest_table (K : PySem.W.Frag) : Sp := fun vs H Q _ => ∃ n d l : Nat, vs = [.int n, .int d, .int l] ∧ n ≤ 2100 ∧ d ≤ 10 ∧ l ≤ 10 ∧
  ∀ p H', Ex H H' → H p = none → H' p = some (.lst ((tblI (szs d l) (n + 1)).map V.int)) → Q (.ref p) H'
theorem len_fewest_table {K : PySem.W.Frag} : ∀ vs H Q E, sp_fewest_table K vs H Q E → vs.length = 3 := by
  rintro _ H Q E ⟨a, ns, i, rfl, _⟩
  rfl
/-- fewest_table: length dots longest sizes table amount power count size -/
def t_fewest_table (K : PySem.W.Frag) : TS := (tSeq (tAsg (tLc (iList K (tCall (sp_all_notes K) [] E0 (tCons (tVar 1) (tCons (tVar 2) tNil)))) (gTup K 2 (gCons (gName 6) (gCons (gName 7) gNil))) tYes (tCall (sp_length_of K) [] E0 (tCons (tVar 6) (tCons (tVar 7) tNil))) [6, 7]) (gName 3)) (tSeq (tAsg (tLst (tCons (tC (.int 0)) tNil)) (gName 4)) (tSeq (tFor (iRng2 (tCons (tC (.int 1)) (tCons (tOp rPlus (tVar 0) (tC (.int 1))) tNil))) (gName 5) (tDrop (tBM K "list" rAppend (tVar 4) (tCons (tOp rPlus (tC (.int 1)) (tCB (rMin K) (tCons (tLc (iList K (tVar 3)) (gName 8) (tTest (tOp rLe (tVar 8) (tVar 5))) (tOp (rIxL K) (tVar 4) (tOp rMinus (tVar 5) (tVar 8))) [8]) tNil))) tNil)))) (tRet (tVar 4)))))

theorem szs_len {d l : Nat} (hl : l ≤ 10) : (szs d l).length ≤ 121 := by
  unfold szs
  rw [List.length_map]
  exact notesL_len hl
theorem fm_some {α β : Type} (f : α → β) : ∀ l : List α, l.filterMap (fun a => some (f a)) = l.map f
  | [] => rfl
  | a :: r => by rw [List.filterMap_cons, List.map_cons, fm_some f r]
theorem fm_map {α β γ : Type} (f : α → β) (g : β → Option γ) : ∀ l : List α, (l.map f).filterMap g = l.filterMap fun a => g (f a)
  | [] => rfl
  | a :: r => by rw [List.map_cons, List.filterMap_cons, List.filterMap_cons, fm_map f g r]
theorem fm_dI {α : Type} (g : α → Option Int) : ∀ l : List α, l.filterMap (fun a => (g a).map D.int) = dI (l.filterMap g)
  | [] => rfl
  | a :: r => by
    rw [List.filterMap_cons, List.filterMap_cons, fm_dI g r]
    cases h : g a with
    | none => rfl
    | some _ => rfl
def szsI (d l : Nat) : List Int := (szs d l).map fun s : Nat => (s : Int)
theorem sizes_eq (d l : Nat) : ((notesL d l).map dPair).filterMap (fun q => match q with | .tup [.int p, .int c] => some (D.int (lenN p.toNat c.toNat)) | _ => none) = dI (szsI d l) := by
  unfold szsI szs dI dPair
  rw [fm_map, List.map_map, List.map_map]
  exact fm_some (fun q : Nat × Nat => D.int ((lenN q.1 q.2 : Nat) : Int)) (notesL d l)
theorem run_fewest_table {K : PySem.W.Frag} {vs : List V} {H : Hp} {Q : VK} {E : XK} (h : sp_fewest_table K vs H Q E) : t_fewest_table K { nx := fun _ H' => Q .non H', rt := Q } (start ["length", "dots", "longest", "sizes", "table", "amount", "power", "count", "size"] vs) H := by
  obtain ⟨n, d, l, rfl, hn, hd, hl, q⟩ := h
  unfold t_fewest_table
  walk_at "x"
  refine ⟨d, l, rfl, hd, hl, fun pa H1 ya e1 na h1 r1 => ?_⟩
  refine x_RefL (SqL.of h1) (lcLD (fun q => match q with | .tup [.int p, .int c] => some (D.int (lenN p.toNat c.toNat)) | _ => none) (SqL.of h1) r1 (by rw [List.length_map]; have := notesL_len (d := d) hl; omega) (fun i dd x H' hi e r => ?_) fun ps ys H2 e2 n2 h2 r2 => ?_)
  · rw [List.getElem?_map] at hi
    cases h3 : (notesL d l)[i]? with
    | none =>
      rw [h3] at hi
      cases hi
    | some pc =>
      obtain ⟨p, c⟩ := pc
      rw [h3] at hi
      have e3 : dPair (p, c) = dd := Option.some.inj hi
      subst e3
      have hm := notesL_mem.mp (List.mem_of_getElem? h3)
      refine turn_all fun R k => ?_
      obtain ⟨t, vt, rfl, ht, rt⟩ := r.t
      cases rt with
      | cons ra rb =>
        cases rb with
        | cons rb rc =>
          cases rc
          cases ra
          cases rb
          refine ⟨t, _, rfl, ht, rfl, _, _, rfl, _, _, rfl, rfl, rfl, ?_⟩
          walk_at "x"
          refine ⟨p, c, rfl, hm.2.2, by omega, ?_⟩
          refine k _ _ (Ex.refl _) ?_
          show Rp K H' _ (.int ((lenN ((p : Nat) : Int).toNat ((c : Nat) : Int).toNat : Nat) : Int))
          rw [Int.toNat_natCast, Int.toNat_natCast]
          exact .int _
  · rw [sizes_eq] at r2
    rw [r2.ints_inv] at h2
    walk_at "x"
    refine x_newL rfl fun pt H3 n3 e3 h3 _ => ?_
    have e13 : Ex H H2 := e1.trans e2
    walk_at "x"
    have en : ((n : Int) + 1 - 1).toNat = n := by omega
    rw [en]
    refine for_r (fun i σ H' => ∃ (o1 : Option V), σ = [some (.int n), some (.int d), some (.int l), some (.ref ps), some (.ref pt), o1, none, none, none] ∧ Ex H2 H' ∧ H' pt = some (.lst ((tblI (szs d l) (i + 1)).map V.int))) ?_ ?_ ?_
    · refine ⟨none, rfl, e3, ?_⟩
      rw [h3, tblI_succ, mn_zero (szs_one d l)] <;> rfl
    · rintro i σ H' hi ⟨o1, rfl, eH, hT⟩
      have e0 : (1 : Int) + (i : Int) = ((i + 1 : Nat) : Int) := by omega
      rw [e0]
      walk_at "x"
      refine x_app rfl hT ?_
      walk_at "x"
      have hS : SqL K H' ps ((szsI d l).map V.int) := eH.l (SqL.of h2)
      refine x_RefL hS (lcLI (fun z => (if z ≤ ((i + 1 : Nat) : Int) then some ((mn (szs d l) (i + 1 - z.toNat) : Nat) : Int) else none).map D.int) hS (by unfold szsI; rw [List.length_map]; have := szs_len (d := d) hl; omega) (fun j z H4 hj e4 => ?_) fun pm ym H5 e5 n5 h5 r5 => ?_)
      · intro R RN k kn
        have hz : ∃ s, s ∈ szs d l ∧ (s : Int) = z := by
          unfold szsI at hj
          rw [List.getElem?_map] at hj
          cases h6 : (szs d l)[j]? with
          | none =>
            rw [h6] at hj
            cases hj
          | some s =>
            rw [h6] at hj
            exact ⟨s, List.mem_of_getElem? h6, Option.some.inj hj⟩
        obtain ⟨s, hs, rfl⟩ := hz
        have sp := szs_pos hs
        refine ⟨rfl, ?_⟩
        walk_at "x"
        refine b_d (fun hle => ?_) (fun hgt => ?_)
        · walk_at "x"
          have e6 : ((i + 1 : Nat) : Int) - (s : Int) = ((i + 1 - s : Nat) : Int) := by omega
          rw [e6]
          have hT4 : SqL K H4 pt ((tblI (szs d l) (i + 1)).map V.int) := SqL.of (e4 _ _ hT)
          refine x_ixL hT4 (atI_n (v := V.int ((mn (szs d l) (i + 1 - s) : Nat) : Int)) (by omega) ?_) ?_
          · rw [Int.toNat_natCast, List.getElem?_map, tblI_at (by omega)] <;> rfl
          · refine k _ _ _ (Ex.refl _) ?_ (.int _)
            rw [if_pos hle, Int.toNat_natCast] <;> rfl
        · refine kn _ (Ex.refl _) ?_
          rw [if_neg hgt] <;> rfl
      · rw [fm_dI] at r5
        have e7 := r5.ints_inv
        rw [e7] at h5
        walk_at "x"
        have h1S : (1 : Int) ∈ szsI d l := List.mem_map.mpr ⟨1, szs_one d l, rfl⟩
        have hmem : ∀ y, y ∈ (szsI d l).filterMap (fun z => if z ≤ ((i + 1 : Nat) : Int) then some ((mn (szs d l) (i + 1 - z.toNat) : Nat) : Int) else none) ↔ ∃ s ∈ szs d l, s ≤ i + 1 ∧ y = ((mn (szs d l) (i + 1 - s) : Nat) : Int) := by
          intro y
          rw [List.mem_filterMap]
          constructor
          · rintro ⟨z, hz, hy⟩
            obtain ⟨s, hs, rfl⟩ := List.mem_map.mp hz
            by_cases hle : ((s : Nat) : Int) ≤ ((i + 1 : Nat) : Int)
            · rw [if_pos hle] at hy
              rw [Int.toNat_natCast] at hy
              exact ⟨s, hs, by omega, (Option.some.inj hy).symm⟩
            · rw [if_neg hle] at hy
              cases hy
          · rintro ⟨s, hs, hle, rfl⟩
            refine ⟨s, List.mem_map.mpr ⟨s, hs, rfl⟩, ?_⟩
            rw [if_pos (by omega), Int.toNat_natCast]
        refine x_min (SqL.of h5) (List.length_pos_iff.mpr fun q => ?_) fun m hm hle => ?_
        · have := (hmem _).mpr ⟨1, szs_one d l, by omega, rfl⟩
          rw [q] at this
          cases this
        · walk_at "x"
          have e8 := e5 _ _ hT
          refine x_App e8 (by rw [List.length_map, tblI_len]; omega) ?_
          refine ⟨_, rfl, (eH.trans e5).mut n3, ?_⟩
          rw [upd_same, tblI_succ (n := i + 1)]
          obtain ⟨s, hs, hsl, rfl⟩ := (hmem m).mp hm
          have hstep := mn_step (szs_one d l) (a := i + 1) (m := mn (szs d l) (i + 1 - s)) (by omega) ⟨s, hs, hsl, rfl⟩ (fun s' hs' hle' => by
            have := hle _ ((hmem _).mpr ⟨s', hs', hle', rfl⟩)
            omega)
          rw [hstep, List.map_append]
          have e9 : (1 : Int) + ((mn (szs d l) (i + 1 - s) : Nat) : Int) = ((mn (szs d l) (i + 1 - s) + 1 : Nat) : Int) := by omega
          rw [e9] <;> rfl
    · rintro σ H' ⟨o1, rfl, eH, hT⟩
      walk_at "x"
      exact q pt H' (e13.trans eH) (e13.back n3) hT
/-! ### fewest_notes -/
abbrev c_fewest_notes_1_d : List V := [.int 10, .int 10]
def sp_fewest_notes (K : PySem.W.Frag) : Sp := fun vs H Q _ => ∃ n d l : Nat, vs = [.int n, .int d, .int l] ∧ n ≤ 2100 ∧ d ≤ 10 ∧ l ≤ 10 ∧ ∀ H', Ex H H' → Q (.int ((mn (szs d l) n : Nat) : Int)) H'
theorem len_fewest_notes {K : PySem.W.Frag} : ∀ vs H Q E, sp_fewest_notes K vs H Q E → vs.length = 3 := by
  rintro _ H Q E ⟨a, ns, i, rfl, _⟩
  rfl
/-- fewest_notes: length dots longest -/
def t_fewest_notes (K : PySem.W.Frag) : TS := (tRet (tOp (rIxL K) (tCall (sp_fewest_table K) [] E0 (tCons (tVar 0) (tCons (tVar 1) (tCons (tVar 2) tNil)))) (tVar 0)))

theorem run_fewest_notes {K : PySem.W.Frag} {vs : List V} {H : Hp} {Q : VK} {E : XK} (h : sp_fewest_notes K vs H Q E) : t_fewest_notes K { nx := fun _ H' => Q .non H', rt := Q } (start ["length", "dots", "longest"] vs) H := by
  obtain ⟨n, d, l, rfl, hn, hd, hl, q⟩ := h
  unfold t_fewest_notes
  walk_at "x"
  refine ⟨n, d, l, rfl, hn, hd, hl, fun p H1 e1 n1 h1 => ?_⟩
  walk_at "x"
  refine x_ixL (SqL.of h1) (atI_n (v := V.int ((mn (szs d l) n : Nat) : Int)) (by omega) ?_) (q H1 e1)
  rw [Int.toNat_natCast, List.getElem?_map, tblI_at (by omega)] <;> rfl
theorem x_fewestU {K : PySem.W.Frag} {x : Int} {H : Hp} {Q : VK} {E : XK} (n : Nat) (hx : x = (n : Int)) (hn : n ≤ 2100) (q : ∀ H', Ex H H' → Q (.int ((mn (szs 10 10) n : Nat) : Int)) H') : sp_fewest_notes K ([.int x] ++ c_fewest_notes_1_d) H Q E :=
  ⟨n, 10, 10, by rw [hx]; rfl, hn, by decide, by decide, q⟩
theorem sum_nat (l : List Nat) : (l.map fun n : Nat => (n : Int)).sum = ((l.sum : Nat) : Int) := by
  induction l with
  | nil => rfl
  | cons a r ih =>
    rw [List.map_cons, List.sum_cons, ih, List.sum_cons]
    omega
/-! ### lengths_with -/
/-- the lengths up to m that need k notes -/
noncomputable def lw (k : Int) (m : Nat) : List Int := (List.range m).filterMap fun i => if ((mn (szs 10 10) (i + 1) : Nat) : Int) = k then some ((i : Int) + 1) else none
def sp_lengths_with (K : PySem.W.Frag) : Sp := fun vs H Q _ => ∃ (k : Int) (m : Nat), vs = [.int k, .int m] ∧ m ≤ 2100 ∧ ∀ p H', Ex H H' → H p = none → H' p = some (.lst ((lw k m).map V.int)) → Q (.ref p) H'
theorem len_lengths_with {K : PySem.W.Frag} : ∀ vs H Q E, sp_lengths_with K vs H Q E → vs.length = 2 := by
  rintro _ H Q E ⟨a, ns, rfl, _⟩
  rfl
/-- lengths_with: number most table length -/
def t_lengths_with (K : PySem.W.Frag) : TS := (tSeq (tAsg (tCall (sp_fewest_table K) [] E0 (tCons (tVar 1) (tCons (tC (.int 10)) (tCons (tC (.int 10)) tNil)))) (gName 2)) (tRet (tLc (iRng2 (tCons (tC (.int 1)) (tCons (tOp rPlus (tVar 1) (tC (.int 1))) tNil))) (gName 3) (tTest (tOp rEq (tOp (rIxL K) (tVar 2) (tVar 3)) (tVar 0))) (tVar 3) [3])))

theorem run_lengths_with {K : PySem.W.Frag} {vs : List V} {H : Hp} {Q : VK} {E : XK} (h : sp_lengths_with K vs H Q E) : t_lengths_with K { nx := fun _ H' => Q .non H', rt := Q } (start ["number", "most", "table", "length"] vs) H := by
  obtain ⟨k, m, rfl, hm, q⟩ := h
  unfold t_lengths_with
  walk_at "x"
  refine ⟨m, 10, 10, rfl, hm, by decide, by decide, fun p H1 e1 n1 h1 => ?_⟩
  walk_at "x"
  have en : ((m : Int) + 1 - 1).toNat = m := by omega
  rw [en]
  refine lcR (K := K) (fun i => (if ((mn (szs 10 10) (i + 1) : Nat) : Int) = k then some ((i : Int) + 1) else none).map D.int) (by omega) (fun i H2 hi e2 R RN kR kN => ⟨rfl, ?_⟩) fun pl ys H2 e2 n2 h2 r2 => ?_
  · have e0 : (1 : Int) + (i : Int) = ((i + 1 : Nat) : Int) := by omega
    rw [e0]
    walk_at "x"
    refine x_ixL (SqL.of (e2 _ _ h1)) (atI_n (v := V.int ((mn (szs 10 10) (i + 1) : Nat) : Int)) (by omega) ?_) ?_
    · rw [Int.toNat_natCast, List.getElem?_map, tblI_at (by omega)] <;> rfl
    · walk_at "x"
      refine b_d (fun hc => ?_) (fun hc => ?_)
      · walk_at "x"
        refine kR _ _ _ (Ex.refl _) (by rw [if_pos hc]; rfl) ?_
        have e3 : (((i + 1 : Nat) : Int)) = (i : Int) + 1 := by omega
        rw [e3]
        exact .int _
      · exact kN _ (Ex.refl _) (by rw [if_neg hc]; rfl)
  · rw [fm_dI] at r2
    rw [r2.ints_inv] at h2
    exact q pl H2 (e1.trans e2) (e1.back n2) h2
end Xl

/-! what runs while an exception is handled: ends of iterators, tuple targets, zip, list comprehensions (own work). -/
namespace Xl
open PySem PySem.Spec PyProof.Rows L2 HotX
section
variable {A : Around} {x1 b : Addr} {h h' : Heap} {o : Obj}
theorem HotAt.keep (hot : HotAt A x1 h) (k : ∀ o, h.get? x1 = some o → h'.get? x1 = some o) : HotAt A x1 h' := by
  obtain ⟨hh, o1, vs1, h1, d1, c1⟩ := hot
  exact ⟨hh, o1, vs1, k _ h1, d1, c1⟩
theorem HotAt.ne (hot : HotAt A x1 h) (e : h.get? b = some o) (hd : ∀ vs, o.data = .fields vs → vs[2]? ≠ some .none) : x1 ≠ b := fun z => by
  obtain ⟨hh, o1, vs1, h1, d1, c1⟩ := hot
  rw [z, e] at h1
  cases h1
  exact hd vs1 d1 c1
end
section
variable {prog : Program} {w : World} {A : Around} {E : Value → Shared → Prop} {s : Shared} {x1 : Addr}
/-- a list's iterator ends -/
theorem nextOf_list_end_hot {it l : Addr} {i : Nat} {items : Array Value} {Q : Value → Shared → Prop} (hot : HotAt A x1 s.heap)
    (hit : s.heap.IsListIter it l i) (hl : s.heap.IsList l items) (hx : items[i]? = none)
    (hE : ∀ h' e, Heap.ExtBut it s.heap h' → (∃ o, h'.get? e = some o ∧ o.cls = .type "StopIteration") → E (.ref e) { s with heap := h' }) :
    wpAny (model prog w) A (Builtin.SmallTypes.nextOf (.ref it)) Q E s := by
  obtain ⟨o, ho, hc, hd⟩ := id hit
  obtain ⟨ol, hol, _, nl, hdl⟩ := hl
  have hne : x1 ≠ it := HotAt.ne hot ho fun vs e => by
    rw [hd] at e
    cases e
    simp
  unfold Builtin.SmallTypes.nextOf
  refine wpAny_bind (wpAny_callSpecial?_slot (name := Str.ofString "__next__") hit.typeIs slot_listiter_next
    (wpAny_call_entry slot_listiter_next hit.typeIs entry_listiter_next ?_ (args_listiter_next _)))
  show wpAny _ _ (field (.ref it) 0 >>= _) _ _ s
  refine wpAny_bind (wpAny_field ho hd (x := .ref l) rfl ?_)
  show wpAny _ _ (if (Value.ref l == Value.none) = true then _ else _) _ _ s
  rw [if_neg (show ¬ ((Value.ref l == Value.none) = true) from Bool.false_ne_true)]
  show wpAny _ _ (field (.ref it) 1 >>= _) _ _ s
  refine wpAny_bind (wpAny_field ho hd (x := .int i 0) rfl ?_)
  show wpAny _ _ (seqItems? (.ref l) >>= _) _ _ s
  refine wpAny_bind (wpAny_seqItems hol hdl ?_)
  simp only [Int.toNat_natCast, hx]
  refine wpAny_bind (wpAny_rule (wpAny_bind (wpAny_setField ho hd (by simp) ?_)))
  show wpAny _ _ (newExc (.type "StopIteration") [] >>= _) _ _ _
  refine wpAny_bind ?_
  simp only [newExc, newTuple]
  refine wpAny_bind (wpAny_newObj_type ?_ (by size_fits))
  refine wpAny_bind (m := firstArgMember _ _) (wpAny_of_eq (a := Value.none) (by first | rfl | (simp only [firstArgMember]; rfl)) ?_)
  refine wpAny_newObj_type ?_ (by size_fits)
  have sb : Heap.SameBut it s.heap (s.heap.update it (Obj.mapFields (·.setIfInBounds 0 Value.none))) := Heap.SameBut.update ..
  obtain ⟨hh, o1, vs1, e1, d1, c1⟩ := hot
  have e2 := sb.extBut x1 o1 hne e1
  have e3 := Heap.get?_push_of_some { cls := .type "tuple", data := .seq #[] } e2
  have e4 := Heap.get?_push_of_some { cls := .type "StopIteration", data := .fields #[.ref (s.heap.update it (Obj.mapFields (·.setIfInBounds 0 Value.none))).objs.size, .none, .none, .none, .bool false, .none] } e3
  refine raiseNew_hot (x1 := x1) ⟨hh, o1, vs1, Heap.get?_push_of_some _ (Heap.get?_push_of_some _ e2), d1, c1⟩ (Nat.ne_of_lt (Heap.lt_size (Heap.get?_push_of_some _ e2))) (Heap.get?_push_size _ rfl) rfl (by first | (simp; done) | (simp; omega) | (simp only [Array.size_append]; simp; omega)) ?_
  refine hE _ _ (fun b o hb e => ?_) ⟨_, Heap.get?_update_self _ (Heap.get?_push_size _ rfl) rfl, rfl⟩
  have q := Heap.get?_push_of_some { cls := .type "tuple", data := .seq #[] } (sb.extBut b o hb e)
  rw [Heap.get?_update_other _ _ (Nat.ne_of_gt (Heap.lt_size (Heap.get?_push_of_some _ (sb.extBut b o hb e))))]
  exact Heap.get?_push_of_some _ (Heap.get?_push_of_some _ (sb.extBut b o hb e))
/-- a tuple's iterator ends -/
theorem next_tuple_end_hot {it t : Addr} {i : Nat} {items : Array Value} {Q : Option Value → Shared → Prop} (hot : HotAt A x1 s.heap)
    (hit : IsTupIter s.heap it t i) (ht : IsTup s.heap t items) (hx : items[i]? = none)
    (hQ : ∀ h', Heap.ExtBut it s.heap h' → Q none { s with heap := h' }) : wpAny (model prog w) A (pyNext (.ref it)) Q E s := by
  obtain ⟨o, ho, hc, hd⟩ := id hit
  obtain ⟨ol, hol, _, nl, hdl⟩ := ht
  have hne : x1 ≠ it := HotAt.ne hot ho fun vs e => by
    rw [hd] at e
    cases e
    simp
  unfold pyNext
  refine wpAny_bind (wpAny_attempt (wpAny_callSpecial?_slot (name := Str.ofString "__next__") hit.typeIs slot_tupleiter_next
    (wpAny_call_entry slot_tupleiter_next hit.typeIs entry_tupleiter_next ?_ (args_tupleiter_next _))))
  show wpAny _ _ (field (.ref it) 0 >>= _) _ _ s
  refine wpAny_bind (wpAny_field ho hd (x := .ref t) rfl ?_)
  show wpAny _ _ (if (Value.ref t == Value.none) = true then _ else _) _ _ s
  rw [if_neg (show ¬ ((Value.ref t == Value.none) = true) from Bool.false_ne_true)]
  show wpAny _ _ (field (.ref it) 1 >>= _) _ _ s
  refine wpAny_bind (wpAny_field ho hd (x := .int i 0) rfl ?_)
  show wpAny _ _ (seqItems? (.ref t) >>= _) _ _ s
  refine wpAny_bind (wpAny_seqItems hol hdl ?_)
  simp only [Int.toNat_natCast, hx]
  refine wpAny_bind (wpAny_rule (wpAny_bind (wpAny_setField ho hd (by simp) ?_)))
  show wpAny _ _ (newExc (.type "StopIteration") [] >>= _) _ _ _
  refine wpAny_bind ?_
  simp only [newExc, newTuple]
  refine wpAny_bind (wpAny_newObj_type ?_ (by size_fits))
  refine wpAny_bind (m := firstArgMember _ _) (wpAny_of_eq (a := Value.none) (by first | rfl | (simp only [firstArgMember]; rfl)) ?_)
  refine wpAny_newObj_type ?_ (by size_fits)
  have sb : Heap.SameBut it s.heap (s.heap.update it (Obj.mapFields (·.setIfInBounds 0 Value.none))) := Heap.SameBut.update ..
  obtain ⟨hh, o1, vs1, e1, d1, c1⟩ := hot
  have e2 := sb.extBut x1 o1 hne e1
  refine raiseNew_hot (x1 := x1) ⟨hh, o1, vs1, Heap.get?_push_of_some _ (Heap.get?_push_of_some _ e2), d1, c1⟩ (Nat.ne_of_lt (Heap.lt_size (Heap.get?_push_of_some _ e2))) (Heap.get?_push_size _ rfl) rfl (by first | (simp; done) | (simp; omega) | (simp only [Array.size_append]; simp; omega)) ?_
  refine wpAny_bind (wpAny_isInstance (T := "StopIteration") (b := true) ⟨_, Heap.get?_update_self _ (Heap.get?_push_size _ rfl) rfl, rfl⟩ isSubtype_stop ?_)
  refine wpAny_pure (hQ _ fun b o hb e => ?_)
  rw [Heap.get?_update_other _ _ (Nat.ne_of_gt (Heap.lt_size (Heap.get?_push_of_some _ (sb.extBut b o hb e))))]
  exact Heap.get?_push_of_some _ (Heap.get?_push_of_some _ (sb.extBut b o hb e))
theorem unpackItems_tuple_hot {t : Addr} {items : Array Value} {Q : List Value → Shared → Prop} (hot : HotAt A x1 s.heap) (ht : IsTup s.heap t items)
    (hQ : ∀ h', Heap.ExtBut s.heap.objs.size s.heap h' → Q items.toList { s with heap := h' }) : wpAny (model prog w) A (unpackItems (.ref t) items.size none) Q E s := by
  have hlt : t ≠ s.heap.objs.size := by obtain ⟨o, ho, _⟩ := ht; exact Nat.ne_of_lt (Heap.lt_size ho)
  unfold unpackItems
  refine wpAny_bind ?_
  · unfold notIterableAtAll
    refine wpAny_bind (wpAny_specialOf ht.typeIs slot_tuple_iter.lookup ?_)
    refine wpAny_pure ?_
    simp only [Bool.false_eq_true, if_false]
    refine wpAny_bind (wpAny_holding (iter_tuple ht ?_))
    refine wpAny_bind (wpAny_holding (draw_tuple hlt items.size 0 _ _ ⟨_, Heap.get?_push_size _ rfl, rfl, rfl⟩ (ht.push _) (by omega) fun h₁ hit₁ hs₁ => ?_))
    have hall : List.take items.size (List.drop 0 items.toList) = items.toList := by
      rw [List.drop_zero]; exact List.take_of_length_le (by simp)
    rw [hall]
    rw [if_neg (by simp)]
    have ht₁ : IsTup h₁ t items := (ht.push _).extBut hs₁.extBut hlt
    have hot1 : HotAt A x1 h₁ := HotAt.keep hot fun o e => hs₁.extBut _ _ (Nat.ne_of_lt (Heap.lt_size e)) (Heap.get?_push_of_some _ e)
    refine wpAny_bind (wpAny_holding (next_tuple_end_hot hot1 hit₁ ht₁ (by simp) fun h₂ he₂ => ?_))
    simp only [Option.isSome_none, Bool.false_eq_true, if_false]
    refine wpAny_pure (hQ h₂ fun b o hb e => he₂ b o hb (hs₁.extBut b o hb (Heap.get?_push_of_some _ e)))
theorem assign_tuple_hot {env : Env} {elts : List Expr} {k : Nat} {pos : Pos} {t : Addr} {items : Array Value} {Q : Unit → Shared → Prop} (hot : HotAt A x1 s.heap) (ht : IsTup s.heap t items)
    (hn : (assignEach elts env).length = items.size) (hstar : (assignEach elts env).findIdx? (·.1) = none)
    (h : ∀ h', Heap.ExtBut s.heap.objs.size s.heap h' → wpAny (model prog w) A (assignInOrder ((assignEach elts env).map (·.2)) items.toList) Q E { s with heap := h' }) :
    wpAny (model prog w) A (assign (.Tuple elts k pos) env (.ref t)) Q E s := by
  rw [assign_Tuple]
  refine wpAny_bind (wpAny_standAt ?_)
  unfold unpack
  rw [hn, hstar]
  exact wpAny_bind (wpAny_holding (unpackItems_tuple_hot hot ht h))
theorem zip_end_hot {z TI TO i1 i2 l1 l2 : Addr} {k1 : Nat} {xs : Array Value} {a b : Value} {Q : Option Value → Shared → Prop} (hot : HotAt A x1 s.heap) (D : ZipApart z TI TO i1 i2 l1 l2)
    (hz : IsZip s.heap z TI TO .none) (hTI : IsPair s.heap TI (.ref i1) (.ref i2)) (hTO : IsPair s.heap TO a b)
    (h1 : s.heap.IsListIter i1 l1 k1) (hl1 : s.heap.IsList l1 xs) (hx : xs[k1]? = none)
    (hQ : ∀ h', (∀ c o, c ≠ z → c ≠ TO → c ≠ i1 → c ≠ i2 → s.heap.get? c = some o → h'.get? c = some o) → Q none { s with heap := h' }) : wpAny (model prog w) A (pyNext (.ref z)) Q E s := by
  have hT : s.TypeIs (.ref z) "zip" := ⟨_, hz, rfl⟩
  have hxz : x1 ≠ z := HotAt.ne hot hz fun vs e => by
    cases e
    simp
  unfold pyNext
  refine wpAny_bind (wpAny_attempt (wpAny_callSpecial?_slot (name := Str.ofString "__next__") hT F.slot_zip_next
    (wpAny_call_entry F.slot_zip_next hT F.entry_zip_next ?_ (F.args_zip_next_1 _))))
  show wpAny _ _ (field (.ref z) 2 >>= _) _ _ _
  refine wpAny_bind (wpAny_field hz rfl (x := .bool false) rfl ?_)
  show wpAny _ _ (field (.ref z) 3 >>= _) _ _ _
  refine wpAny_bind (wpAny_field hz rfl (x := .ref TI) rfl ?_)
  refine wpAny_bind (wpAny_seqItems hTI rfl ?_)
  show wpAny _ _ (Builtin.SmallTypes.ownedTupleIsFree (.ref z) >>= _) _ _ _
  refine wpAny_bind ?_
  unfold Builtin.SmallTypes.ownedTupleIsFree
  refine wpAny_bind (wpAny_field hz rfl (x := .none) rfl (wpAny_pure ?_))
  simp only [if_true]
  refine wpAny_bind (wpAny_rule ?_)
  refine wpAny_bind (wpAny_field hz rfl (x := .ref TO) rfl ?_)
  refine wpAny_bind (wpAny_setField_rec hz (by simp) fun h₁ hz₁ hs₁ => ?_)
  replace hz₁ : IsZip h₁ z TI TO .ellipsis := hz₁
  refine wpAny_bind ?_
  simp only [List.zipIdx_cons, List.zipIdx_nil, List.forIn_cons, List.forIn_nil]
  refine wpAny_bind (wpAny_bind (wpAny_onRaise ?_))
  show wpAny _ _ (Builtin.SmallTypes.nextOf (.ref i1) >>= _) _ _ _
  have hot1 : HotAt A x1 h₁ := HotAt.keep hot fun o e => hs₁.extBut _ _ hxz e
  refine wpAny_bind (nextOf_list_end_hot (x1 := x1) hot1 (h1.extBut hs₁.extBut D.i1z) (hl1.extBut hs₁.extBut D.l1z) hx fun h₂ e hs₂ he => ?_)
  obtain ⟨oe, hoe, hce⟩ := he
  have hz₂ : IsZip h₂ z TI TO .ellipsis := hs₂ _ _ D.i1z.symm hz₁
  have hez : e ≠ z := fun x => by subst x; rw [hz₂] at hoe; cases hoe; simp at hce
  refine wpAny_setField_rec hz₂ (by simp) fun h₃ _ hs₃ => ?_
  refine wpAny_bind (wpAny_isInstance (T := "StopIteration") (b := true) ⟨oe, hs₃.extBut _ _ hez hoe, hce⟩ isSubtype_stop ?_)
  exact wpAny_pure (hQ _ fun c o c1 _ c3 _ x => hs₃.extBut _ _ c1 (hs₂ _ _ c3 (hs₁.extBut _ _ c1 x)))
end
end Xl

/-! list comprehensions over zip, while an exception is handled (own work). -/
namespace Xl
open PySem PySem.Spec PyProof.Rows L2 HotX L2H
section
variable {X : Cx} {pos : Pos}
theorem pg_tupH {es : List Expr} {k : Nat} {t : TGs} {n : Nat} (hc : HotC X) (h : PGs X es t)
    (hn : (assignEach es X.env).length = n := by rfl) (hst : (assignEach es X.env).findIdx? (·.1) = none := by rfl) : PG X (.Tuple es k pos) (gTup X.K n t) := by
  refine ⟨fun pins s σ H v u Q I r hw => ?_⟩
  obtain ⟨a, xs, e1, hq, hl, hw⟩ := hw
  subst e1
  cases r
  obtain ⟨its, rv, ht, hz⟩ := I.tuple hq
  obtain ⟨x1, hot⟩ := hc.at I
  refine assign_tuple_hot hot ht (by simp [hn, ← hl, rv.length]) hst fun h' hx => ?_
  have I1 : Inv X pins σ H { s with heap := h' } := I.kept (t' := s.toks) fun b o e => hx b o (Nat.ne_of_lt (Heap.lt_size e)) e
  exact h.run pins _ σ H xs _ Q I1 (by simpa using rv) hw
end
/-- zip of two lists, the first not the longer one -/
def Itz1 (K : PySem.W.Frag) (a b : Addr) : It := ⟨(Itz K a b).go, (Itz K a b).yld, fun i H => ∃ xs ys : List V, SqL K H a xs ∧ SqL K H b ys ∧ xs.length ≤ i⟩
theorem turn_zip1H {P : Program} {w : World} {K : PySem.W.Frag} {elts : List Expr} {kk : Nat} {tpos : Pos} {a b z TI TO i1 i2 : Addr} (D : ZipApart z TI TO i1 i2 a b) :
    TurnH P w K (.Tuple elts kk tpos) (Itz1 K a b) [z, TI, TO, i1, i2] z (fun i h => IsZip h z TI TO .none ∧ IsPair h TI (.ref i1) (.ref i2) ∧ (∃ x y, IsPair h TO x y) ∧ h.IsListIter i1 a i ∧ h.IsListIter i2 b i) where
  mem := by simp
  obj := fun i h st c hc => by
    obtain ⟨hz, hTI, ⟨x, y, hTO⟩, ⟨o1, e1, _, d1⟩, ⟨o2, e2, _, d2⟩⟩ := st
    have e' : c = z ∨ c = TI ∨ c = TO ∨ c = i1 ∨ c = i2 := by simpa using hc
    rcases e' with q | q | q | q | q
    · rw [q]; exact ⟨_, hz, fun v q => nomatch q⟩
    · rw [q]; exact ⟨_, hTI, fun v q => nomatch q⟩
    · rw [q]; exact ⟨_, hTO, fun v q => nomatch q⟩
    · rw [q]; exact ⟨o1, e1, fun v q => by rw [d1] at q; cases q⟩
    · rw [q]; exact ⟨o2, e2, fun v q => by rw [d2] at q; cases q⟩
  keep := fun i h h' st k => by
    obtain ⟨hz, hTI, ⟨x, y, hTO⟩, h1, h2⟩ := st
    exact ⟨k z (by simp) _ hz, k TI (by simp) _ hTI, ⟨x, y, k TO (by simp) _ hTO⟩, h1.at fun o q => k i1 (by simp) o q, h2.at fun o q => k i2 (by simp) o q⟩
  item := by
    intro X hP hw hK hc i pins s σ H E I hf st hg
    subst hP hw hK
    obtain ⟨hz, hTI, ⟨x0, y0, hTO⟩, h1, h2⟩ := st
    obtain ⟨xs, ys, x, y, hqx, hqy, hx, hy⟩ := hg
    obtain ⟨its, rv, p, _⟩ := I.list hqx
    obtain ⟨its2, rv2, p2, _⟩ := I.list hqy
    obtain ⟨u, hu, ru⟩ := rv.get hx
    obtain ⟨u2, hu2, ru2⟩ := rv2.get hy
    have hzl : z < s.heap.objs.size := Heap.lt_size hz
    refine wpAny_pyNext_zip_item D hz hTI hTO h1 h2 p.isList p2.isList (x := u) (y := u2) (by simpa using hu) (by simpa using hu2) fun h' z' TO' h1' h2' hT hsz hk => ?_
    refine ⟨_, rfl, wpAny_letOwnedTupleGo_zip (s := { s with heap := h' }) z' fun h'' z'' sb => ?_⟩
    have hT2 : h''.get? s.heap.objs.size = some { cls := .type "tuple", data := .seq #[u, u2] } := (sb.2 _ (Nat.ne_of_gt hzl)).trans hT
    have new : ObjOk X.prog X.w (upd H s.heap.objs.size (.tup [x, y])) h'' s.heap.objs.size (.tup [x, y]) :=
      ⟨by show 2 ≤ sizeLine; decide, [u, u2], .cons ru (.cons ru2 .nil), ⟨_, hT2, rfl, _, rfl⟩⟩
    have I1 : Inv X pins σ (upd H s.heap.objs.size (.tup [x, y])) { s with heap := h'' } :=
      I.turnedNew (t' := s.toks) (ch := [z, TI, TO, i1, i2]) (fun c o hb q => (sb.2 c (fun q' => hb (by simp [q']))).trans (hk c o (fun q' => hb (by simp [q'])) (fun q' => hb (by simp [q'])) (fun q' => hb (by simp [q'])) (fun q' => hb (by simp [q'])) q)) hf (Nat.le_refl _) new
    refine ⟨.ref s.heap.objs.size, _, I1, rfl, ⟨_, x, y, rfl, I.hok.fresh (Nat.le_refl _), rfl, fun l hl => by rw [I.list_inj hl hqx]; exact hx, fun l hl => by rw [I.list_inj hl hqy]; exact hy⟩, ⟨z'', ?_, ⟨u, u2, ?_⟩, ?_, ?_⟩, fun c hcm => ?_⟩
    · exact (sb.2 _ D.TIz).trans (hk _ _ D.TIz D.TITO D.TIi1 D.TIi2 hTI)
    · exact (sb.2 _ D.TOz).trans TO'
    · exact h1'.at fun o q => (sb.2 _ D.i1z).trans q
    · exact h2'.at fun o q => (sb.2 _ D.i2z).trans q
    · have hlt : c < s.heap.objs.size := by
        have e' : c = z ∨ c = TI ∨ c = TO ∨ c = i1 ∨ c = i2 := by simpa using hcm
        rcases e' with q | q | q | q | q
        · rw [q]; exact hzl
        · rw [q]; exact Heap.lt_size hTI
        · rw [q]; exact Heap.lt_size hTO
        · rw [q]; obtain ⟨_, e1, _⟩ := h1; exact Heap.lt_size e1
        · rw [q]; obtain ⟨_, e2, _⟩ := h2; exact Heap.lt_size e2
      rw [upd_ne (Nat.ne_of_lt hlt)]
      exact (hf c hcm).1
  done := by
    intro X hP hw hK hc i pins s σ H E I hf st hg
    subst hP hw hK
    obtain ⟨hz, hTI, ⟨x0, y0, hTO⟩, h1, h2⟩ := st
    obtain ⟨xs, ys, hqx, hqy, hend⟩ := hg
    obtain ⟨its, rv, p, _⟩ := I.list hqx
    have l1 := rv.length
    obtain ⟨x1, hot⟩ := hc.at I
    exact zip_end_hot hot D hz hTI hTO h1 p.isList (by simp; omega) fun h' hk => ⟨rfl, I.turnedL (t' := s.toks) (ch := [z, TI, TO, i1, i2]) (fun c o hb q =>
      hk c o (fun q' => hb (by simp [q'])) (fun q' => hb (by simp [q'])) (fun q' => hb (by simp [q'])) (fun q' => hb (by simp [q'])) q) hf⟩
  self := fun A i s Q E st h => wpAny_pyIter_zip st.1 h
def iZip1 (K : PySem.W.Frag) (ta : TA) : TI := fun σ H R => ta σ H fun vs H1 => ∃ a b xs ys, vs = [.ref a, .ref b] ∧ SqL K H1 a xs ∧ SqL K H1 b ys ∧ R (Itz1 K a b) H1
theorem pi_zip1H {X : Cx} {e e2 : Expr} {ta : TA} {p pos tpos : Pos} {elts : List Expr} {kk : Nat} (hg : Gl X "zip") (hm : X.mg "zip" = none) (ha : PA X [e, e2] ta)
    (hs : starEach [e, e2] X.env = (false, eval e X.env) :: starEach [e2] X.env := by rfl) (hpl : (backTo pos (starEach [e2] X.env)).any (·.1) = false := by rfl) :
    PIH X (.Tuple elts kk tpos) (.Call (.Name "zip" p) [e, e2] [] pos) (iZip1 X.K ta) := by
  refine ⟨fun pins s σ H R I h => ?_⟩
  refine Call_ (ld_blt I hg hm PyProof.Rows.boot_zip (PyProof.Rows.callWith_type1 (thn (ha.run pos pins s σ H _ I h) fun us s1 ⟨vs, H1, I1, r1, q1⟩ => ?_) hs hpl))
  obtain ⟨a, b, xs, ys, ex, hqx, hqy, q⟩ := q1
  subst ex
  cases r1 with
  | cons r rr =>
    cases rr with
    | cons r' rr =>
      cases rr
      cases r
      cases r'
      obtain ⟨its, rv, p1, _⟩ := I1.list hqx
      obtain ⟨its2, rv2, p2, _⟩ := I1.list hqy
      have la : a < s1.heap.objs.size := p1.lt
      have lb : b < s1.heap.objs.size := p2.lt
      refine call_zip_2 p1.isList p2.isList fun h' hz hTI hTO h1 h2 hsz hk => wpAny_pyIter_zip hz ?_
      have I2 : Inv X pins σ H1 { s1 with heap := h' } := I1.kept (t' := s1.toks) hk
      refine ⟨s1.heap.objs.size + 4, [s1.heap.objs.size + 4, s1.heap.objs.size + 2, s1.heap.objs.size + 3, s1.heap.objs.size, s1.heap.objs.size + 1], _, _, H1, rfl, I2, turn_zip1H (PySem.W.ktu_apart s1.heap.objs.size a b la lb), ⟨hz, hTI, ⟨_, _, hTO⟩, h1, h2⟩, fun c hcm => ?_, q⟩
      have e' : c = s1.heap.objs.size + 4 ∨ c = s1.heap.objs.size + 2 ∨ c = s1.heap.objs.size + 3 ∨ c = s1.heap.objs.size ∨ c = s1.heap.objs.size + 1 := by simpa using hcm
      have hle : s1.heap.objs.size ≤ c := by
        rcases e' with z | z | z | z | z <;> rw [z] <;> omega
      exact I1.fpOk hle (I1.hok.fresh hle)
/-- the block's context, the handled exception pinned -/
abbrev blkH (X : Cx) (p : Addr × Obj) (s : Shared) (H : Hp) (scope : Scope) (cenv : Env) (fp : List Addr) : Cx := (X.blk s H scope cenv fp).tr [p] (fun _ _ => False)
section
variable {X : Cx}
theorem lc_coreH {pins : List (Addr × Obj)} {p : Addr × Obj} {s : Shared} {σ : L2.St} {H : Hp} {Q : VK} {elt tg iter : Expr} {ifs : List Expr} {scope : Scope} {own : List (Str × Nat)} {pos pos' : Pos} {wi : TI} {g : TG} {tt : TT} {te : TE} {use : Option (Value → Sem Unit)} {Qf : Value → Shared → Prop}
    (hot : Hot1 X.A p) (hp : p ∈ X.pn) (hN : X.N.Nodup) (I : Inv X pins σ H s) (hi : PIH X tg iter wi) (ok : BlkOk X.N X.env.scope scope own)
    (hg : ∀ (s : Shared) (H : Hp) (C : Addr) (cl : List (Str × Addr)) (fp : List Addr), PG (blkH X p s H scope (compEnvC scope cl C X.env) fp) tg g) (ht : ∀ (s : Shared) (H : Hp) (C : Addr) (cl : List (Str × Addr)) (fp : List Addr), PTs (blkH X p s H scope (compEnvC scope cl C X.env) fp) ifs tt)
    (he : ∀ (s : Shared) (H : Hp) (C : Addr) (cl : List (Str × Addr)) (fp : List Addr), PE (blkH X p s H scope (compEnvC scope cl C X.env) fp) elt te) (hs : ∀ x, foldedSetIterable iter X.env x = pure x)
    (h : tLc wi g tt te (own.map (·.2)) σ H Q)
    (hRR : ∀ D C s' m H', Inv X pins σ H' s' → Q (.ref D) H' → s'.heap.Ns C m → FpOk X pins H' C → compPost (model X.prog X.w) X.A X.xe use Qf (.ref D) C (.ok .next) s') :
    wpAny (model X.prog X.w) X.A (comprehension (.ListComp elt [⟨tg, iter, ifs, 0⟩] scope pos) scope X.env pos' (newList []) false (eval iter X.env) use) Qf X.xe s := by
  have hfree : ∀ y ∈ scope.names, y.2 = .free → ∃ c, X.env.cells.lookup y.1 = some c := fun y hy e => by
    rcases ok.free y hy e with k | k
    · exact I.ok.has _ (.inl k)
    · exact I.ok.has _ (.inr k)
  refine wpAny_comprehension_free (use := use) rfl hs (closure_ok hfree) ok.kind (fun y hy e => by rw [ok.uniq y hy, e])
    (thn (hi.run pins s σ H _ I h) fun xv s1 hx => thn hx fun itv s2 h2 => ?_)
  obtain ⟨it, fp, tn, J, H2, e, I2, T, st2, f2, q⟩ := h2
  subst e
  refine wpAny_newObj_type (newEnv_comp ?_) (by show 0 ≤ sizeLine; decide)
  generalize hD : s2.heap.objs.size = D
  have hDn : H2 D = none := I2.hok.fresh (Nat.le_of_eq hD)
  obtain ⟨W, ⟨m0, w0⟩, turn⟩ := q D hDn
  generalize hs3 : ({ s2 with heap := s2.heap.push { cls := .type "list", data := .seq ([] : List Value).toArray } } : Shared) = s3
  have I3 : Inv X pins σ (upd H2 D (.lst [])) s3 := by
    rw [← hs3]
    refine I2.laid (t' := s2.toks) (fun b o e => Heap.get?_push_of_some _ e) (Nat.le_of_eq hD) ⟨Nat.zero_le _, [], 0, .nil, ?_⟩
    rw [← hD]
    exact Heap.get?_push_size _ rfl
  have h3 : s3.heap = s2.heap.push { cls := .type "list", data := .seq ([] : List Value).toArray } := by rw [← hs3]
  have sz : ∀ b ∈ fp, b < s2.heap.objs.size := fun b hb => by
    obtain ⟨o, e, _⟩ := T.obj _ _ st2 b hb
    exact Heap.lt_size e
  have f3 : ∀ b ∈ fp, FpOk X pins (upd H2 D (.lst [])) b ∧ b < s3.heap.objs.size := fun b hb => by
    have hlt := sz b hb
    refine ⟨⟨?_, (f2 b hb).2⟩, by rw [h3, Heap.size_push]; exact Nat.lt_succ_of_lt hlt⟩
    rw [upd_ne (by rw [← hD]; exact Nat.ne_of_lt hlt)]
    exact (f2 b hb).1
  have st3 : tn 0 s3.heap := T.keep _ _ _ st2 fun b _ o e => by rw [h3]; exact Heap.get?_push_of_some _ e
  have P3 := I3.pin p (List.mem_append_left _ hp)
  have I4' := block_start I3 ok hN f3
  have pg := hg s3 (upd H2 D (.lst [])) s3.heap.objs.size (cellsFrom (s3.heap.objs.size + 1) scope.names (cloFrom X.env.cells scope.names [])) fp
  have pt := ht s3 (upd H2 D (.lst [])) s3.heap.objs.size (cellsFrom (s3.heap.objs.size + 1) scope.names (cloFrom X.env.cells scope.names [])) fp
  have pe := he s3 (upd H2 D (.lst [])) s3.heap.objs.size (cellsFrom (s3.heap.objs.size + 1) scope.names (cloFrom X.env.cells scope.names [])) fp
  show codeAny _ _ (.compStart (.ListComp elt [⟨tg, iter, ifs, 0⟩] scope pos) 0 (.ref it) (.ref D) (compEnvC scope (cellsFrom (s3.heap.objs.size + 1) scope.names (cloFrom X.env.cells scope.names [])) s3.heap.objs.size X.env)) (compPost (model X.prog X.w) X.A X.xe use Qf (.ref D) s3.heap.objs.size) { s3 with heap := pushCells (s3.heap.push { cls := .type "dict", data := .dict #[] }) scope.names }
  have nfp : ∀ b ∈ fp, (upd H2 D (.lst [])) b = none := fun b hb => (f3 b hb).1.1
  generalize hce : compEnvC scope (cellsFrom (s3.heap.objs.size + 1) scope.names (cloFrom X.env.cells scope.names [])) s3.heap.objs.size X.env = ce at I4' pg pt pe ⊢
  have cL : ce.locals = s3.heap.objs.size := by subst hce; rfl
  generalize hH3 : upd H2 D (.lst []) = H3 at I3 I4' pg pt pe w0 nfp f3 P3
  generalize hs4 : ({ s3 with heap := pushCells (s3.heap.push { cls := .type "dict", data := .dict #[] }) scope.names } : Shared) = s4 at I4' ⊢
  have st4 : tn 0 s4.heap := T.keep _ _ _ st3 fun b _ o e => by rw [← hs4]; exact pushCells_keeps _ _ _ _ (Heap.get?_push_of_some _ e)
  have hlt : p.1 < s3.heap.objs.size := Heap.lt_size P3.1
  have I4 : Inv (blkH X p s3 H3 scope ce fp) [] (wipe σ (own.map (·.2))) H3 s4 := by
    refine Inv.toTry (X := X.blk s3 H3 scope ce fp) (pins := [p]) (I4'.pins_of fun r hr => ?_) (fun _ _ => False)
    obtain rfl : r = p := List.mem_singleton.mp hr
    refine ⟨by rw [← hs4]; exact pushCells_keeps _ _ _ _ (Heap.get?_push_of_some _ P3.1), P3.2.1, ?_, fun hm => ?_, P3.2.2.2.2⟩
    · show r.1 ≠ ce.locals
      rw [cL]
      exact Nat.ne_of_lt hlt
    · exact (List.mem_cons.mp (I3.stkSub r.1 hm)).elim P3.2.2.1 P3.2.2.2.1
  have hotY : HotC (blkH X p s3 H3 scope ce fp) := ⟨p, hot, List.mem_singleton.mpr rfl⟩
  have stat : ∀ {σ' : L2.St} {H' : Hp} {s' : Shared}, Inv (blkH X p s3 H3 scope ce fp) [] σ' H' s' → (∀ b ∈ fp, H' b = none) → ∀ b ∈ fp, FpOk (blkH X p s3 H3 scope ce fp) [] H' b := fun {σ' H' s'} I' hn b hb =>
    ⟨hn b hb, (I'.ok.exf b hb).1, I'.ok.exfs b hb, .inl hb, fun x c e => (I'.ok.exf b hb).2 x c e, fun r hr => by
      obtain rfl : r = p := List.mem_singleton.mp (show r ∈ [p] from by simpa using hr)
      exact (f3 b hb).1.2.2.2.2.2 r (List.mem_append_left _ hp)⟩
  have loop : codeAny (model X.prog X.w) X.A (.compLoop (.ListComp elt [⟨tg, iter, ifs, 0⟩] scope pos) 0 (.ref it) (.ref D) ce) (compPost (model X.prog X.w) X.A X.xe use Qf (.ref D) s3.heap.objs.size) s4 := by
    refine compLoop_any (fun n s' => ∃ i H', Inv (blkH X p s3 H3 scope ce fp) [] (wipe σ (own.map (·.2))) H' s' ∧ tn i s'.heap ∧ (∀ b ∈ fp, H' b = none) ∧ W i n H') ?_ m0 ⟨0, H3, I4, st4, nfp, w0⟩
    rintro n s5 ⟨i, H5, I5, st5, n5, w5⟩
    rcases turn i n H5 w5 with ⟨stop, qq⟩ | ⟨go, Nx, hNx, step⟩
    · have td := T.done (blkH X p s3 H3 scope ce fp) rfl rfl rfl hotY i [] s5 _ H5 (fun _ _ => False) I5 (stat I5 n5) st5 stop
      refine thnF td fun r s6 ⟨hr, I6⟩ => ?_
      subst hr
      have I7 : Inv X pins σ H5 s6 := I3.call' (ch := fp) I6.os I6.base I6.hok I6.bare fun b hb => ⟨(f3 b hb).1.2.2.2.1, (f3 b hb).1.2.1, (f3 b hb).1.2.2.2.2.1, (f3 b hb).1.2.2.2.2.2⟩
      have nC : H5 s3.heap.objs.size = none := by
        have z : H5 ce.locals = none := I6.free
        rw [cL] at z
        exact z
      obtain ⟨m, hn, _⟩ := I6.loc
      have hn : s6.heap.Ns ce.locals m := hn
      rw [cL] at hn
      exact hRR D s3.heap.objs.size s6 m H5 I7 qq hn (I3.fpOk (Nat.le_refl _) nC)
    · have ti := T.item (blkH X p s3 H3 scope ce fp) rfl rfl rfl hotY i [] s5 _ H5 (fun _ _ => False) I5 (stat I5 n5) st5 go
      refine thnF ti fun r s6 ⟨u, hr, h6⟩ => ?_
      subst hr
      refine thnF h6 fun _ s7 ⟨x, H7, I7, r7, y7, st7, n7⟩ => ?_
      have I7' := I7.pinned (stat I7 n7) (T.obj _ _ st7)
      refine thnF (pg.run _ s7 _ H7 x u _ I7' r7 (step x H7 y7)) fun _ s8 ⟨σ8, H8, I8, hw8, q8⟩ => ?_
      refine thnF (pt.run _ s8 σ8 H8 _ I8 q8) fun b s9 ⟨H9, I9, q9⟩ => ?_
      have fin : ∀ {s' : Shared} {H' : Hp}, Inv (blkH X p s3 H3 scope ce fp) ([] ++ pinsAt fp s7.heap) σ8 H' s' → Nx H' → ∃ m, m < n ∧ ∃ i H', Inv (blkH X p s3 H3 scope ce fp) [] (wipe σ (own.map (·.2))) H' s' ∧ tn i s'.heap ∧ (∀ b ∈ fp, H' b = none) ∧ W i m H' := fun {s' H'} I' nx => by
        obtain ⟨m', hm, w'⟩ := hNx H' nx
        have pin' : ∀ b ∈ fp, ∀ o, s7.heap.get? b = some o → s'.heap.get? b = some o ∧ H' b = none := fun b hb o e =>
          let z := I'.pin (b, o) (List.mem_append_right _ (List.mem_append_right _ (mem_pinsAt hb e)))
          ⟨z.1, z.2.1⟩
        have hl : (wipe σ (own.map (·.2))).length = σ8.length := by rw [← hw8, wipe_length]
        refine ⟨m', hm, i + 1, H', (I'.unpinned (pins := [])).weak hl (fun j v e => ?_), T.keep _ _ _ st7 fun b hb o e => (pin' b hb o e).1, fun b hb => ?_, w'⟩
        · rw [← hw8] at e
          exact (wipe_some e).1
        · obtain ⟨o, e, _⟩ := T.obj _ _ st7 b hb
          exact (pin' b hb o e).2
      cases b with
      | false =>
        simp only [Bool.false_eq_true, if_false] at q9 ⊢
        exact fin I9 q9
      | true =>
        simp only [if_true] at q9 ⊢
        refine thnF (pe.run _ s9 σ8 H9 _ I9 q9) fun z s10 ⟨yv, H10, I10, r10, acc, hD10, hz10, nx⟩ => ?_
        exact app_ok (X := blkH X p s3 H3 scope ce fp) I10 hD10 hz10 r10 fun s11 I11 => fin I11 nx
  exact codeAny_compStart_list loop (T.self X.A 0 _ _ _ st4 loop)
/-- as a value -/
theorem pe_lcH {p : Addr × Obj} {elt tg iter : Expr} {ifs : List Expr} {scope : Scope} {own : List (Str × Nat)} {pos : Pos} {wi : TI} {g : TG} {tt : TT} {te : TE} (hot : Hot1 X.A p) (hp : p ∈ X.pn) (hN : X.N.Nodup) (hi : PIH X tg iter wi) (ok : BlkOk X.N X.env.scope scope own)
    (hg : ∀ (s : Shared) (H : Hp) (C : Addr) (cl : List (Str × Addr)) (fp : List Addr), PG (blkH X p s H scope (compEnvC scope cl C X.env) fp) tg g) (ht : ∀ (s : Shared) (H : Hp) (C : Addr) (cl : List (Str × Addr)) (fp : List Addr), PTs (blkH X p s H scope (compEnvC scope cl C X.env) fp) ifs tt)
    (he : ∀ (s : Shared) (H : Hp) (C : Addr) (cl : List (Str × Addr)) (fp : List Addr), PE (blkH X p s H scope (compEnvC scope cl C X.env) fp) elt te) (hs : ∀ x, foldedSetIterable iter X.env x = pure x := by intro _; rfl) :
    PE X (.ListComp elt [⟨tg, iter, ifs, 0⟩] scope pos) (tLc wi g tt te (own.map (·.2))) := by
  refine ⟨fun pins s σ H Q I h => ?_⟩
  rw [eval_ListComp]
  refine lc_coreH hot hp hN I hi ok hg ht he hs h fun D C s' m H' I' q hn f => ⟨m, hn, fun h'' sb => ?_⟩
  obtain ⟨f0, f1, f2, f3, f4, f5⟩ := f
  exact ⟨.ref D, H', I'.turned (t' := s'.toks) (fun b o hb e => (sb.2 b hb).trans e) f0 f1 f3 f4 f5, rfl, q⟩
end
end Xl

/-! raising defs, told: a lambda handed to a def that catches (own work). -/
namespace Xl
open PySem PySem.Spec PyProof.Rows L2 HotX L2H LamX
/-! ### raise -/
abbrev bmVE : List Value := [.type "ValueError", .type "Exception", .type "BaseException", .type "object"]
/-- an own class over ValueError -/
structure OwnX (K : PySem.W.Frag) (C : Addr) : Prop where
  q : PySem.W.excIn K C bmVE "ValueError.__new__" = true
  k : PySem.W.keepIn K (.ref C) = true
  s : PySem.W.subIn K (.ref C) (.type "BaseException") = some true
  t : PySem.W.typeIn K (.ref C) = some (.type "type")
def tRais (E : XK) (C : Addr) : TS := fun _ _ H => E (.ref C) none H
section
variable {X : Cx} {C : Addr} {E : XK}
theorem pmk_ownN {x m : Str} {j : Nat} {p p2 pos : Pos} (O : OwnX X.K C) (gC : X.mg x = some (.ref C)) (hg : Gl X x)
    (hdb : (x == ("__debug__" : Str)) = false := by decide) : L2N.PMk X (.Call (.Name x p) [.Constant (.str m) j p2] [] pos) (fun _ H Q => Q (.ref C) none H) := by
  intro pins s σ H Q I h
  refine wpAny_Call_Name_kw (ld_glob I hg gC ?_ hdb)
  have ha : PA X [.Constant (.str m) j p2] (tCons (tC (.str m)) tNil) := pa_cons pe_str pa_nil
  refine PySem.W.callWith_K (h₀ := X.base) I.ok.mod.kin O.k (thn (ha.run pos pins s σ H (fun vs H1 => vs = [V.str m] ∧ H = H1) I ⟨rfl, rfl⟩) fun us s1 hh => ?_)
  obtain ⟨vs, H1, I1, r1, ev, eH⟩ := hh
  subst ev
  rw [← eH] at I1
  refine ⟨I1.kIn, ?_⟩
  cases r1 with
  | cons ru rn =>
    rename_i u us'
    cases rn
    show wpAny _ _ (call (.ref C) [u]) _ _ _
    obtain ⟨bm, N, nm, qn, bs, hdct, sn, sub, ab, col, dd, k0, k1, k2, k3, k5, mN, hC, hN, hni, T⟩ := exc_obj I1.kIn O.q
    refine wpAny_call_exc_subT PySem.F.excBase_ValueError T hC hN hni (fun h' e hm => ?_) (by show 1 ≤ sizeLine; rw [sizeLine_eq]; omega)
    exact L2N.mk_of I1 hm (raises_own O.s O.t) h (I1.hok.gone hm.new)
theorem ps_rais {x m : Str} {j : Nat} {p p2 pos pos' : Pos} (hc : X.calm = true) (tk : L2N.Takes X (fun cls d _ H => E cls d H)) (O : OwnX X.K C) (gC : X.mg x = some (.ref C)) (hg : Gl X x) (hdb : (x == ("__debug__" : Str)) = false := by decide) :
    PS X (.Raise (some (.Call (.Name x p) [.Constant (.str m) j p2] [] pos)) none pos') (tRais E C) := L2N.ps_raise hc tk (pmk_ownN O gC hg hdb)
/-- what raises nothing -/
theorem ps_nox {st : Stmt} {t : TS} (h : PS X.nox st t) : PS X st t := ⟨fun pins s σ H D I hw => wpAny_mono (h.run pins s σ H D (I.wish _) hw) (fun _ _ q => q.unwish) fun _ _ z => False.elim z⟩
end
section
variable {P : Program} {w : World} {K : PySem.W.Frag} {mg : Str → Option Value} {base : Heap} {N : List Str} {qual : Str} {scope : Scope} {f : Addr} {cd : Value} {A : Around} {outer : List Env} {s : Shared} {H : Hp} {E : XK}
theorem takesN : L2N.Takes (cxOf (L2N.CX P w) P w K mg base N qual scope f cd A outer s H E) (fun cls d _ H => E cls d H) := L2N.takes_of rfl rfl rfl rfl
end
theorem passN {X : Cx} {E : XK} (tk : L2N.Takes X (fun cls d _ H => E cls d H)) : Passes (L2N.CX X.prog X.w) X E := L2N.passes_call tk fun _ _ _ _ h => h
section
variable (P : Program) (w : World) (K : PySem.W.Frag) (mg : Str → Option Value) (base : Heap)
/-- C(..), its __init__ may raise -/
structure CalMX (x : Str) (k : Nat) (ps : List Str) (sp : Sp) : Prop where
  ex : ∃ f fd, mg x = some (.ref (He.ga K x)) ∧ Mk K (He.ga K x) f ∧ Binds K fd ps [] ∧ FnOk P w K mg base (L2N.CX P w) k f fd ps sp
/-- a classmethod that may raise -/
structure CalCX (x m : Str) (k : Nat) (ps : List Str) (sp : Sp) : Prop where
  ex : ∃ p g fd, mg x = some (.ref (He.ga K x)) ∧ ClX.CRead K (He.ga K x) (.type "type") ∧ ClX.CMet K (He.ga K x) (.type "type") m p g ∧ Binds K fd ps [] ∧ FnOk P w K mg base (L2N.CX P w) k g fd ps sp
/-- a method that may raise -/
structure CalTX (x m : Str) (k : Nat) (ps : List Str) (sp : Sp) : Prop where
  ex : ∃ g fd, Cls K (He.ga K x) ∧ Meth K (He.ga K x) m g ∧ Binds K fd ps [] ∧ FnOk P w K mg base (L2N.CX P w) k g fd ps sp
end
section
variable {X : Cx} {k n : Nat} {ps ks : List Str} {sp : Sp} {x f m : Str} {p pos apos : Pos} {o e : Expr} {es : List Expr} {t : TA} {tf ta : TE} {E : XK}
theorem pe_calMX (c : CalMX X.prog X.w X.K X.mg X.base x k ps sp) (hr : Room (k + 1) X.A) (hg : Gl X x) (hx : Passes (L2N.CX X.prog X.w) X E) (ha : PA X (e :: es) t)
    (hdb : (x == ("__debug__" : Str)) = false := by decide) (he : starEach (e :: es) X.env = (false, eval e X.env) :: starEach es X.env := by rfl) (hpl : (backTo pos (starEach es X.env)).any (·.1) = false := by rfl) :
    PE X (.Call (.Name x p) (e :: es) [] pos) (tMake (He.ga X.K x) sp [] E t) := by
  obtain ⟨g, fd, m, M, b, F⟩ := c.ex
  exact pe_make M F hr hg m b .nil hx ha hdb he hpl
end
theorem passN0 {X : Cx} : Passes (L2N.CX X.prog X.w) X E0 := fun _ _ _ _ _ _ _ h => by
  obtain ⟨_, _, _, _, _, _, _, _, _, _, _, _, z⟩ := h
  exact z.elim
/-- c(e, ..), c a value that is the class at C, its __init__ may raise -/
def tMakeVX (C : Addr) (sp : Sp) (E : XK) (tf : TE) (t : TA) : TE := fun σ H Q => tf σ H fun c H0 => c = .ref C ∧ t σ H0 fun vs H1 => ∀ x dx, H1 x = none → H1 dx = none → dx ≠ x →
  sp (.ref x :: vs) (upd (upd H1 dx (.own x)) x (.ins C dx [])) (fun v H2 => v = .non ∧ Q (.ref x) H2) E
section
variable {X : Cx} {k n : Nat} {ps ks : List Str} {sp : Sp} {x f m : Str} {p pos apos : Pos} {o e : Expr} {es : List Expr} {t : TA} {tf ta : TE} {E : XK}
theorem pe_calMVX {y : Str} (c : CalMX X.prog X.w X.K X.mg X.base x k ps sp) (hr : Room (k + 1) X.A) (hx : Passes (L2N.CX X.prog X.w) X E) (hf : PE X (.Name y p) tf) (ha : PA X (e :: es) t)
    (he : starEach (e :: es) X.env = (false, eval e X.env) :: starEach es X.env := by rfl) (hpl : (backTo pos (starEach es X.env)).any (·.1) = false := by rfl) :
    PE X (.Call (.Name y p) (e :: es) [] pos) (tMakeVX (He.ga X.K x) sp E tf t) := by
  obtain ⟨g, fd, _, M, b, F⟩ := c.ex
  refine ⟨fun pins s σ H Q I h => ?_⟩
  refine wpAny_Call_Name_kw (thn (hf.run pins s σ H _ I h) fun u s1 ⟨c, H1, I1, rc, ec, q1⟩ => ?_)
  subst ec
  obtain rfl : u = Value.ref _ := rc
  refine PySem.W.callWith_K (h₀ := X.base) I.ok.mod.kin M.kp (thn (ha.run pos pins s1 σ H1 _ I1 q1) fun us s2 ⟨vs, H2, I2, r, q⟩ => ⟨I2.kIn, ?_⟩) he hpl
  exact run_make M F hr b .nil hx I2 r (fun y dx h1 h2 h3 => by rw [List.append_nil]; exact q y dx h1 h2 h3)
theorem pe_calCX {pl : Sem Bool} (c : CalCX X.prog X.w X.K X.mg X.base x m k ps sp) (hr : Room k X.A) (hx : Passes (L2N.CX X.prog X.w) X E) (he : PE X o ta) (ha : PA X (e :: es) t)
    (hst : starEach (e :: es) X.env = (false, eval e X.env) :: starEach es X.env := by rfl) (hpl : (backTo pos (starEach es X.env)).any (·.1) = false := by rfl)
    (ht : eval (.Call (.Attribute o m apos) (e :: es) [] pos) X.env = (do
      let ov ← eval o X.env
      standAt apos.atName
      let (f, first) ← holding [ov] (getMethod ov m pl)
      callWith pos f first (backTo pos (starEach (e :: es) X.env)) (backToKw pos (keywordEach [] X.env))) := by rfl) :
    PE X (.Call (.Attribute o m apos) (e :: es) [] pos) (ClX.tCMeth (He.ga X.K x) sp E ta t) := by
  obtain ⟨q, g, fd, mm, r, cm, b, F⟩ := c.ex
  exact ClX.pe_cmeth (pl := pl) he r cm ((F.raw b .nil).imp fun vs H Q E h => by rw [List.append_nil]; exact h) hr hx ha hst hpl ht
end
/-! ### a lambda's body that may raise -/
def lamN (X : Cx) (A : Around) (outer : List Env) (s : Shared) (H : Hp) (E : XK) (scope : Scope) (f c' : Addr) : Cx :=
  (lamCx X A outer s H E scope f c').wish fun e s' => wpAny (model X.prog X.w) (A.deeper (lamEnv X scope s.heap.objs.size f c')) (leaving (lamEnv X scope s.heap.objs.size f c') e) (fun _ s'' => L2N.CX X.prog X.w outer H s E e s'') (fun e' s'' => L2N.CX X.prog X.w outer H s E e' s'') s'
theorem takes_lamN {X : Cx} {A : Around} {outer : List Env} {s : Shared} {H : Hp} {E : XK} {scope : Scope} {f c' : Addr} : L2N.Takes (lamN X A outer s H E scope f c') (fun cls d _ H => E cls d H) := L2N.takes_of rfl rfl rfl rfl
section
variable {X : Cx} {pins : List (Addr × Obj)} {σ : L2.St} {H HZ : Hp} {s s1 : Shared}
/-- x(), in the def that got the lambda -/
theorem pe_actN {CXg : CXT} {Eg : XK} {Ng : List Str} {qg : Str} {sg : Scope} {g f c' : Addr} {cdg pm ctv : Value} {params : Arguments} {body : Expr} {scope : Scope} {k i : Nat} {a : Str} {pn : List (Addr × Obj)} {xe : Value → Shared → Prop} {W : WX} {E : XK} {tb : TE} {p1 p2 : Pos}
    (I : Inv X pins σ H s) (L : LamS X.env.scope scope) (hf : s.heap.get? f = some (PySem.W.kla_obj "<lambda>" (X.env.qual ++ "<lambda>") params body scope (cloFrom X.env.cells scope.names []) pm c' ctv)) (hfn : H f = none) (hfr : f ∉ frs X.stack)
    (hbind : bindArgs (PySem.W.kla_fn "<lambda>" (X.env.qual ++ "<lambda>") params body scope (cloFrom X.env.cells scope.names []) pm (.ref c') ctv) ⟨[], []⟩ = pure [])
    (tk : L2N.Takes ((cxOf CXg X.prog X.w X.K X.mg X.base Ng qg sg g cdg X.A X.stack s H Eg).tr pn xe) W) (hW : ∀ cls d σ' H', E cls d H' → W cls d σ' H') (hr : Room (k + 1) (X.A.deeper (envOfC qg sg s.heap.objs.size g cdg)))
    (hbody : ∀ (A : Around) (outer : List Env) (s : Shared) (H : Hp), Room k (A.deeper (lamEnv X scope s.heap.objs.size f c')) → PE (lamN X A outer s H E scope f c') body tb)
    (hN : Ng[i]? = some a) (hv : Vis sg a) (hd : (a == ("__debug__" : Str)) = false := by decide) (hcd : (a == ("__classdict__" : Str)) = false := by decide) :
    PE ((cxOf CXg X.prog X.w X.K X.mg X.base Ng qg sg g cdg X.A X.stack s H Eg).tr pn xe) (.Call (.Name a p1) [] [] p2)
      (fun σZ HZ Q => σZ[i]? = some (some (.ref f)) ∧ HZ c' = some (CodeO c' (X.env.qual ++ "<lambda>")) ∧ tb σ HZ Q) := by
  refine ⟨fun pinsZ sZ σZ HZ Q IZ h => ?_⟩
  obtain ⟨hs, hc, ht⟩ := h
  refine wpAny_Call_Name_kw (thn ((pe_var (pos := p1) (i := i) hN hv hd hcd).run pinsZ sZ σZ HZ (fun v H1 => v = .ref f ∧ H1 = HZ) IZ ⟨.ref f, hs, rfl, rfl⟩) fun u s1 ⟨v, H1, I1, r1, q1⟩ => ?_)
  obtain ⟨ev, eH⟩ := q1
  subst ev
  rw [eH] at I1
  obtain rfl : u = Value.ref f := r1
  have of1 : s1.heap.get? f = some (PySem.W.kla_obj "<lambda>" (X.env.qual ++ "<lambda>") params body scope (cloFrom X.env.cells scope.names []) pm c' ctv) := I1.base.keep f _ hf hfn hfr (fun z => nomatch (show f ∈ ([] : List Addr) from z))
  refine PySem.W.callWith_F0 ⟨_, _, _, _, of1⟩ ?_
  have un : Un (frs X.stack) [] H HZ s.heap s1.heap := I1.base
  obtain ⟨⟨oc, vs, t, hoc, hdc, hvc⟩, _, _⟩ := I1.hok c' _ hc
  have rc : codeAny (model X.prog X.w) (X.A.deeper (envOfC qg sg s.heap.objs.size g cdg)) (.call (.ref f) ⟨[], []⟩) (CR (L2N.CX X.prog X.w) (envOfC qg sg s.heap.objs.size g cdg :: X.stack) X.prog X.w HZ s1 Q E) s1 := by
    refine PySem.W.kla_callFunE hr.depth of1 rfl L.co L.gen rfl ⟨c', oc, vs, t, rfl, hoc, hdc, hvc⟩ ?_
    rw [hbind]
    refine wpAny_pure (wpAny_newFunctionEnv (fun y hy => (L.own y hy).2) (fun y hy => absurd hy (by simp)) (fun h₁ hns hsb => ⟨I1.nolimit.fresh _ hsb, ?_⟩) L.kind)
    show codeAny _ _ (.expr body (lamEnv X scope s1.heap.objs.size f c')) _ _
    have kp : ∀ b o, s1.heap.get? b = some o → h₁.get? b = some o := fun b o e => hsb.extBut b o (Nat.ne_of_lt (Heap.lt_size e)) (Heap.get?_push_of_some _ e)
    have J : Inv (lamN X (X.A.deeper (envOfC qg sg s.heap.objs.size g cdg)) (envOfC qg sg s.heap.objs.size g cdg :: X.stack) s1 HZ E scope f c') [] σ HZ { s1 with heap := h₁, toks := s1.toks + ([] : List (Str × Value)).length } :=
      Inv.wish (lam_start2 I L I1.env0 hr.hd un hns kp) _
    refine PySem.W.kla_codeExpr (wpAny_mono ((hbody _ _ s1 HZ (hr.deeper _)).run [] _ _ HZ Q J ht) (fun v s' hq => ?_) fun e s' hq => hq)
    obtain ⟨w', H', J', rv, q⟩ := hq
    exact ⟨w', H', J'.os, J'.bare, J'.base, J'.hok, rv, q⟩
  have hx : Passes (L2N.CX X.prog X.w) ((cxOf CXg X.prog X.w X.K X.mg X.base Ng qg sg g cdg X.A X.stack s H Eg).tr pn xe) E := L2N.passes_call tk hW
  refine wpAny_call (codeAny_mono rc fun r s' hq => ?_)
  cases r with
  | error e => exact hx pinsZ σZ HZ s1 e s' I1 hq
  | ok fl =>
    cases fl with
    | ret u => exact I1.after hq
    | next => exact False.elim hq
    | brk => exact False.elim hq
    | cont => exact False.elim hq
end
/-- the def that calls what it got -/
def GivesN (X : Cx) (Ng : List Str) (x : Str) (sg : Scope) (g : Addr) (cdg : Value) (bg : List Stmt) (a : Str) (q : Str) (k : Nat) (TT : (XK → Hp → VK → Prop) → Hp → VK → Prop) : Prop :=
  ∀ (f c' : Addr) (s : Shared) (H : Hp) (Q : VK) (tl : XK → Hp → VK → Prop), Room k (X.A.deeper (envOfC x sg s.heap.objs.size g cdg)) →
    (∀ (W : WX) (pn : List (Addr × Obj)) (xe : Value → Shared → Prop) (E : XK) (p1 p2 : Pos), L2N.Takes ((cxOf C8.CX0 X.prog X.w X.K X.mg X.base Ng x sg g cdg X.A X.stack s H C8.E0).tr pn xe) W → (∀ cls d σ' H', E cls d H' → W cls d σ' H') →
      PE ((cxOf C8.CX0 X.prog X.w X.K X.mg X.base Ng x sg g cdg X.A X.stack s H C8.E0).tr pn xe) (.Call (.Name a p1) [] [] p2) (fun σZ HZ Q => σZ[0]? = some (some (.ref f)) ∧ HZ c' = some (CodeO c' q) ∧ tl E HZ Q)) →
    H c' = some (CodeO c' q) → TT tl H Q →
    ∃ t, PSs (cxOf C8.CX0 X.prog X.w X.K X.mg X.base Ng x sg g cdg X.A X.stack s H C8.E0).nox bg t ∧ t { nx := fun _ H' => Q .non H', rt := Q } (L2.start Ng [.ref f]) H
section
variable {X : Cx}
/-- x(lambda: body) -/
theorem pe_lamN {T : List (Addr × Str)} {TT : (XK → Hp → VK → Prop) → Hp → VK → Prop} {x a : Str} {g c P : Addr} {k : Nat} {pg : Arguments} {bg : List Stmt} {sg : Scope} {kws : List (Str × V)} {fd : FuncData} {Ng : List Str}
    {params : Arguments} {body : Expr} {scope : Scope} {t : XK → TE} {p lpos pos : Pos} (hg : Gl X x) (hm : X.mg x = some (.ref g)) (hk : PySem.W.keepIn X.K (.ref g) = true)
    (F : FunD X.K x x pg bg sg [] kws g fd) (hb : L2.Binds X.K fd [a] []) (Sg : FnScope Ng [a] sg) (hNg : Ng[0]? = some a) (hva : Vis sg a)
    (hG : ∀ cdv, GivesN X Ng x sg g cdv bg a (X.env.qual ++ "<lambda>") (k + 1) TT)
    (TB : TabB X.base X.mg c P) (hcode : X.env.code = .ref c) (hmT : (P, X.env.qual ++ "<lambda>") ∈ T) (hu : ∀ p ∈ T, p.1 = P → p.2 = X.env.qual ++ "<lambda>") (hr : Room (k + 2) X.A) (L : LamS X.env.scope scope) (hdef : defaultsOf params X.env = ([], []))
    (hbind : ∀ (q : Str) (cl : List (Str × Addr)) (pm cv ctv : Value), bindArgs (PySem.W.kla_fn "<lambda>" q params body scope cl pm cv ctv) ⟨[], []⟩ = pure [])
    (hbody : ∀ (A : Around) (outer : List Env) (s : Shared) (H : Hp) (E : XK) (f c' : Addr), Room k (A.deeper (lamEnv X scope s.heap.objs.size f c')) → PE (lamN X A outer s H E scope f c') body (t E))
    (hdb : (x == ("__debug__" : Str)) = false := by decide) (hd : (a == ("__debug__" : Str)) = false := by decide) (hcd : (a == ("__classdict__" : Str)) = false := by decide) :
    PE X (.Call (.Name x p) [.Lambda params body scope lpos] [] pos) (tLam T TT t) := by
  obtain ⟨oc, od, dV, kV, doc, pm, an, cdv, ct, osl, rfl, lk, hcg, _, _⟩ := F.ex
  refine ⟨fun pins s σ H Q I h => ?_⟩
  obtain ⟨hT, h⟩ := h
  refine wpAny_Call_Name_kw (ld_glob I hg hm ?_ hdb)
  refine PySem.W.callWith_K (h₀ := X.base) I.ok.mod.kin hk ?_ (by rfl) (by rfl)
  show wpAny _ _ (spliced ((false, eval (.Lambda params body scope lpos) X.env) :: backTo pos (starEach [] X.env))) _ _ s
  refine Calls.spliced_cons (lam_make2 I TB hcode hmT hu hT hdef (L.has I.ok) fun f c' pm' ctv H1 s' I1 eN T1 hf hfn hfr hco => ?_)
  refine Calls.spliced_nil ⟨I1.kIn, ?_⟩
  have rc : codeAny (model X.prog X.w) X.A (.call (.ref g) ⟨[.ref f], []⟩) (CR C8.CX0 X.stack X.prog X.w H1 s' Q C8.E0) s' := by
    refine run_ofS (N := Ng) (ps := [a]) (us := [.ref f]) (vs := [.ref f]) lk hcg Sg hr I1.env0 (hb s' [.ref f] I1.kIn rfl) (.cons rfl .nil) rfl fun hr' => ?_
    obtain ⟨t', ht', hq'⟩ := hG cdv f c' s' H1 Q (fun E H' Q' => t E σ H' Q') hr' (fun W pn xe E p1 p2 tk hW => pe_actN (i := 0) I1 L hf hfn hfr (hbind _ _ _ _ _) tk hW hr' (fun A outer s H hr2 => hbody A outer s H E f c' hr2) hNg hva hd hcd) hco (h H1 eN T1)
    exact ⟨t', ht'.nox, hq'⟩
  refine wpAny_call (codeAny_mono rc fun r s2 hq => ?_)
  cases r with
  | error e => exact (show False from hq).elim
  | ok fl =>
    cases fl with
    | ret u => exact I1.after hq
    | next => exact False.elim hq
    | brk => exact False.elim hq
    | cont => exact False.elim hq
theorem takes0N {X : Cx} : L2N.Takes X (fun _ _ _ _ => False) := fun _ _ x => by
  obtain ⟨_, _, _, _, _, _, _, _, _, _, _, _, _, _, _, _, z⟩ := x
  exact z.elim
end
/-! ### a def called while an exception is handled, that gets the exception -/
structure FnHp (P : Program) (w : World) (K : PySem.W.Frag) (mg : Str → Option Value) (base : Heap) (k : Nat) (f : Addr) (fd : FuncData) (ps : List Str) (sp : Addr × Obj → Sp) : Prop where
  len : ∀ p vs H Q E, sp p vs H Q E → vs.length = ps.length
  run : ∀ (A : Around) (outer : List Env) (s : Shared) (H : Hp) (args : Args) (us : List Value) (vs : List V) (Q : VK) (E : XK) (p : Addr × Obj), RoomH k A → Hot1 A p → PinOk outer H s p → Env0 P w K mg base A outer s H → BindsTo s fd args (ps.zip us) → Vals vs us → sp p vs H Q E →
    codeAny (model P w) A (.call (.ref f) args) (CR C8.CX0 outer P w H s Q E) s
theorem fn_ofHp {P : Program} {w : World} {K : PySem.W.Frag} {mg : Str → Option Value} {base : Heap} {x qual : Str} {params : Arguments} {body : List Stmt} {scope : Scope} {kws : List (Str × V)} {f : Addr} {fd : FuncData} {N ps : List Str} {k : Nat} {sp : Addr × Obj → Sp}
    (F : FunD K x qual params body scope [] kws f fd) (S : FnScope N ps scope) (len : ∀ p vs H Q E, sp p vs H Q E → vs.length = ps.length)
    (hbody : ∀ (cdv : Value) (A : Around) (outer : List Env) (s : Shared) (H : Hp) (vs : List V) (Q : VK) (E : XK) (p : Addr × Obj), Hot1 A p → RoomH k (A.deeper (envOfC qual scope s.heap.objs.size f cdv)) → sp p vs H Q E →
      ∃ t, PSs (cxH C8.CX0 P w K mg base N qual scope f cdv A outer s H E p) body t ∧ t { nx := fun _ H' => Q .non H', rt := Q } (L2.start N vs) H) :
    FnHp P w K mg base (k + 1) f fd ps sp := by
  refine ⟨len, fun A outer s H args us vs Q E p hr hot hpin e0 hb r hsp => ?_⟩
  obtain ⟨oc, od, dV, kV, doc, pm, an, cdv, ct, osl, rfl, lk, hcd, _, _⟩ := F.ex
  have hl := len _ _ _ _ _ hsp
  have KX : K.In s.heap := e0.mod.kin.keeps fun b o e => (e0.bs b o e).1
  have lim : s.heap.NoLimit := e0.mod.nolimit.keeps fun b o e => (e0.bs b o e).1
  have hkind : ∀ y ∈ ps.zip us, scope.names.lookup y.1 = some .local ∨ (scope.names.lookup y.1 = some .cell ∧ ((cellsFrom (s.heap.objs.size + 1) scope.names []).lookup y.1).isSome = true) := fun ⟨n, v⟩ hy => by
    rcases S.par n (List.of_mem_zip hy).1 with q | q
    · exact .inl q
    · exact .inr ⟨q, PySem.W.cellsFrom_some _ _ _ (.inl q)⟩
  refine codeAny_call_function hr.depth (KX _ _ lk) rfl S.co S.gen rfl (PySem.W.codeRec_of KX hcd) (hb _ _ _ _ ?_)
  refine wpAny_newFunctionEnv_cells S.kind hkind fun env he s1 x => ?_
  subst he
  refine ⟨lim.keeps x.toInCall.keep, codeAny_func ?_⟩
  obtain ⟨t, ht, hq⟩ := hbody cdv A outer s H vs Q E p hot (hr.deeper _) hsp
  have I : Inv (cxH C8.CX0 P w K mg base N qual scope f cdv A outer s H E p) [] (L2.start N vs) H s1 := inv_startH S hpin e0 hl r x
  refine wpAny_mono (ht.run [] s1 (L2.start N vs) H _ I hq) (fun fl s' hs => ?_) fun e s' hs => hs
  have fin : ∀ {σ' : L2.St} {H' : Hp} {v : V} {u : Value}, Inv (cxH C8.CX0 P w K mg base N qual scope f cdv A outer s H E p) [] σ' H' s' → L2.RelV v u → Q v H' → CE outer P w H s Q u s' :=
    fun {σ' H' v u} J rv q => ⟨v, H', J.os, J.bare, J.base, J.hok, rv, q⟩
  cases fl with
  | ret u =>
    obtain ⟨v, σ', H', J, rv, q⟩ := hs
    exact fin J rv q
  | next =>
    obtain ⟨σ', H', J, q⟩ := hs
    exact fin (v := V.non) (u := Value.none) J rfl q
  | brk =>
    obtain ⟨_, _, _, q⟩ := hs
    exact False.elim q
  | cont =>
    obtain ⟨_, _, _, q⟩ := hs
    exact False.elim q
section
variable {X : Cx} {k : Nat} {f : Addr} {fd : FuncData} {ps : List Str} {sp : Addr × Obj → Sp} {x : Str} {q pos : Pos} {e : Expr} {es : List Expr} {t : TA} {p : Addr × Obj}
theorem pe_callHp (F : FnHp X.prog X.w X.K X.mg X.base k f fd ps sp) (hr : RoomH k X.A) (hot : Hot1 X.A p) (hp : p ∈ X.pn) (hg : Gl X x) (hm : X.mg x = some (.ref f)) (hk : PySem.W.keepIn X.K (.ref f) = true) (hb : Binds X.K fd ps [])
    (ha : PA X (e :: es) t) (hdb : (x == ("__debug__" : Str)) = false := by decide) (he : starEach (e :: es) X.env = (false, eval e X.env) :: starEach es X.env := by rfl) (hpl : (backTo pos (starEach es X.env)).any (·.1) = false := by rfl) :
    PE X (.Call (.Name x q) (e :: es) [] pos) (fun σ H Q => t σ H fun vs H1 => sp p vs H1 Q C8.E0) := by
  refine ⟨fun pins s σ H Q I h => ?_⟩
  refine wpAny_Call_Name_kw (ld_glob I hg hm ?_ hdb)
  refine PySem.W.callWith_K (h₀ := X.base) I.ok.mod.kin hk (thn (ha.run pos pins s σ H _ I h) fun us s1 ⟨vs, H1, I1, r, hsp⟩ => ⟨I1.kIn, ?_⟩) he hpl
  have hl : us.length = ps.length := by rw [← r.length]; exact F.len _ _ _ _ _ hsp
  have b := hb s1 us I1.kIn (by rw [List.append_nil]; exact hl)
  rw [List.append_nil] at b
  have P1 := I1.pin p (List.mem_append_left _ hp)
  have hpin : PinOk X.stack H1 s1 p := ⟨P1.1, P1.2.1, fun hm => (List.mem_cons.mp (I1.stkSub p.1 hm)).elim P1.2.2.1 P1.2.2.2.1, P1.2.2.2.2⟩
  refine wpAny_call (codeAny_mono (F.run X.A X.stack s1 H1 ⟨us, []⟩ us vs Q C8.E0 p hr hot hpin I1.env0 b r hsp) fun r s' hq => ?_)
  cases r with
  | error e => exact (show False from hq).elim
  | ok fl =>
    cases fl with
    | ret u => exact I1.after hq
    | next => exact False.elim hq
    | brk => exact False.elim hq
    | cont => exact False.elim hq
/-- isinstance(e, c), e the exception that is handled -/
theorem cr_isEp {D : Addr} (C : ExcC X.K D) (hp : p ∈ X.pn) (hz : Zc (.ref D) none p.2) (hf : ∃ vs, p.2.data = .fields vs) : CallR X (.builtin "isinstance") (rIsE X.K D p.1) := by
  intro pins s σ H xs us Q I r h
  obtain ⟨c, cv, b, rfl, hcv, e, q⟩ := h
  cases r with
  | cons rx rr =>
    cases rr with
    | cons rt rr =>
      cases rr
      cases rx
      have ec := hcv _ rt
      subst ec
      obtain ⟨hget, _⟩ := I.pin p (List.mem_append_left _ hp)
      obtain ⟨vs, hv⟩ := hf
      have J : PySem.W.InstAt s.heap p.1 p.2 D none := by
        obtain ⟨pa, ⟨oc, od, oda, osl⟩⟩ := p
        obtain ⟨h1, h2⟩ := hz
        dsimp only at h1 h2 hv
        subst h1 h2 hv
        exact ⟨hget, rfl, rfl, trivial⟩
      exact PySem.W.kia_one (PySem.W.handS_kitx_exc C.hg C.hk C.hs C.hd C.ha C.hn C.ht C.hm) I.kIn J e (fun z => nomatch z) fun tk => ⟨.bl b, H, I.kept (t' := tk) fun _ _ z => z, rfl, q⟩
end
/-! ### told -/
/-- told: try: return (call(), '') / except NE as e: return (None, err(e)) -/
def TTold (K : PySem.W.Frag) (NE : Addr) (err : Addr → Str → Prop) : (XK → Hp → VK → Prop) → Hp → VK → Prop := fun tl H Q =>
  tl (fun cls d H' => ∃ D w, cls = .ref D ∧ d = none ∧ PySem.W.exmOne K cls (.ref NE) = some true ∧ err D w ∧ ∀ H'' p, Ex H' H'' → H'' p = none → Q (.ref p) (upd H'' p (.tup [.non, .str w]))) H
    fun v H' => [v, V.str ""].length ≤ sizeLine ∧ ∀ p, H' p = none → Q (.ref p) (upd H' p (.tup [v, .str ""]))
/-- what err(e) gives -/
def sp_err (err : Addr → Str → Prop) (p : Addr × Obj) : Sp := fun vs H Q _ => ∃ D w, vs = [.ref p.1] ∧ L2N.Zn (.ref D) none p.2 ∧ err D w ∧ ∀ H', Ex H H' → Q (.str w) H'
theorem told_gives {X : Cx} {Ng : List Str} {x a e er q ep pr : Str} {sg : Scope} {g NE fe : Addr} {fde : FuncData} {cdg : Value} {k j1 j2 : Nat} {err : Addr → Str → Prop} {p1 p2 p3 p4 p5 p6 p7 p8 q1 q2 q3 q4 q5 q6 : Pos} {k1 k2 : Nat}
    (hNg : Ng = [a, ep]) (hnd : Ng.Nodup) (hep : sg.names.lookup ep = some .local) (hge : sg.names.lookup e = some .globalImplicit) (hme : X.mg e = some (.ref NE)) (hde : (e == ("__debug__" : Str)) = false)
    (Fe : FnHp X.prog X.w X.K X.mg X.base k fe fde [pr] (sp_err err)) (hgr : sg.names.lookup er = some .globalImplicit) (hmr : X.mg er = some (.ref fe)) (hkr : PySem.W.keepIn X.K (.ref fe) = true) (hbr : L2.Binds X.K fde [pr] []) (hdr : (er == ("__debug__" : Str)) = false) (hdp : (ep == ("__debug__" : Str)) = false) (hcp : (ep == ("__classdict__" : Str)) = false) :
    GivesN X Ng x sg g cdg [.Try [.Return (some (.Tuple [.Call (.Name a p1) [] [] p2, .Constant (.str "") j1 q1] k1 q2)) p3]
      [.ExceptHandler (some (.Name e p4)) (some ep) [.Return (some (.Tuple [.Constant .none j2 q3, .Call (.Name er q4) [.Name ep q5] [] q6] k2 p5)) p6] p7] [] [] p8] a q k (TTold X.K NE err) := by
  intro f c' s H Q tl hr act hc h
  subst hNg
  have hgl : Gl (cxOf C8.CX0 X.prog X.w X.K X.mg X.base [a, ep] x sg g cdg X.A X.stack s H C8.E0).nox e := hge
  refine ⟨_, pss_one (L2N.ps_try_as (X := (cxOf C8.CX0 X.prog X.w X.K X.mg X.base [a, ep] x sg g cdg X.A X.stack s H C8.E0).nox) (c := .ref NE) (i := 1)
      (tb := fun W D σ H => ∃ Ech : XK, (∀ cls d σ' H', Ech cls d H' → W cls d σ' H') ∧ σ[0]? = some (some (.ref f)) ∧ H c' = some (CodeO c' q) ∧ tl Ech H fun v H' => [v, V.str ""].length ≤ sizeLine ∧ ∀ p, H' p = none → D.rt (.ref p) (upd H' p (.tup [v, .str ""])))
      (ts := fun ax cls d D σ H => ∃ D' w, cls = .ref D' ∧ d = none ∧ (∃ σ0 : L2.St, σ = σ0.set 1 (some (.ref ax))) ∧ err D' w ∧ ∀ H'' p, Ex H H'' → H'' p = none → D.rt (.ref p) (upd H'' p (.tup [.non, .str w])))
      rfl rfl hnd rfl hep ⟨hgl, hde, .inl hme⟩ takes0N (fun W pn xe tk _ => ?_) (fun ax oe cls d pn hz hv => ?_)), ?_⟩
  · refine ⟨fun pins s' σ H' D I h' => ?_⟩
    obtain ⟨Ech, hW, h1, h2, h3⟩ := h'
    have hp := act W pn xe Ech p1 p2 tk hW
    have hps : PSs ((cxOf C8.CX0 X.prog X.w X.K X.mg X.base [a, ep] x sg g cdg X.A X.stack s H C8.E0).tr pn xe) [.Return (some (.Tuple [.Call (.Name a p1) [] [] p2, .Constant (.str "") j1 q1] k1 q2)) p3] _ :=
      pss_one (ps_ret (pe_tup (pa_cons hp (pa_cons pe_str pa_nil))))
    refine hps.run pins s' σ H' D I ?_
    exact ⟨h1, h2, h3⟩
  · obtain ⟨vs, hv⟩ := hv
    refine ⟨fun pins s' σ H' D I h' => ?_⟩
    obtain ⟨D', w, ec, ed, ⟨σ0, e0⟩, hw, hq⟩ := h'
    subst ec ed
    have hs : σ[1]? = some (some (.ref ax)) := by
      have hl : σ.length = 2 := I.len
      rw [e0, List.length_set] at hl
      rw [e0, List.getElem?_set_self (by omega)]
    have hot : Hot1 (X.A.deeper (envOfC x sg s.heap.objs.size g cdg) |>.mark (some (.ref ax))) (ax, oe) := ⟨rfl, vs, hv, hz.2.2 vs hv⟩
    have hrH : RoomH k (X.A.deeper (envOfC x sg s.heap.objs.size g cdg) |>.mark (some (.ref ax))) := ⟨hr.dp, hr.un⟩
    have hpc := pe_callHp (X := (cxOf C8.CX0 X.prog X.w X.K X.mg X.base [a, ep] x sg g cdg X.A X.stack s H C8.E0).nox.suite ax ((ax, oe) :: pn)) (q := q4) (pos := q6) (p := (ax, oe)) Fe hrH hot List.mem_cons_self hgr hmr hkr hbr
      (pa_cons (pe_var (pos := q5) (i := 1) rfl (.inl hep) hdp hcp) pa_nil) hdr
    have hps : PSs ((cxOf C8.CX0 X.prog X.w X.K X.mg X.base [a, ep] x sg g cdg X.A X.stack s H C8.E0).nox.suite ax ((ax, oe) :: pn)) [.Return (some (.Tuple [.Constant .none j2 q3, .Call (.Name er q4) [.Name ep q5] [] q6] k2 p5)) p6] _ :=
      pss_one (ps_ret (pe_tup (pa_cons pe_non (pa_cons hpc pa_nil))))
    refine hps.run pins s' σ H' D I ?_
    refine ⟨.ref ax, hs, D', w, rfl, hz, hw, fun H'' e => ⟨by show 2 ≤ sizeLine; decide, fun p hp => hq H'' p e hp⟩⟩
  · refine ⟨_, fun cls d σ' H' ⟨D', w, e1, e2, e3, e4, e5⟩ => ⟨true, e3, fun _ ax hax => ⟨D', w, e1, e2, ⟨σ', rfl⟩, e4, e5⟩, fun z => nomatch z⟩, rfl, hc, h⟩
end Xl

/-! _law_error: which class the exception is of. -/
namespace Xl
open PySem PySem.Spec PyProof.Rows L2 HotX L2H
def rJoinS (K : PySem.W.Frag) : V → List V → Hp → VK → Prop := fun x xs H Q => ∃ a p, ∃ ys : List Str, x = .str a ∧ xs = [.ref p] ∧ (SqL K H p (ys.map V.str) ∨ SqT K H p (ys.map V.str)) ∧ (ys.map (·.length)).sum + ys.length * a.length ≤ 16777216 ∧ Q (.str (Txt.join a ys)) H
def Joined (K : PySem.W.Frag) (x y : V) (H : Hp) (Q : VK) : Prop := rJoinS K x [y] H Q
def Sx (x : V) (p : Prop) : Prop := (∃ a, x = .str a) ∧ p
theorem x_Sx {a : Str} {p : Prop} (h : p) : Sx (.str a) p := ⟨⟨a, rfl⟩, h⟩
section
variable {K : PySem.W.Frag} {σ : L2.St} {H : Hp} {Q : VK} {to te tt' : TE} {al : TA} {g : TG} {tt : TT}
theorem x_join (h : to σ H fun x H1 => Sx x (te σ H1 fun y H2 => Joined K x y H2 Q)) : tM1 (rJoinS K) to te σ H Q := h
theorem x_Joined {a : Str} {p : Addr} {ys : List Str} (h : SqL K H p (ys.map V.str)) (hz : (ys.map (·.length)).sum + ys.length * a.length ≤ 16777216) (q : Q (.str (Txt.join a ys)) H) : Joined K (.str a) (.ref p) H Q := ⟨a, p, ys, rfl, rfl, .inl h, hz, q⟩
def Z1 (K : PySem.W.Frag) (vs : List V) (H : Hp) (k : It → Prop) : Prop := ∃ a b xs ys, vs = [.ref a, .ref b] ∧ SqL K H a xs ∧ SqL K H b ys ∧ k (Itz1 K a b)
theorem x_lcZ1 {vs : List Nat} (h : al σ H fun ws H1 => Z1 K ws H1 fun J => LcIt J g tt te vs σ H1 Q) : tLc (iZip1 K al) g tt te vs σ H Q := h
theorem x_Z1 {a b : Addr} {xs ys : List V} {k : It → Prop} (h1 : SqL K H a xs) (h2 : SqL K H b ys) (q : k (Itz1 K a b)) : Z1 K [.ref a, .ref b] H k := ⟨a, b, xs, ys, rfl, h1, h2, q⟩
theorem lcZ1 {a b : Addr} {xs ys : List V} {vs : List Nat} (f : Nat → Option D) (hx : SqL K H a xs) (hy : SqL K H b ys) (hl : xs.length ≤ ys.length) (hz : xs.length ≤ 100000)
    (hs : ∀ (i : Nat) (x y : V) (T : Addr) (H' : Hp), xs[i]? = some x → ys[i]? = some y → Ex H H' → H' T = some (.tup [x, y]) → Turn' K (f i) g tt te vs σ (.ref T) H')
    (hd : ∀ p zs H', Ex H H' → H p = none → H' p = some (.lst zs) → RpL K H' zs ((List.range xs.length).filterMap f) → Q (.ref p) H') : LcIt (Itz1 K a b) g tt te vs σ H Q := fun D1 hD => by
  refine ⟨fun i m H' => m = xs.length - i ∧ i ≤ xs.length ∧ Ex H H' ∧ ∃ acc, H' D1 = some (.lst acc) ∧ acc.length ≤ i ∧ RpL K H' acc ((List.range i).filterMap f), ⟨xs.length, rfl, Nat.zero_le _, Ex.new hD, [], upd_same, Nat.zero_le _, .nil⟩, ?_⟩
  rintro i m H' ⟨rfl, hi, e, acc, hA, hL, hR⟩
  by_cases hlt : i < xs.length
  · have hx' : xs[i]? = some xs[i] := List.getElem?_eq_getElem (by omega)
    have hy' : ys[i]? = some ys[i] := List.getElem?_eq_getElem (by omega)
    refine .inr ⟨⟨xs, ys, _, _, e.l hx, e.l hy, hx', hy'⟩, fun H2 => Ex H H2 ∧ ∃ acc, H2 D1 = some (.lst acc) ∧ acc.length ≤ i + 1 ∧ RpL K H2 acc ((List.range (i + 1)).filterMap f), fun H2 ⟨e2, acc2, h2, l2, r2⟩ => ⟨xs.length - (i + 1), by omega, rfl, by omega, e2, acc2, h2, l2, r2⟩, ?_⟩
    rintro v H2 ⟨T, x', y', rfl, hT, rfl, f1, f2⟩
    have eT : Ex H' (upd H' T (.tup [x', y'])) := Ex.new hT
    exact lc_inv (by omega) hD ⟨e.trans eT, acc, eT _ _ hA, hL, hR.mono eT⟩ (hs i x' y' T _ (f1 xs (e.l hx)) (f2 ys (e.l hy)) (e.trans eT) upd_same)
  · have ei : i = xs.length := by omega
    subst ei
    exact .inl ⟨⟨xs, ys, e.l hx, e.l hy, Nat.le_refl _⟩, hd D1 acc H' e hD hA hR⟩
theorem x_isE {D a C : Addr} {b : Bool} (h : PySem.W.kitOne K (.ref D) (.ref C) = some b) (q : Q (.bl b) H) : rIsE K D a [.ref a, .ref C] H Q := ⟨.ref C, .ref C, b, rfl, fun u r => r, h, q⟩
theorem x_isET {D a : Addr} {T : String} {b : Bool} (h : PySem.W.kitOne K (.ref D) (.type T) = some b) (q : Q (.bl b) H) : rIsE K D a [.ref a, .ty T] H Q := ⟨.ty T, .type T, b, rfl, fun u r => r, h, q⟩
theorem RpL.strs_inv : ∀ {ss : List Str} {vs : List V}, RpL K H vs (ss.map D.str) → vs = ss.map V.str
  | [], _, h => by cases h; rfl
  | s :: r, _, h => by
    cases h with
    | cons h1 h2 => rw [List.map_cons, h1.s, RpL.strs_inv h2]
end
/-- classes and what is told of them -/
def errTab : List (Str × Str) := [("InvalidNote", "sound value"), ("InvalidLength", "span value"), ("InvalidBar", "frame value"), ("InvalidIndex", "spot value"), ("TooMany", "many value"), ("NothingToUndo", "nothing value")]
def ErrOf (K : PySem.W.Frag) (D : Addr) (w : Str) : Prop := ∃ x, (x, w) ∈ errTab ∧ D = He.ga K x
/-- what is known of the classes -/
structure ErrF (K : PySem.W.Frag) : Prop where
  exc : ∀ q ∈ errTab, ExcC K (He.ga K q.1)
  own : ∀ q ∈ errTab, OwnX K (He.ga K q.1)
  nm : ∀ q ∈ errTab, PySem.W.exmOne K (.ref (He.ga K q.1)) (.ref (He.ga K "NoteError")) = some true
  kit : ∀ q ∈ errTab, ∀ r ∈ errTab, PySem.W.kitOne K (.ref (He.ga K q.1)) (.ref (He.ga K r.1)) = some (decide (q.1 = r.1))
  ve : ∀ q ∈ errTab, PySem.W.kitOne K (.ref (He.ga K q.1)) (.type "ValueError") = some true
def errWords : List Str := ["sound", "span", "frame", "spot", "many", "nothing", "value"]
def errBits (x : Str) : List Bool := [decide (x = "InvalidNote"), decide (x = "InvalidLength"), decide (x = "InvalidBar"), decide (x = "InvalidIndex"), decide (x = "TooMany"), decide (x = "NothingToUndo"), true]
def errSome (x : Str) : List Str := (errWords.zip (errBits x)).filterMap fun q => if q.2 = true then some q.1 else none
theorem errSome_ok : ∀ q ∈ errTab, Txt.join " " (errSome q.1) = q.2 ∧ ((errSome q.1).map (·.length)).sum + (errSome q.1).length * (" " : Str).length ≤ 16777216 := by decide +kernel
local macro_rules | `(tactic| walk_at "x1") => `(tactic| first
  | ((with_reducible show tVar _ _ _ _); refine x_var rfl ?_)
  | (with_reducible refine x_c ?_)
  | (with_reducible refine x_II ?_)
  | ((with_reducible refine x_sd ?_ ?_); (first | (· first | exact trivial | decide | omega | exact .inl ⟨by omega, by omega⟩ | exact .inr ⟨by omega, by omega⟩ | exact ⟨by omega, by omega⟩ | exact ⟨by decide, by decide, by decide⟩) | rotate_left))
  | (with_reducible refine x_asB ?_)
  | (with_reducible refine x_seq ?_)
  | (with_reducible refine x_asgN ?_)
  | (with_reducible refine x_gN ?_)
  | (with_reducible refine x_asg ?_)
  | (with_reducible refine x_drop ?_)
  | (with_reducible refine x_ret ?_)
  | (with_reducible refine x_retN ?_)
  | (with_reducible refine x_next ?_)
  | (with_reducible refine x_if ?_)
  | (with_reducible refine x_brk ?_)
  | (with_reducible refine x_cont ?_)
  | (with_reducible refine x_opI0 ?_)
  | (with_reducible refine x_opI ?_)
  | (with_reducible refine x_opEq ?_)
  | (with_reducible refine x_opNe ?_)
  | (with_reducible refine x_op ?_)
  | (with_reducible refine x_chain ?_)
  | (with_reducible refine x_unI ?_)
  | (with_reducible refine x_gsub ?_)
  | (with_reducible refine x_callN ?_)
  | ((with_reducible show Cn _ _ _ _ _); refine x_Cn rfl rfl ?_)
  | (with_reducible refine x_dget ?_)
  | (with_reducible refine x_din ?_)
  | (with_reducible refine x_dni ?_)
  | (with_reducible refine x_dput ?_)
  | (with_reducible refine x_lc2L ?_)
  | (with_reducible refine x_sl ?_)
  | (with_reducible refine x_noPart ?_)
  | (with_reducible refine x_part ?_)
  | (with_reducible refine x_asO ?_)
  | (with_reducible refine x_rI0 ?_)
  | (with_reducible refine x_rI ?_)
  | (with_reducible refine x_eqI ?_)
  | (with_reducible refine x_neI ?_)
  | (with_reducible refine x_eqS ?_)
  | (with_reducible refine x_neS ?_)
  | (with_reducible refine x_eqB ?_)
  | (with_reducible refine x_neB ?_)
  | (with_reducible refine x_tst ?_)
  | (with_reducible refine x_tB ?_)
  | (with_reducible refine x_and ?_)
  | (with_reducible refine x_or ?_)
  | (with_reducible refine x_not ?_)
  | (with_reducible refine x_andV ?_)
  | (with_reducible refine x_orV ?_)
  | (with_reducible refine x_notV ?_)
  | (with_reducible refine x_ifE ?_)
  | (with_reducible refine x_nilA ?_)
  | (with_reducible refine x_consA ?_)
  | (with_reducible refine x_tup ?_)
  | (with_reducible refine x_lst ?_)
  | (with_reducible refine x_call ?_)
  | (with_reducible refine x_callD ?_)
  | (with_reducible refine x_cb ?_)
  | (with_reducible refine x_min2 ?_)
  | (with_reducible refine x_max2 ?_)
  | (with_reducible refine x_par ?_)
  | (with_reducible refine x_Par ?_)
  | (with_reducible refine x_par3 ?_)
  | (with_reducible refine x_Par3 ?_)
  | ((with_reducible show tAug _ _ _ _ _ _); refine x_aug rfl ?_)
  | (with_reducible refine x_ipI ?_)
  | (with_reducible refine x_forR1 ?_)
  | (with_reducible refine x_forR2 ?_)
  | (with_reducible refine x_forL ?_)
  | (with_reducible refine x_forT ?_)
  | (with_reducible refine x_lcL ?_)
  | (with_reducible refine x_lcT ?_)
  | (with_reducible refine x_lcR1 ?_)
  | (with_reducible refine x_lcR2 ?_)
  | ((with_reducible refine x_R1 ?_ ?_); (first | (· first | decide | omega) | rotate_left))
  | ((with_reducible refine x_R2 ?_ ?_); (first | (· first | decide | omega) | rotate_left))
  | (with_reducible refine x_yes ?_)
  | (with_reducible refine b_t rfl ?_)
  | (with_reducible refine b_f rfl ?_))
local macro_rules | `(tactic| walk_at "x") => `(tactic| repeat walk_at "x1")
local macro_rules | `(tactic| walk_at "bf") => `(tactic| refine b_f (by first | exact decide_eq_false (by omega) | (simp; done) | (simp; omega)) ?_)
local macro_rules | `(tactic| walk_at "bt") => `(tactic| refine b_t (by first | exact decide_eq_true (by omega) | (simp; done) | (simp; omega)) ?_)

local macro_rules | `(tactic| walk_at "x1") => `(tactic| first
  | (with_reducible refine x_mk ?_)
  | (with_reducible refine x_mkV ?_)
  | (with_reducible refine x_cmeth ?_)
  | (with_reducible refine x_isC ?_)
  | (with_reducible refine x_prop ?_)
  | (with_reducible refine x_fld ?_)
  | (with_reducible refine x_sfld ?_)
  | (with_reducible refine x_fmtD ?_))
local macro_rules | `(tactic| walk_at "x1") => `(tactic| with_reducible refine x_revL ?_)

local macro_rules | `(tactic| walk_at "x1") => `(tactic| first
  | (with_reducible refine x_join ?_)
  | (with_reducible refine x_Sx ?_)
  | (with_reducible refine x_lcZ1 ?_))
/-- _law_error: e classes words word good -/
def t_law_error (K : PySem.W.Frag) (D : Addr) (p : Addr × Obj) : TS := (tSeq (tAsg (tLst (tCons (tCB (rIsE K D p.1) (tCons (tVar 0) (tCons (tC (.ref (He.ga K "InvalidNote"))) tNil))) (tCons (tCB (rIsE K D p.1) (tCons (tVar 0) (tCons (tC (.ref (He.ga K "InvalidLength"))) tNil))) (tCons (tCB (rIsE K D p.1) (tCons (tVar 0) (tCons (tC (.ref (He.ga K "InvalidBar"))) tNil))) tNil)))) (gName 1)) (tSeq (tAsg (tOp rCat (tVar 1) (tLst (tCons (tCB (rIsE K D p.1) (tCons (tVar 0) (tCons (tC (.ref (He.ga K "InvalidIndex"))) tNil))) (tCons (tCB (rIsE K D p.1) (tCons (tVar 0) (tCons (tC (.ref (He.ga K "TooMany"))) tNil))) (tCons (tCB (rIsE K D p.1) (tCons (tVar 0) (tCons (tC (.ref (He.ga K "NothingToUndo"))) tNil))) tNil))))) (gName 1)) (tSeq (tDrop (tBM K "list" rAppend (tVar 1) (tCons (tCB (rIsE K D p.1) (tCons (tVar 0) (tCons (tC (.ty "ValueError")) tNil))) tNil))) (tSeq (tAsg (tLst (tCons (tC (.str (Str.ofString "sound"))) (tCons (tC (.str (Str.ofString "span"))) (tCons (tC (.str (Str.ofString "frame"))) (tCons (tC (.str (Str.ofString "spot"))) (tCons (tC (.str (Str.ofString "many"))) (tCons (tC (.str (Str.ofString "nothing"))) (tCons (tC (.str (Str.ofString "value"))) tNil)))))))) (gName 2)) (tRet (tM1 (rJoinS K) (tC (.str (Str.ofString " "))) (tLc (iZip1 K (tCons (tVar 2) (tCons (tVar 1) tNil))) (gTup K 2 (gCons (gName 3) (gCons (gName 4) gNil))) (tB (tVar 4)) (tVar 3) [3, 4])))))))

theorem run_law_error {K : PySem.W.Frag} (F : ErrF K) {D : Addr} {w : Str} {p : Addr × Obj} {H : Hp} {Q : VK} (he : ErrOf K D w) (q : ∀ H', Ex H H' → Q (.str w) H') : t_law_error K D p { nx := fun _ H' => Q .non H', rt := Q } (start ["e", "classes", "words", "word", "good"] [.ref p.1]) H := by
  obtain ⟨x, hx, rfl⟩ := he
  obtain ⟨hj1, hj2⟩ := errSome_ok _ hx
  have kit := fun r hr => F.kit _ hx r hr
  unfold t_law_error
  walk_at "x"
  refine x_isE (kit ("InvalidNote", "sound value") (by decide)) ?_
  walk_at "x"
  refine x_isE (kit ("InvalidLength", "span value") (by decide)) ?_
  walk_at "x"
  refine x_isE (kit ("InvalidBar", "frame value") (by decide)) ?_
  walk_at "x"
  refine x_newL rfl fun p1 H1 n1 e1 h1 _ => ?_
  walk_at "x"
  refine x_isE (kit ("InvalidIndex", "spot value") (by decide)) ?_
  walk_at "x"
  refine x_isE (kit ("TooMany", "many value") (by decide)) ?_
  walk_at "x"
  refine x_isE (kit ("NothingToUndo", "nothing value") (by decide)) ?_
  walk_at "x"
  refine x_newL rfl fun p2 H2 n2 e2 h2 _ => ?_
  refine x_rCat (e2 _ _ h1) h2 (by simp) fun p3 H3 n3 e3 h3 => ?_
  walk_at "x"
  refine x_app rfl h3 ?_
  walk_at "x"
  refine x_isET (F.ve _ hx) ?_
  refine x_App h3 (by simp) ?_
  have n03 : H p3 = none := (e1.trans e2).back n3
  have e4 : Ex H (upd H3 p3 (.lst (([V.bl (decide (x = "InvalidNote")), .bl (decide (x = "InvalidLength")), .bl (decide (x = "InvalidBar"))] ++ [.bl (decide (x = "InvalidIndex")), .bl (decide (x = "TooMany")), .bl (decide (x = "NothingToUndo"))]) ++ [.bl true]))) := ((e1.trans e2).trans e3).mut n03
  walk_at "x"
  refine x_newL rfl fun p5 H5 n5 e5 h5 _ => ?_
  walk_at "x"
  have hb5 := e5 _ _ (upd_same (H := H3) (a := p3))
  refine x_Z1 (SqL.of h5) (SqL.of hb5) (lcZ1 (K := K) (fun i => (errWords.zip (errBits x))[i]?.bind fun q => if q.2 = true then some (D.str q.1) else none) (SqL.of h5) (SqL.of hb5) (show (7 : Nat) ≤ 7 from Nat.le_refl _) (show (7 : Nat) ≤ 100000 by decide) (fun i u v T H6 hu hv e6 hT => ?_) fun p7 zs H7 e7 n7 h7 r7 => ?_)
  · intro R RN kR kN
    have hz : ∃ sw sb, (errWords.zip (errBits x))[i]? = some (sw, sb) ∧ u = .str sw ∧ v = .bl sb := by
      match i, hu, hv with
      | 0, hu, hv => exact ⟨_, _, rfl, (Option.some.inj hu).symm, (Option.some.inj hv).symm⟩
      | 1, hu, hv => exact ⟨_, _, rfl, (Option.some.inj hu).symm, (Option.some.inj hv).symm⟩
      | 2, hu, hv => exact ⟨_, _, rfl, (Option.some.inj hu).symm, (Option.some.inj hv).symm⟩
      | 3, hu, hv => exact ⟨_, _, rfl, (Option.some.inj hu).symm, (Option.some.inj hv).symm⟩
      | 4, hu, hv => exact ⟨_, _, rfl, (Option.some.inj hu).symm, (Option.some.inj hv).symm⟩
      | 5, hu, hv => exact ⟨_, _, rfl, (Option.some.inj hu).symm, (Option.some.inj hv).symm⟩
      | 6, hu, hv => exact ⟨_, _, rfl, (Option.some.inj hu).symm, (Option.some.inj hv).symm⟩
      | i + 7, hu, hv => cases hu
    obtain ⟨sw, sb, e9, rfl, rfl⟩ := hz
    rw [e9] at kR kN
    refine x_gtup2 (SqT.of hT) ?_
    refine x_gN ?_
    refine x_gN ?_
    refine ⟨rfl, ?_⟩
    walk_at "x"
    cases sb with
    | true =>
      refine b_t rfl ?_
      walk_at "x"
      exact kR _ _ _ (Ex.refl _) rfl (.str _)
    | false =>
      refine b_f rfl ?_
      exact kN _ (Ex.refl _) rfl
  · have hl : (errWords.zip (errBits x)).length = 7 := rfl
    have r8 := r7
    have e10 := fm_range (fun q : Str × Bool => if q.2 = true then some (D.str q.1) else none) 7 (errWords.zip (errBits x)) rfl
    have e11 : (errWords.zip (errBits x)).filterMap (fun q => if q.2 = true then some (D.str q.1) else none) = (errSome x).map D.str := by
      unfold errSome
      rw [List.map_filterMap]
      refine fm_congr fun q _ => ?_
      by_cases hq : q.2 = true
      · rw [if_pos hq, if_pos hq] <;> rfl
      · rw [if_neg hq, if_neg hq] <;> rfl
    have e12 : RpL K H7 zs ((errSome x).map D.str) := by
      rw [← e11, ← e10]
      exact r7
    rw [RpL.strs_inv e12] at h7
    walk_at "x"
    refine x_Joined (SqL.of h7) hj2 ?_
    have e13 : Txt.join (Str.ofString " ") (errSome x) = w := hj1
    rw [e13]
    exact q _ ((e4.trans e5).trans e7)
end Xl

namespace Xl
open PySem PySem.Spec PyProof.Rows L2
local macro_rules | `(tactic| walk_at "x1") => `(tactic| first
  | ((with_reducible show tVar _ _ _ _); refine x_var rfl ?_)
  | (with_reducible refine x_c ?_)
  | (with_reducible refine x_II ?_)
  | ((with_reducible refine x_sd ?_ ?_); (first | (· first | exact trivial | decide | omega | exact .inl ⟨by omega, by omega⟩ | exact .inr ⟨by omega, by omega⟩ | exact ⟨by omega, by omega⟩ | exact ⟨by decide, by decide, by decide⟩) | rotate_left))
  | (with_reducible refine x_asB ?_)
  | (with_reducible refine x_seq ?_)
  | (with_reducible refine x_asgN ?_)
  | (with_reducible refine x_gN ?_)
  | (with_reducible refine x_asg ?_)
  | (with_reducible refine x_drop ?_)
  | (with_reducible refine x_ret ?_)
  | (with_reducible refine x_retN ?_)
  | (with_reducible refine x_next ?_)
  | (with_reducible refine x_if ?_)
  | (with_reducible refine x_brk ?_)
  | (with_reducible refine x_cont ?_)
  | (with_reducible refine x_opI0 ?_)
  | (with_reducible refine x_opI ?_)
  | (with_reducible refine x_opEq ?_)
  | (with_reducible refine x_opNe ?_)
  | (with_reducible refine x_op ?_)
  | (with_reducible refine x_chain ?_)
  | (with_reducible refine x_unI ?_)
  | (with_reducible refine x_gsub ?_)
  | (with_reducible refine x_callN ?_)
  | ((with_reducible show Cn _ _ _ _ _); refine x_Cn rfl rfl ?_)
  | (with_reducible refine x_dget ?_)
  | (with_reducible refine x_din ?_)
  | (with_reducible refine x_dni ?_)
  | (with_reducible refine x_dput ?_)
  | (with_reducible refine x_lc2L ?_)
  | (with_reducible refine x_sl ?_)
  | (with_reducible refine x_noPart ?_)
  | (with_reducible refine x_part ?_)
  | (with_reducible refine x_asO ?_)
  | (with_reducible refine x_rI0 ?_)
  | (with_reducible refine x_rI ?_)
  | (with_reducible refine x_eqI ?_)
  | (with_reducible refine x_neI ?_)
  | (with_reducible refine x_eqS ?_)
  | (with_reducible refine x_neS ?_)
  | (with_reducible refine x_eqB ?_)
  | (with_reducible refine x_neB ?_)
  | (with_reducible refine x_tst ?_)
  | (with_reducible refine x_tB ?_)
  | (with_reducible refine x_and ?_)
  | (with_reducible refine x_or ?_)
  | (with_reducible refine x_not ?_)
  | (with_reducible refine x_andV ?_)
  | (with_reducible refine x_orV ?_)
  | (with_reducible refine x_notV ?_)
  | (with_reducible refine x_ifE ?_)
  | (with_reducible refine x_nilA ?_)
  | (with_reducible refine x_consA ?_)
  | (with_reducible refine x_tup ?_)
  | (with_reducible refine x_lst ?_)
  | (with_reducible refine x_call ?_)
  | (with_reducible refine x_callD ?_)
  | (with_reducible refine x_cb ?_)
  | (with_reducible refine x_min2 ?_)
  | (with_reducible refine x_max2 ?_)
  | (with_reducible refine x_par ?_)
  | (with_reducible refine x_Par ?_)
  | (with_reducible refine x_par3 ?_)
  | (with_reducible refine x_Par3 ?_)
  | ((with_reducible show tAug _ _ _ _ _ _); refine x_aug rfl ?_)
  | (with_reducible refine x_ipI ?_)
  | (with_reducible refine x_forR1 ?_)
  | (with_reducible refine x_forR2 ?_)
  | (with_reducible refine x_forL ?_)
  | (with_reducible refine x_forT ?_)
  | (with_reducible refine x_lcL ?_)
  | (with_reducible refine x_lcT ?_)
  | (with_reducible refine x_lcR1 ?_)
  | (with_reducible refine x_lcR2 ?_)
  | ((with_reducible refine x_R1 ?_ ?_); (first | (· first | decide | omega) | rotate_left))
  | ((with_reducible refine x_R2 ?_ ?_); (first | (· first | decide | omega) | rotate_left))
  | (with_reducible refine x_yes ?_)
  | (with_reducible refine b_t rfl ?_)
  | (with_reducible refine b_f rfl ?_))
local macro_rules | `(tactic| walk_at "x") => `(tactic| repeat walk_at "x1")
local macro_rules | `(tactic| walk_at "bf") => `(tactic| refine b_f (by first | exact decide_eq_false (by omega) | (simp; done) | (simp; omega)) ?_)
local macro_rules | `(tactic| walk_at "bt") => `(tactic| refine b_t (by first | exact decide_eq_true (by omega) | (simp; done) | (simp; omega)) ?_)

local macro_rules | `(tactic| walk_at "x1") => `(tactic| first
  | (with_reducible refine x_mk ?_)
  | (with_reducible refine x_mkV ?_)
  | (with_reducible refine x_cmeth ?_)
  | (with_reducible refine x_isC ?_)
  | (with_reducible refine x_prop ?_)
  | (with_reducible refine x_fld ?_)
  | (with_reducible refine x_sfld ?_)
  | (with_reducible refine x_fmtD ?_))
local macro_rules | `(tactic| walk_at "x1") => `(tactic| with_reducible refine x_revL ?_)

/-! ### the notes as objects -/
def CN (K : PySem.W.Frag) : Addr := He.ga K "Note"
def nF (p c : Nat) : List (Str × V) := [("height", .int p), ("points", .int c), ("n", .int (lenN p c))]
def IsN (K : PySem.W.Frag) (H : Hp) (a : Addr) (p c : Nat) : Prop := ∃ dx, H a = some (.ins (He.ga K "Note") dx (nF p c))
theorem IsN.ex {K : PySem.W.Frag} {H H' : Hp} {a : Addr} {p c : Nat} (e : Ex H H') (h : IsN K H a p c) : IsN K H' a p c := let ⟨dx, h⟩ := h; ⟨dx, e _ _ h⟩
def dN (K : PySem.W.Frag) (p c : Nat) : D := .obj (He.ga K "Note") [("height", .int p), ("points", .int c), ("n", .int (lenN p c))]
theorem IsN.rp {K : PySem.W.Frag} {H : Hp} {a : Addr} {p c : Nat} (h : IsN K H a p c) : Rp K H (.ref a) (dN K p c) := let ⟨dx, h⟩ := h; .obj h (.cons (.int _) (.cons (.int _) (.cons (.int _) .nil)))
theorem Rp.isN {K : PySem.W.Frag} {H : Hp} {v : V} {p c : Nat} (h : Rp K H v (dN K p c)) : ∃ a, v = .ref a ∧ IsN K H a p c := by
  obtain ⟨a, dx, fs, e, h1, h2⟩ := h.o
  cases h2 with
  | cons r1 h2 =>
    cases h2 with
    | cons r2 h2 =>
      cases h2 with
      | cons r3 h2 =>
        cases h2
        rw [r1.i, r2.i, r3.i] at h1
        exact ⟨a, e, dx, h1⟩

/-! ### values of any kind -/
def AnyV (K : PySem.W.Frag) (H : Hp) (v : V) : Prop := (∃ i, v = .int i) ∨ (∃ b, v = .bl b) ∨ v = .non ∨ (∃ s, v = .str s) ∨ (∃ a xs, v = .ref a ∧ H a = some (.lst xs)) ∨ (∃ a xs, v = .ref a ∧ SqT K H a xs)
theorem AnyV.i {K : PySem.W.Frag} {H : Hp} (i : Int) : AnyV K H (.int i) := .inl ⟨i, rfl⟩
theorem AnyV.b {K : PySem.W.Frag} {H : Hp} (b : Bool) : AnyV K H (.bl b) := .inr (.inl ⟨b, rfl⟩)
theorem AnyV.n {K : PySem.W.Frag} {H : Hp} : AnyV K H .non := .inr (.inr (.inl rfl))
theorem AnyV.s {K : PySem.W.Frag} {H : Hp} (s : Str) : AnyV K H (.str s) := .inr (.inr (.inr (.inl ⟨s, rfl⟩)))
theorem AnyV.l {K : PySem.W.Frag} {H : Hp} {a : Addr} {xs : List V} (h : H a = some (.lst xs)) : AnyV K H (.ref a) := .inr (.inr (.inr (.inr (.inl ⟨a, xs, rfl, h⟩))))
theorem AnyV.t {K : PySem.W.Frag} {H : Hp} {a : Addr} {xs : List V} (h : SqT K H a xs) : AnyV K H (.ref a) := .inr (.inr (.inr (.inr (.inr ⟨a, xs, rfl, h⟩))))
theorem AnyV.ex {K : PySem.W.Frag} {H H' : Hp} {v : V} (e : Ex H H') (h : AnyV K H v) : AnyV K H' v := by
  rcases h with h | h | h | h | ⟨a, xs, rfl, h⟩ | ⟨a, xs, rfl, h⟩
  · exact .inl h
  · exact .inr (.inl h)
  · exact .inr (.inr (.inl h))
  · exact .inr (.inr (.inr (.inl h)))
  · exact .l (e _ _ h)
  · exact .t (e.t h)
/-- an int, no bool, between lo and hi -/
def isI (v : V) (lo hi : Int) : Bool := match v with
  | .int i => decide (lo ≤ i ∧ i ≤ hi)
  | _ => false
theorem isI_of {v : V} {lo hi : Int} (h : isI v lo hi = true) : ∃ i, v = .int i ∧ lo ≤ i ∧ i ≤ hi := by
  cases v with
  | int i => exact ⟨i, rfl, of_decide_eq_true h⟩
  | _ => cases h
theorem tyT' {K : PySem.W.Frag} {H : Hp} {a : Addr} {xs : List V} (h : SqT K H a xs) : TyX K H (.ref a) (.type "tuple") := by
  rcases h with (h | ⟨o, h⟩) | ⟨o, its, n, h, c, _⟩
  · exact .base (.tup h)
  · exact .fTuple h
  · exact .kTuple h c
def sp_is_integer (K : PySem.W.Frag) : Sp := fun vs H Q _ => ∃ (v : V) (lo hi : Int), vs = [v, .int lo, .int hi] ∧ AnyV K H v ∧ Q (.bl (isI v lo hi)) H
theorem len_is_integer {K : PySem.W.Frag} : ∀ vs H Q E, sp_is_integer K vs H Q E → vs.length = 3 := by
  rintro _ H Q E ⟨_, _, _, rfl, _⟩
  rfl
/-- is_integer: value low high -/
def t_is_integer (K : PySem.W.Frag) : TS := (tRet (tAndV (tCB (rIsi K) (tCons (tVar 0) (tCons (tC (.ty "int")) tNil))) (tAndV (tNotV (tCB (rIsi K) (tCons (tVar 0) (tCons (tC (.ty "bool")) tNil)))) (tChain rLe rLe (tVar 1) (tVar 0) (tVar 2)))))

theorem run_is_integer {K : PySem.W.Frag} {vs : List V} {H : Hp} {Q : VK} {E : XK} (h : sp_is_integer K vs H Q E) : t_is_integer K { nx := fun _ H' => Q .non H', rt := Q } (start ["value", "low", "high"] vs) H := by
  obtain ⟨v, lo, hi, rfl, hv, q⟩ := h
  unfold t_is_integer
  rcases hv with ⟨i, rfl⟩ | ⟨b, rfl⟩ | rfl | ⟨s, rfl⟩ | ⟨a, xs, rfl, h⟩ | ⟨a, xs, rfl, h⟩
  · walk_at "x"
    refine x_isiTy (TyX.base (.int i)) (r := true) (by decide +kernel) ?_
    walk_at "x"
    refine x_isiTy (TyX.base (.int i)) (r := false) (by decide +kernel) ?_
    walk_at "x"
    have q : Q (.bl (decide (lo ≤ i ∧ i ≤ hi))) H := q
    refine b_d (fun h1 => ?_) (fun h1 => ?_)
    · walk_at "x"
      by_cases h2 : i ≤ hi
      · rw [decide_eq_true h2]
        rw [decide_eq_true ⟨h1, h2⟩] at q
        exact q
      · rw [decide_eq_false h2]
        rw [decide_eq_false fun z => h2 z.2] at q
        exact q
    · rw [decide_eq_false fun z => h1 z.1] at q
      exact q
  · walk_at "x"
    refine x_isiTy (TyX.base (.bl b)) (r := true) (by decide +kernel) ?_
    walk_at "x"
    refine x_isiTy (TyX.base (.bl b)) (r := true) (by decide +kernel) ?_
    walk_at "x"
    exact q
  · walk_at "x"
    refine x_isiTy (TyX.base .non) (r := false) (by decide +kernel) ?_
    walk_at "x"
    exact q
  · walk_at "x"
    refine x_isiTy (TyX.base (.str s)) (r := false) (by decide +kernel) ?_
    walk_at "x"
    exact q
  · walk_at "x"
    refine x_isiTy (TyX.base (.lst h)) (r := false) (by decide +kernel) ?_
    walk_at "x"
    exact q
  · walk_at "x"
    refine x_isiTy (tyT' h) (r := false) (by decide +kernel) ?_
    walk_at "x"
    exact q

/-- what is known of the class -/
structure NtT (K : PySem.W.Frag) : Prop where
  cl : Cls K (He.ga K "Note")
  h : NoAttr K (He.ga K "Note") "height"
  p : NoAttr K (He.ga K "Note") "points"
  n : NoAttr K (He.ga K "Note") "n"
  ic : C8.InsC K (He.ga K "Note")
def GoodN (p d : V) : Prop := ∃ P C : Nat, p = .int P ∧ d = .int C ∧ C ≤ P ∧ P ≤ 10
theorem goodN_iff {p d : V} : GoodN p d ↔ isI p 0 10 = true ∧ ∃ P, p = .int P ∧ isI d 0 P = true := by
  constructor
  · rintro ⟨P, C, rfl, rfl, h1, h2⟩
    exact ⟨decide_eq_true (by omega), P, rfl, decide_eq_true (by omega)⟩
  · rintro ⟨h1, P, rfl, h2⟩
    obtain ⟨i, e, h3, h4⟩ := isI_of h1
    cases e
    obtain ⟨j, rfl, h5, h6⟩ := isI_of h2
    exact ⟨P.toNat, j.toNat, by rw [Int.toNat_of_nonneg h3], by rw [Int.toNat_of_nonneg h5], by omega, by omega⟩
/-- a note is made, or the class is refused -/
def sp_Note__init (K : PySem.W.Frag) : Sp := fun vs H Q E => ∃ (a dx : Addr) (p d : V), vs = [.ref a, p, d] ∧ AnyV K H p ∧ AnyV K H d ∧ H a = some (.ins (He.ga K "Note") dx []) ∧
  (∀ P C : Nat, p = .int P → d = .int C → C ≤ P → P ≤ 10 → ∀ H', Ex (wo H a) H' → H' a = some (.ins (He.ga K "Note") dx (nF P C)) → Q .non H') ∧ (¬ GoodN p d → E (.ref (He.ga K "InvalidNote")) none H)
theorem len_Note__init {K : PySem.W.Frag} : ∀ vs H Q E, sp_Note__init K vs H Q E → vs.length = 3 := by
  rintro _ H Q E ⟨_, _, _, _, rfl, _⟩
  rfl
/-- Note.__init__: self power dots -/
def t_Note__init (K : PySem.W.Frag) (E : XK) : TS := (tSeq (tIfS (tOr (tNot (tB (tCall (sp_is_integer K) [] E0 (tCons (tVar 1) (tCons (tC (.int 0)) (tCons (tC (.int 10)) tNil)))))) (tNot (tB (tCall (sp_is_integer K) [] E0 (tCons (tVar 2) (tCons (tC (.int 0)) (tCons (tVar 1) tNil))))))) (tRais E (He.ga K "InvalidNote")) tNext) (tSeq (sFld K (tVar 0) (tVar 1) "height") (tSeq (sFld K (tVar 0) (tVar 2) "points") (sFld K (tVar 0) (tCall (sp_length_of K) [] E0 (tCons (tVar 1) (tCons (tVar 2) tNil))) "n"))))

theorem run_Note__init {K : PySem.W.Frag} (T : NtT K) {vs : List V} {H : Hp} {Q : VK} {E : XK} (h : sp_Note__init K vs H Q E) : t_Note__init K E { nx := fun _ H' => Q .non H', rt := Q } (start ["self", "power", "dots"] vs) H := by
  obtain ⟨a, dx, p, d, rfl, hp, hd, ha, q, e⟩ := h
  unfold t_Note__init
  walk_at "x"
  refine ⟨_, _, _, rfl, hp, ?_⟩
  cases h1 : isI p 0 10 with
  | false =>
    walk_at "x"
    exact e fun z => by
      have := (goodN_iff.mp z).1
      rw [h1] at this
      cases this
  | true =>
    obtain ⟨P, rfl, h3, h4⟩ := isI_of h1
    walk_at "x"
    refine ⟨_, _, _, rfl, hd, ?_⟩
    cases h2 : isI d 0 P with
    | false =>
      walk_at "x"
      exact e fun z => by
        obtain ⟨_, P', e1, e2⟩ := goodN_iff.mp z
        cases e1
        rw [h2] at e2
        cases e2
    | true =>
      obtain ⟨P, C, e1, e2, hc, hp'⟩ := goodN_iff.mpr ⟨h1, P, rfl, h2⟩
      cases e1
      subst e2
      have q := q P C rfl rfl hc hp'
      walk_at "x"
      refine x_SFld ha T.cl T.h (by decide) ?_
      walk_at "x"
      refine x_SFld upd_same T.cl T.p (Nat.le_of_ble_eq_true rfl) ?_
      walk_at "x"
      refine ⟨P, C, rfl, hc, hp', ?_⟩
      walk_at "x"
      refine x_SFld upd_same T.cl T.n (Nat.le_of_ble_eq_true rfl) ?_
      refine q _ ?_ ?_
      · intro b o hb
        have hn : b ≠ a := fun e => by
          subst e
          rw [wo_same] at hb
          cases hb
        rw [wo_ne hn] at hb
        rw [upd_ne hn, upd_ne hn, upd_ne hn]
        exact hb
      · rw [upd_same] <;> rfl
/-- a new instance, its __init__ may raise -/
def MkdX (C : Addr) (sp : Sp) (E : XK) (vs : List V) (H : Hp) (Q : VK) : Prop := ∀ x dx, H x = none → H dx = none → dx ≠ x → sp (.ref x :: vs) (upd (upd H dx (.own x)) x (.ins C dx [])) (fun v H2 => v = .non ∧ Q (.ref x) H2) E
theorem x_mkX {σ : L2.St} {H : Hp} {Q : VK} {al : TA} {C : Addr} {sp : Sp} {E : XK} (h : al σ H fun vs H1 => MkdX C sp E vs H1 Q) : tMake C sp [] E al σ H Q := by
  unfold tMake
  simp only [List.append_nil]
  exact h
theorem x_noteX {K : PySem.W.Frag} {p d : V} {H : Hp} {Q : VK} {E : XK} (hp : AnyV K H p) (hd : AnyV K H d) (q : ∀ P C : Nat, p = .int P → d = .int C → C ≤ P → P ≤ 10 → ∀ a H', Ex H H' → H a = none → IsN K H' a P C → Q (.ref a) H')
    (e : ¬ GoodN p d → ∀ H', Ex H H' → E (.ref (He.ga K "InvalidNote")) none H') : MkdX (He.ga K "Note") (sp_Note__init K) E [p, d] H Q := by
  intro x dx hx hd' hn
  have e0 : Ex H (upd (upd H dx (.own x)) x (.ins (He.ga K "Note") dx [])) := (Ex.new hd').trans (Ex.new (by rw [upd_ne (Ne.symm hn)]; exact hx))
  refine ⟨x, dx, p, d, rfl, hp.ex e0, hd.ex e0, upd_same, fun P C e1 e2 h1 h2 H' eH h => ⟨rfl, q P C e1 e2 h1 h2 x H' ?_ hx ⟨dx, h⟩⟩, fun z => e z _ e0⟩
  intro b o hb
  have h1 : b ≠ x := ne_of_none hb hx
  have h2 : b ≠ dx := ne_of_none hb hd'
  refine eH b o ?_
  rw [wo_ne h1, upd_ne h1, upd_ne h2]
  exact hb
theorem x_note {K : PySem.W.Frag} {p c : Nat} {H : Hp} {Q : VK} {E : XK} (hc : c ≤ p) (hp : p ≤ 10) (q : ∀ a H', Ex H H' → H a = none → IsN K H' a p c → Q (.ref a) H') : MkdX (He.ga K "Note") (sp_Note__init K) E [.int p, .int c] H Q :=
  x_noteX (.i _) (.i _) (fun P C e1 e2 _ _ a H' e n h => by
    have e1' : (p : Int) = P := V.int.inj e1
    have e2' : (c : Int) = C := V.int.inj e2
    have : p = P := by omega
    have : c = C := by omega
    subst p c
    exact q a H' e n h) fun z => (z ⟨p, c, rfl, rfl, hc, hp⟩).elim

def sp_Note_power (K : PySem.W.Frag) : Sp := fun vs H Q _ => ∃ (a : Addr) (p c : Nat), vs = [.ref a] ∧ IsN K H a p c ∧ Q (.int p) H
theorem len_Note_power {K : PySem.W.Frag} : ∀ vs H Q E, sp_Note_power K vs H Q E → vs.length = 1 := by
  rintro _ H Q E ⟨_, _, _, rfl, _⟩
  rfl
/-- Note.power: self -/
def t_Note_power (K : PySem.W.Frag) : TS := (tRet (tFld K (tVar 0) "height"))

theorem run_Note_power {K : PySem.W.Frag} (T : NtT K) {vs : List V} {H : Hp} {Q : VK} {E : XK} (h : sp_Note_power K vs H Q E) : t_Note_power K { nx := fun _ H' => Q .non H', rt := Q } (start ["self"] vs) H := by
  obtain ⟨a, p, c, rfl, ⟨dx, h⟩, q⟩ := h
  unfold t_Note_power
  walk_at "x"
  exact x_Fld h T.cl T.h rfl q
def sp_Note_dots (K : PySem.W.Frag) : Sp := fun vs H Q _ => ∃ (a : Addr) (p c : Nat), vs = [.ref a] ∧ IsN K H a p c ∧ Q (.int c) H
theorem len_Note_dots {K : PySem.W.Frag} : ∀ vs H Q E, sp_Note_dots K vs H Q E → vs.length = 1 := by
  rintro _ H Q E ⟨_, _, _, rfl, _⟩
  rfl
/-- Note.dots: self -/
def t_Note_dots (K : PySem.W.Frag) : TS := (tRet (tFld K (tVar 0) "points"))

theorem run_Note_dots {K : PySem.W.Frag} (T : NtT K) {vs : List V} {H : Hp} {Q : VK} {E : XK} (h : sp_Note_dots K vs H Q E) : t_Note_dots K { nx := fun _ H' => Q .non H', rt := Q } (start ["self"] vs) H := by
  obtain ⟨a, p, c, rfl, ⟨dx, h⟩, q⟩ := h
  unfold t_Note_dots
  walk_at "x"
  exact x_Fld h T.cl T.p rfl q
def sp_Note_length (K : PySem.W.Frag) : Sp := fun vs H Q _ => ∃ (a : Addr) (p c : Nat), vs = [.ref a] ∧ IsN K H a p c ∧ Q (.int (lenN p c)) H
theorem len_Note_length {K : PySem.W.Frag} : ∀ vs H Q E, sp_Note_length K vs H Q E → vs.length = 1 := by
  rintro _ H Q E ⟨_, _, _, rfl, _⟩
  rfl
/-- Note.length: self -/
def t_Note_length (K : PySem.W.Frag) : TS := (tRet (tFld K (tVar 0) "n"))

theorem run_Note_length {K : PySem.W.Frag} (T : NtT K) {vs : List V} {H : Hp} {Q : VK} {E : XK} (h : sp_Note_length K vs H Q E) : t_Note_length K { nx := fun _ H' => Q .non H', rt := Q } (start ["self"] vs) H := by
  obtain ⟨a, p, c, rfl, ⟨dx, h⟩, q⟩ := h
  unfold t_Note_length
  walk_at "x"
  exact x_Fld h T.cl T.n rfl q
/-- isinstance of a note -/
theorem x_isiN {K : PySem.W.Frag} (T : NtT K) {H : Hp} {Q : VK} {a dx : Addr} {fs : List (Str × V)} (h : H a = some (.ins (He.ga K "Note") dx fs)) (q : Q (.bl true) H) : rIsi K [.ref a, .ref (He.ga K "Note")] H Q :=
  ⟨_, _, _, _, true, rfl, .own _, .base (TyOf.ins h T.ic.cl T.ic.ha T.ic.hn T.ic.htk T.ic.hm), T.ic.me, q⟩
def strN (p c : Nat) : Str := (Str.empty ++ toString (p : Int)) ++ repS "." c
def sp_Note__str (K : PySem.W.Frag) : Sp := fun vs H Q _ => ∃ (a : Addr) (p c : Nat), vs = [.ref a] ∧ c ≤ p ∧ p ≤ 10 ∧ IsN K H a p c ∧ Q (.str (strN p c)) H
theorem len_Note__str {K : PySem.W.Frag} : ∀ vs H Q E, sp_Note__str K vs H Q E → vs.length = 1 := by
  rintro _ H Q E ⟨_, _, _, rfl, _⟩
  rfl
/-- Note.__str__: self dots -/
def t_Note__str (K : PySem.W.Frag) : TS := (tSeq (tAsg (tOp rRepS (tC (.str (Str.ofString "."))) (tFld K (tVar 0) "points")) (gName 1)) (tRet (tJoin [(tFmtD (tFld K (tVar 0) "height")), (tFmt (tVar 1))])))

theorem run_Note__str {K : PySem.W.Frag} (T : NtT K) {vs : List V} {H : Hp} {Q : VK} {E : XK} (h : sp_Note__str K vs H Q E) : t_Note__str K { nx := fun _ H' => Q .non H', rt := Q } (start ["self", "dots"] vs) H := by
  obtain ⟨a, p, c, rfl, hc, hp, ⟨dx, h⟩, q⟩ := h
  unfold t_Note__str
  walk_at "x"
  refine x_Fld h T.cl T.p rfl ?_
  refine x_repS (by decide) (by omega) ?_
  walk_at "x"
  unfold tJoin tJs
  walk_at "x"
  refine x_Fld h T.cl T.h rfl ?_
  refine x_FmtD (by omega) ?_
  have l1 : (Str.empty ++ (Str.ofString (toString (p : Int)))).length ≤ 10 := by
    match p, hp with
    | 0, _ => decide +kernel
    | 1, _ => decide +kernel
    | 2, _ => decide +kernel
    | 3, _ => decide +kernel
    | 4, _ => decide +kernel
    | 5, _ => decide +kernel
    | 6, _ => decide +kernel
    | 7, _ => decide +kernel
    | 8, _ => decide +kernel
    | 9, _ => decide +kernel
    | 10, _ => decide +kernel
  refine ⟨_, rfl, big_le (by exact Nat.le_trans l1 (by decide)), ?_⟩
  unfold tJs
  unfold tFmt
  refine ⟨_, rfl, .inl ⟨_, rfl, ?_, _, rfl, ?_, ?_⟩⟩
  · exact big_le (Nat.le_trans (repS_len (by decide) (by omega) (by omega)) (by decide))
  · refine big_le ?_
    have h1 : ((Str.empty ++ (Str.ofString (toString (p : Int)))) ++ repS "." c).length = (Str.empty ++ (Str.ofString (toString (p : Int)))).length + (repS "." c).length := Array.size_append
    have h2 := repS_len (z := ".") (n := c) (by decide) (by omega) (by omega)
    exact Nat.le_trans (Nat.le_of_eq h1) (by omega)
  · exact q
end Xl

/-! sorted(xs), xs fewer than 64 instances with an own __lt__ (own work, over the kit's sort machine). -/
namespace XS
open PySem PySem.W PySem.Calls PyProof.Rows KSR

/-- the machine's questions, answered by a rank while J is kept -/
theorem go_wp {r : Nat → Int} {n : Nat} {J : Shared → Prop} {α : Type} {cmp : Nat → Nat → (Bool → Shared → Prop) → Shared → Prop} {G : α → Shared → Prop}
    (hc : ∀ i j (C : Bool → Shared → Prop) s, J s → i < n → j < n → (∀ s', J s' → C (decide (r i < r j)) s') → cmp i j C s) :
    ∀ (t : KasT α) (s : Shared), J s → Go r n (fun a => ∀ s', J s' → G a s') t → t.kasWp cmp G s
  | .ret a, s, hJ, q => q s hJ
  | .ask i j k, s, hJ, ⟨a, b, c⟩ => hc i j (fun b s' => (k b).kasWp cmp G s') s hJ a b fun s' hJ' => go_wp hc (k (decide (r i < r j))) s' hJ' c
section
variable {prog : Program} {w : World} {A : Around} {E : Value → Shared → Prop} {s : Shared} {a : Addr} {vs : List Value} {T : Value} {r : Nat → Int}
theorem list_sort_own {n : Nat} {P : PySem.Fin → Shared → Prop} {J : Nat → Shared → Prop} (ho : s.heap.get? a = some (seqObj "list" vs.toArray n)) (h2 : 2 ≤ vs.length) (h64 : vs.length < 64)
    (hT : ∀ v ∈ vs, Looks (model prog w) (TS.midHeap s.heap a vs) (typeOf v) T) (hT1 : (T != Value.type "tuple") = true) (hT2 : (T == T) = true)
    (hJ : ∀ e1, (TS.midHeap s.heap a vs).get? a = some (seqObj "list" #[] e1) → J e1 { s with heap := TS.midHeap s.heap a vs })
    (hat : ∀ e1 s', J e1 s' → s'.heap.get? a = some (seqObj "list" #[] e1))
    (hc : ∀ e1 i j (C : Bool → Shared → Prop) s', J e1 s' → i < vs.length → j < vs.length → (∀ s'', J e1 s'' → C (decide (r i < r j)) s'') → kas_ask prog w A oneType' vs i j C s')
    (fin : ∀ e1 (p : Array Nat) s', Ok vs.length p → Up r p vs.length → J e1 s' → P (.done (.ret .none)) { s' with heap := s'.heap.update a (Obj.mapSeq fun _ => List.toArray (p.toList.map fun i => vs.getD i Value.none)) }) :
    wpAny (model prog w) A (Builtin.«list.sort» ⟨[.ref a], []⟩) P E s := by
  rw [list_sort_plain]
  refine wpAny_bind (listItems_at ho rfl ?_)
  refine wpAny_bind (listUpdate_at ho rfl ?_ (by rw [List.size_toArray, sizeLine_eq]; omega) (Nat.zero_le _))
  obtain ⟨e1, g1⟩ : ∃ e1, (s.heap.update a (Obj.mapSeq fun _ => (#[] : Array Value))).get? a = some (seqObj "list" #[] e1) := ⟨_, get?_update_seq ho fun _ => #[]⟩
  refine wpAny_bind (seqEpoch_at g1 rfl ?_)
  refine wpAny_bind (wpAny_newTuple ?_ (by show vs.length ≤ _; rw [sizeLine_eq]; omega))
  refine wpAny_bind (wpAny_newList ?_ (Nat.zero_le _))
  refine wpAny_holding ?_
  have gm : (TS.midHeap s.heap a vs).get? a = some (seqObj "list" #[] e1) := Heap.get?_push_of_some _ (Heap.get?_push_of_some _ g1)
  have j0 := hJ e1 gm
  show wpAny (model prog w) A _ P E { s with heap := TS.midHeap s.heap a vs }
  dsimp only
  have hn2 : ¬ vs.toArray.size < 2 := by rw [List.size_toArray]; omega
  rw [if_neg hn2, if_neg hn2]
  refine wpAny_bind (kas_kind h2 hT hT1 hT2 ?_)
  have run0 : (kas_sort vs.length).kasWp (kas_ask prog w A oneType' vs) (fun p s' => Ok vs.length p ∧ Up r p vs.length ∧ J e1 s') { s with heap := TS.midHeap s.heap a vs } :=
    go_wp (J := J e1) (hc e1) _ _ j0 (Go.mono (fun p z s' hs => ⟨z.1, z.2, hs⟩) _ (sort_go (by omega)))
  rw [kas_ask_eq] at run0
  have est : SortSt.mk' oneType' (vs.toArray.zip vs.toArray) #[] 7 none = kas_st oneType' (pairsOf vs) (List.toArray (List.range vs.length)) := by
    have e := kas_range (pairsOf vs)
    rw [pairsOf_size] at e
    show SortSt.mk' oneType' (pairsOf vs) #[] 7 none = SortSt.mk' oneType' ((List.toArray (List.range vs.length)).map (kas_item (pairsOf vs))) #[] 7 none
    rw [e]
  have run := kas_runs (E := E) (Q := fun _ st' s' => ∃ p : Array Nat, p.size = vs.length ∧ arrOf st' = p.map (kas_item (pairsOf vs)) ∧ failedOf st' = none ∧ Ok vs.length p ∧ Up r p vs.length ∧ J e1 s')
    h2 h64 (fun p st' s' b1 b2 b3 b4 => ⟨p, b1, b2, b3, b4⟩) run0
  rw [← est] at run
  refine wpAny_bind (wpAny_mono run ?_ fun _ _ e => e)
  rintro ⟨⟨⟩, st'⟩ s' ⟨p, hp, har, hf, O, U, hj⟩
  dsimp only
  have na := hat e1 s' hj
  have hout : (arrOf st').map (·.2) = List.toArray (p.toList.map fun i => vs.getD i Value.none) := by
    apply Array.toList_inj.mp
    rw [har, Array.map_map, Array.toList_map]
    exact List.map_congr_left fun i _ => by show (kas_item (pairsOf vs) i).2 = _; rw [kas_item_eq]
  have hsz : (List.toArray (p.toList.map fun i => vs.getD i Value.none)).size = vs.length := by rw [List.size_toArray, List.length_map, Array.length_toList, hp]
  rw [hout]
  refine wpAny_bind (seqEpoch_at na rfl ?_)
  refine wpAny_bind (listUpdate_at na rfl ?_ (Nat.zero_le _) (Nat.le_trans (Nat.le_of_eq hsz) (by rw [sizeLine_eq]; omega)))
  rw [hf]
  simp only [bne_self_eq_false, Bool.false_eq_true, if_false]
  exact wpAny_pure (fin e1 p s' O U hj)

theorem sorted_own {l : Addr} {Q : Value → Shared → Prop} {J : Addr → Nat → Shared → Prop} (hl : s.heap.IsList l vs.toArray) (h2 : 2 ≤ vs.length) (h64 : vs.length < 64)
    (hT : ∀ h' : Heap, (∀ b o, s.heap.get? b = some o → h'.get? b = some o) → ∀ v ∈ vs, Looks (model prog w) h' (typeOf v) T) (hT1 : (T != Value.type "tuple") = true) (hT2 : (T == T) = true)
    (hJ : ∀ D e1 h', s.heap.objs.size ≤ D → (∀ b o, s.heap.get? b = some o → h'.get? b = some o) → h'.get? D = some (seqObj "list" #[] e1) → J D e1 { s with heap := h' })
    (hat : ∀ D e1 s', J D e1 s' → s'.heap.get? D = some (seqObj "list" #[] e1))
    (hc : ∀ D e1 i j (C : Bool → Shared → Prop) s', J D e1 s' → i < vs.length → j < vs.length → (∀ s'', J D e1 s'' → C (decide (r i < r j)) s'') → kas_ask prog w A.in1.in1 oneType' vs i j C s')
    (fin : ∀ D e1 (p : Array Nat) s', Ok vs.length p → Up r p vs.length → J D e1 s' → Q (.ref D) { s' with heap := s'.heap.update D (Obj.mapSeq fun _ => List.toArray (p.toList.map fun i => vs.getD i Value.none)) }) :
    wpAny (model prog w) A (call (.builtin "sorted") [.ref l]) Q E s := by
  refine Calls.call_function_entry kind_sorted plain_sorted entry_sorted (args_sorted1 _) ?_
  unfold Builtin.«sorted»
  refine wpAny_bind (m := checkCount "sorted" 1 1 _) (wpAny_pure ?_)
  refine wpAny_bind (collect_list hl ?_ (by rw [sizeLine_eq]; omega))
  refine wpAny_bind (wpAny_newList ?_ (by rw [sizeLine_eq]; omega))
  have hsz : ((s.heap.push (seqObj "list" #[] 0)).update s.heap.objs.size (Obj.mapSeq (· ++ vs.toArray))).objs.size = s.heap.objs.size + 1 := by
    rw [Heap.size_update, size_push']
  have at1 : (((s.heap.push (seqObj "list" #[] 0)).update s.heap.objs.size (Obj.mapSeq (· ++ vs.toArray))).push (seqObj "list" vs.toArray 0)).get? (s.heap.objs.size + 1) = some (seqObj "list" vs.toArray 0) := by
    rw [← hsz]; exact Heap.get?_push_size _ rfl
  have old : ∀ b o, s.heap.get? b = some o → b ≠ s.heap.objs.size + 1 ∧ (((s.heap.push (seqObj "list" #[] 0)).update s.heap.objs.size (Obj.mapSeq (· ++ vs.toArray))).push (seqObj "list" vs.toArray 0)).get? b = some o := fun b o q => by
    have hlt : b < s.heap.objs.size := Heap.lt_size q
    refine ⟨Nat.ne_of_lt (Nat.lt_succ_of_lt hlt), Heap.get?_push_of_some _ ?_⟩
    rw [Heap.get?_update_ne _ _ _ _ (Nat.ne_of_lt hlt)]
    exact Heap.get?_push_of_some _ q
  show wpAny _ _ _ _ _ { s with heap := ((s.heap.push (seqObj "list" #[] 0)).update s.heap.objs.size (Obj.mapSeq (· ++ vs.toArray))).push (seqObj "list" vs.toArray 0) }
  rw [hsz]
  have old2 : ∀ b o, s.heap.get? b = some o → (TS.midHeap (((s.heap.push (seqObj "list" #[] 0)).update s.heap.objs.size (Obj.mapSeq (· ++ vs.toArray))).push (seqObj "list" vs.toArray 0)) (s.heap.objs.size + 1) vs).get? b = some o :=
    fun b o q => TS.midHeap_old (old b o q).1 (old b o q).2
  refine wpAny_bind (wpAny_holding (wpAny_call_entry slot_list_sort ⟨_, at1, rfl⟩ entry_list_sort ?body (args_list_sort _)))
  case body =>
    exact list_sort_own (J := J (s.heap.objs.size + 1)) (r := r) at1 h2 h64 (hT _ old2) hT1 hT2 (fun e1 q => hJ _ e1 _ (Nat.le_succ _) old2 q) (hat _) (hc _) fun e1 p s' O U hj => ⟨_, rfl, wpAny_pure ⟨_, rfl, fin _ e1 p s' O U hj⟩⟩
end
end XS
namespace Xl
open PySem PySem.Spec PyProof.Rows L2
/-- sorted(xs): instances of C, ranked by their own < -/
def rSortO (K : PySem.W.Frag) (C : Addr) (sp : Sp) : List V → Hp → VK → Prop := fun vs H Q => ∃ (a : Addr) (xs : List V) (rk : V → Int), vs = [.ref a] ∧ SqL K H a xs ∧ xs.length < 64 ∧
  (∀ x ∈ xs, ∃ b dx fs, x = .ref b ∧ H b = some (.ins C dx fs)) ∧
  (∀ x ∈ xs, ∀ y ∈ xs, ∀ H', Ex H H' → sp [x, y] H' (fun v H'' => v = .bl (decide (rk x < rk y)) ∧ H'' = H') E0) ∧
  ∀ ys p, ys.Perm xs → ys.Pairwise (fun x y => rk x ≤ rk y) → H p = none → Q (.ref p) (upd H p (.lst ys))
section
variable {X : Cx} {k : Nat} {ps : List Str} {sp : Sp} {x : Str}
theorem cr_sortO (c : CalT X.prog X.w X.K X.mg X.base x "__lt__" k ps sp) (hr : Room (k + 2) X.A) : CallR X (.builtin "sorted") (rSortO X.K (He.ga X.K x) sp) := by
  intro pins s σ H vs us Q I r h
  obtain ⟨a, xs, rk, rfl, hs, h64, hin, hlt, q⟩ := h
  obtain ⟨its, rv, hl, hz⟩ := I.list hs
  rw [Vals.ref1 r]
  obtain ⟨g, fd, C, M, bd, F⟩ := c.ex
  have hlen : its.length = xs.length := rv.length.symm
  have itm : ∀ i, i < its.length → ∃ z b dx fs, xs[i]? = some z ∧ z = .ref b ∧ H b = some (.ins (He.ga X.K x) dx fs) ∧ its.getD i Value.none = .ref b := fun i hi => by
    have hi' : i < xs.length := by omega
    obtain ⟨b, dx, fs, e, hb⟩ := hin xs[i] (List.getElem_mem hi')
    obtain ⟨u, hu, ru⟩ := rv.get (List.getElem?_eq_getElem hi')
    rw [e] at ru
    cases ru
    exact ⟨xs[i], b, dx, fs, List.getElem?_eq_getElem hi', e, hb, by rw [List.getD_eq_getElem?_getD, hu]; rfl⟩
  have fin : ∀ (D : Addr) (h1 : Heap) (t1 : Nat) (o : HO) (s1 : Shared) (out : List Value) (ys : List V) (ep : Nat), Inv X pins σ (upd H D o) s1 → H D = none → Mut (some o) → Vals ys out → ys.length ≤ sizeLine →
      (∀ b u, b ≠ D → s1.heap.get? b = some u → h1.get? b = some u) → h1.get? D = some (PyProof.Rows.seqObj "list" out.toArray ep) → Q (.ref D) (upd H D (.lst ys)) → EP X pins σ Q (.ref D) { s1 with heap := h1 } := fun D h1 t1 o s1 out ys ep I1 hn mu r1 hz1 hk hD q1 => by
    have I2 := I1.write (x := D) (e := D) (o := .lst ys) (h' := h1) (t' := s1.toks) (by rw [upd_same]; exact mu) (.inl rfl) hk ⟨_, hD⟩ ⟨hz1, out, ep, r1, hD⟩
    have e2 : upd (upd H D o) D (.lst ys) = upd H D (.lst ys) := by
      funext b
      by_cases e : b = D
      · rw [e, upd_same, upd_same]
      · rw [upd_ne e, upd_ne e, upd_ne e]
    rw [e2] at I2
    exact ⟨.ref D, _, I2, rfl, q1⟩
  by_cases h2 : 2 ≤ its.length
  · refine XS.sorted_own (T := .ref (He.ga X.K x)) (r := fun i => rk (xs.getD i .non)) (J := fun D e1 s' => H D = none ∧ Inv X pins σ (upd H D (.ext fun h => h.get? D = some (PyProof.Rows.seqObj "list" #[] e1))) s')
      hl.isList h2 (by omega) (fun h' hk v hv => ?_) (by simp) (by simp) (fun D e1 h' hD hk hg => ?_) (fun D e1 s' hj => ?_) (fun D e1 i j B s' hj hi hj2 hB => ?_) (fun D e1 p s' O U hj => ?_)
    · obtain ⟨i, hi, e⟩ := List.mem_iff_getElem.mp hv
      obtain ⟨z, b, dx, fs, _, _, hb, e3⟩ := itm i hi
      have ev : v = .ref b := by rw [← e, ← e3, List.getD_eq_getElem?_getD, List.getElem?_eq_getElem hi]; rfl
      subst ev
      have I1 : Inv X pins σ H { s with heap := h' } := I.kept (t' := s.toks) hk
      obtain ⟨mA, J, _⟩ := ins_get I1.hok hb
      obtain ⟨od, J, _⟩ := J.look
      exact J.type
    · have hn := I.hok.fresh hD
      exact ⟨hn, I.laid (t' := s.toks) hk hD ⟨hg, ⟨_, hg⟩, fun h1 h2 z1 z2 => z2 _ z1⟩⟩
    · obtain ⟨hn, I1⟩ := hj
      have := I1.hok D (.ext fun h => h.get? D = some (PyProof.Rows.seqObj "list" #[] e1)) upd_same
      exact this.1
    · obtain ⟨hn, I1⟩ := hj
      obtain ⟨x1, b1, dx1, fs1, hx1, ex1, hb1, e1'⟩ := itm i hi
      obtain ⟨x2, b2, dx2, fs2, hx2, ex2, hb2, e2'⟩ := itm j hj2
      unfold PySem.W.kas_ask
      rw [e1', e2']
      have E1 : Ex H (upd H D (.ext fun h => h.get? D = some (PyProof.Rows.seqObj "list" #[] e1))) := Ex.new hn
      obtain ⟨mA, J, _⟩ := ins_get I1.hok (E1 _ _ hb1)
      obtain ⟨od, J, _⟩ := J.look
      obtain ⟨m', hF⟩ := I1.fr
      have hsp := hlt x1 (List.mem_of_getElem? hx1) x2 (List.mem_of_getElem? hx2) _ E1
      rw [ex1, ex2] at hsp
      refine PySem.W.kas_lt_inst (Nat.lt_of_succ_lt (hu_of hr.in1.in1)) hF I1.ok.mod.kin J M.at_ M.fn ?_
      have hl2 := F.len _ _ _ _ hsp
      have r2 : Vals [V.ref b1, V.ref b2] [Value.ref b1, Value.ref b2] := .cons rfl (.cons rfl .nil)
      refine wpAny_call (codeAny_mono (F.run X.A.in1.in1 X.stack s' _ ⟨[.ref b1, .ref b2], []⟩ [.ref b1, .ref b2] [.ref b1, .ref b2] _ E0 hr.in1.in1 I1.env0.in1.in1 (by
        have := bd s' [.ref b1, .ref b2] I1.kIn (by simpa using hl2)
        simpa using this) r2 hsp) fun rr s'' hq => ?_)
      cases rr with
      | error e => exact False.elim hq
      | ok fl =>
        cases fl with
        | ret w =>
          obtain ⟨z, H', I', rz, ez, eh⟩ := I1.after hq
          subst ez
          subst eh
          cases rz
          have g1 : xs.getD i .non = x1 := by rw [List.getD_eq_getElem?_getD, hx1]; rfl
          have g2 : xs.getD j .non = x2 := by rw [List.getD_eq_getElem?_getD, hx2]; rfl
          have := hB s'' ⟨hn, I'⟩
          rw [g1, g2, ex1, ex2] at this
          exact this
        | next => exact False.elim hq
        | brk => exact False.elim hq
        | cont => exact False.elim hq
    · obtain ⟨hn, I1⟩ := hj
      have hgD : s'.heap.get? D = some (PyProof.Rows.seqObj "list" #[] e1) := (I1.hok D (.ext fun h => h.get? D = some (PyProof.Rows.seqObj "list" #[] e1)) upd_same).1
      have hpl : p.toList.Perm (List.range its.length) := O
      have vals : ∀ l : List Nat, (∀ i ∈ l, i < its.length) → Vals (l.map fun i => xs.getD i .non) (l.map fun i => its.getD i Value.none) := by
        intro l
        induction l with
        | nil => exact fun _ => .nil
        | cons i l ih =>
          intro hl
          obtain ⟨z, b, dx, fs, g1, g2, hb, e3⟩ := itm i (hl i List.mem_cons_self)
          rw [List.map_cons, List.map_cons]
          refine .cons ?_ (ih fun j hj => hl j (List.mem_cons_of_mem _ hj))
          rw [e3, List.getD_eq_getElem?_getD, g1]
          show RelV z _
          rw [g2] <;> rfl
      have hv := vals p.toList fun i hi => List.mem_range.mp (hpl.mem_iff.mp hi)
      have hid : (List.range its.length).map (fun i => xs.getD i .non) = xs := by
        rw [hlen]
        refine List.ext_getElem? fun i => ?_
        rw [List.getElem?_map]
        by_cases hi : i < xs.length
        · rw [List.getElem?_range hi, List.getElem?_eq_getElem hi]
          show some (xs.getD i .non) = _
          rw [List.getD_eq_getElem?_getD, List.getElem?_eq_getElem hi] <;> rfl
        · rw [List.getElem?_eq_none (by rw [List.length_range]; omega), List.getElem?_eq_none (by omega)] <;> rfl
      have hperm : (p.toList.map fun i => xs.getD i .non).Perm xs := by
        have := hpl.map fun i => xs.getD i .non
        rw [hid] at this
        exact this
      have hpw : (p.toList.map fun i => xs.getD i .non).Pairwise fun x y => rk x ≤ rk y := by
        rw [List.pairwise_map, List.pairwise_iff_getElem]
        intro i j hi hj hij
        have hj2 : j < p.size := by simpa using hj
        have := U i j (by omega) (by have h9 : p.size = its.length := by simpa using hpl.length_eq
                                     omega)
        unfold KSR.R at this
        have a1 : p.getD i 0 = p.toList[i] := by simp [Array.getD, show i < p.size by omega]
        have a2 : p.getD j 0 = p.toList[j] := by simp [Array.getD, hj2]
        rw [a1, a2] at this
        exact this
      obtain ⟨c2, hc2⟩ : ∃ c2, (s'.heap.update D (Obj.mapSeq fun _ => List.toArray (p.toList.map fun i => its.getD i Value.none))).get? D = some (PyProof.Rows.seqObj "list" (List.toArray (p.toList.map fun i => its.getD i Value.none)) c2) :=
        ⟨_, PyProof.Rows.get?_update_seq hgD fun _ => List.toArray (p.toList.map fun i => its.getD i Value.none)⟩
      exact fin D _ s'.toks _ s' _ _ c2 I1 hn trivial hv (by rw [hperm.length_eq]; exact hz) (fun b u hb e => (Heap.get?_update_ne _ _ _ _ hb).trans e) hc2 (q _ D hperm hpw hn)
  · refine SrtO.sorted_ord (ltv := fun _ _ => false) ⟨fun _ _ z => (by cases z), fun _ _ _ _ _ => rfl⟩ hl.isList (by rw [hlen]; exact hz) (fun h => absurd h h2) fun out h1 h3 => ?_
    have hp : out.Perm its := h3.perm
    have eo : out = its := by
      match its, h2, hp with
      | [], _, hp => exact hp.eq_nil
      | [v], _, hp => exact List.perm_singleton.mp hp
      | _ :: _ :: l, h2, _ => exact absurd (by rw [List.length_cons, List.length_cons]; omega) h2
    subst eo
    obtain ⟨ep, he'⟩ := PyProof.Rows.sortedAll_at s.heap out out.toArray
    refine ⟨.ref _, upd H (s.heap.objs.size + 1) (.lst xs), I.laid (t' := s.toks) (fun _ _ => PyProof.Rows.sortedAll_old) (Nat.le_succ _) ⟨hz, out, ep, rv, he'⟩, rfl, q _ _ (List.Perm.refl _) ?_ (I.hok.fresh (Nat.le_succ _))⟩
    match xs, hlen with
    | [], _ => exact List.Pairwise.nil
    | [v], _ => exact List.pairwise_singleton _ _
    | _ :: _ :: l, e => exact absurd (by rw [e, List.length_cons, List.length_cons]; omega) h2
end
end Xl

/-! sorted(t), t a tuple of fewer than 64 instances with an own __lt__ (own work). -/
namespace XS
open PySem PySem.W PySem.Calls PyProof.Rows KSR
section
variable {prog : Program} {w : World} {A : Around} {E : Value → Shared → Prop} {s : Shared} {a : Addr} {vs : List Value} {T : Value} {r : Nat → Int}
theorem sorted_ownT {l : Addr} {Q : Value → Shared → Prop} {J : Addr → Nat → Shared → Prop} (hl : s.heap.IsTuple l vs.toArray) (h2 : 2 ≤ vs.length) (h64 : vs.length < 64)
    (hT : ∀ h' : Heap, (∀ b o, s.heap.get? b = some o → h'.get? b = some o) → ∀ v ∈ vs, Looks (model prog w) h' (typeOf v) T) (hT1 : (T != Value.type "tuple") = true) (hT2 : (T == T) = true)
    (hJ : ∀ D e1 (h1 h' : Heap), (∀ b o, s.heap.get? b = some o → h1.get? b = some o) → h1.objs.size ≤ D → (∀ b o, h1.get? b = some o → h'.get? b = some o) → h'.get? D = some (seqObj "list" #[] e1) → J D e1 { s with heap := h' })
    (hat : ∀ D e1 s', J D e1 s' → s'.heap.get? D = some (seqObj "list" #[] e1))
    (hc : ∀ D e1 i j (C : Bool → Shared → Prop) s', J D e1 s' → i < vs.length → j < vs.length → (∀ s'', J D e1 s'' → C (decide (r i < r j)) s'') → kas_ask prog w A.in1.in1 oneType' vs i j C s')
    (fin : ∀ D e1 (p : Array Nat) s', Ok vs.length p → Up r p vs.length → J D e1 s' → Q (.ref D) { s' with heap := s'.heap.update D (Obj.mapSeq fun _ => List.toArray (p.toList.map fun i => vs.getD i Value.none)) }) :
    wpAny (model prog w) A (call (.builtin "sorted") [.ref l]) Q E s := by
  refine Calls.call_function_entry kind_sorted plain_sorted entry_sorted (args_sorted1 _) ?_
  unfold Builtin.«sorted»
  refine wpAny_bind (m := checkCount "sorted" 1 1 _) (wpAny_pure ?_)
  obtain ⟨ol, ho, hcl, nl, hd⟩ := id hl
  refine wpAny_bind (wpAny_collect_seq l (.inr rfl) ho hcl hd (fun h1 keep => ?_) (by rw [List.size_toArray, sizeLine_eq]; omega))
  rw [show vs.toArray.toList = vs by simp]
  refine wpAny_bind (wpAny_newList ?_ (by rw [sizeLine_eq]; omega))
  have at1 : (h1.push (seqObj "list" vs.toArray 0)).get? h1.objs.size = some (seqObj "list" vs.toArray 0) := Heap.get?_push_size _ rfl
  have old : ∀ b o, h1.get? b = some o → b ≠ h1.objs.size ∧ (h1.push (seqObj "list" vs.toArray 0)).get? b = some o := fun b o q => ⟨Nat.ne_of_lt (Heap.lt_size q), Heap.get?_push_of_some _ q⟩
  show wpAny _ _ _ _ _ { s with heap := h1.push (seqObj "list" vs.toArray 0) }
  have old2 : ∀ b o, h1.get? b = some o → (TS.midHeap (h1.push (seqObj "list" vs.toArray 0)) h1.objs.size vs).get? b = some o :=
    fun b o q => TS.midHeap_old (old b o q).1 (old b o q).2
  refine wpAny_bind (wpAny_holding (wpAny_call_entry slot_list_sort ⟨_, at1, rfl⟩ entry_list_sort ?body (args_list_sort _)))
  case body =>
    exact list_sort_own (J := J h1.objs.size) (r := r) at1 h2 h64 (hT _ fun b o q => old2 b o (keep b o q)) hT1 hT2 (fun e1 q => hJ _ e1 h1 _ keep (Nat.le_refl _) old2 q) (hat _) (hc _) fun e1 p s' O U hj => ⟨_, rfl, wpAny_pure ⟨_, rfl, fin _ e1 p s' O U hj⟩⟩
theorem sorted_shortT {l : Addr} {Q : Value → Shared → Prop} (hl : s.heap.IsTuple l vs.toArray) (h2 : ¬ 2 ≤ vs.length)
    (h : ∀ (D : Addr) (h1 h' : Heap) (e : Nat), (∀ b o, s.heap.get? b = some o → h1.get? b = some o) → h1.objs.size ≤ D → (∀ b o, h1.get? b = some o → h'.get? b = some o) → h'.get? D = some (seqObj "list" vs.toArray e) → Q (.ref D) { s with heap := h' }) :
    wpAny (model prog w) A (call (.builtin "sorted") [.ref l]) Q E s := by
  refine Calls.call_function_entry kind_sorted plain_sorted entry_sorted (args_sorted1 _) ?_
  unfold Builtin.«sorted»
  refine wpAny_bind (m := checkCount "sorted" 1 1 _) (wpAny_pure ?_)
  obtain ⟨ol, ho, hcl, nl, hd⟩ := id hl
  refine wpAny_bind (wpAny_collect_seq l (.inr rfl) ho hcl hd (fun h1 keep => ?_) (by rw [List.size_toArray, sizeLine_eq]; omega))
  rw [show vs.toArray.toList = vs by simp]
  refine wpAny_bind (wpAny_newList ?_ (by rw [sizeLine_eq]; omega))
  have at1 : (h1.push (seqObj "list" vs.toArray 0)).get? h1.objs.size = some (seqObj "list" vs.toArray 0) := Heap.get?_push_size _ rfl
  show wpAny _ _ _ _ _ { s with heap := h1.push (seqObj "list" vs.toArray 0) }
  refine wpAny_bind (wpAny_holding (wpAny_call_entry slot_list_sort ⟨_, at1, rfl⟩ entry_list_sort ?body (args_list_sort _)))
  case body =>
    refine SrtO.list_sort_ord (ltv := fun _ _ => false) ⟨fun _ _ z => (by cases z), fun _ _ _ _ _ => rfl⟩ at1 (by rw [sizeLine_eq]; omega) (fun z => absurd z h2) fun out h3 h4 => ⟨_, rfl, wpAny_pure ⟨_, rfl, ?_⟩⟩
    have hp : out.Perm vs := h4.perm
    have eo : out = vs := by
      match vs, h2, hp with
      | [], _, hp => exact hp.eq_nil
      | [v], _, hp => exact List.perm_singleton.mp hp
      | _ :: _ :: l, h2, _ => exact absurd (by rw [List.length_cons, List.length_cons]; omega) h2
    subst eo
    obtain ⟨e, he⟩ := sortedHeap_at (out := out.toArray) at1
    refine h h1.objs.size h1 _ e keep (Nat.le_refl _) (fun b o q1 => ?_) he
    have hlt := Heap.lt_size q1
    rw [sortedHeap_old (Nat.ne_of_lt hlt) (Nat.lt_of_lt_of_le hlt (by show _ ≤ (h1.objs.push _).size; rw [Array.size_push]; exact Nat.le_succ _))]
    exact Heap.get?_push_of_some _ q1
end
end XS
namespace Xl
open PySem PySem.Spec PyProof.Rows L2
/-- sorted(t), t a tuple -/
def rSortT (K : PySem.W.Frag) (C : Addr) (sp : Sp) : List V → Hp → VK → Prop := fun vs H Q => ∃ (a : Addr) (xs : List V) (rk : V → Int), vs = [.ref a] ∧ SqT K H a xs ∧ xs.length < 64 ∧
  (∀ x ∈ xs, ∃ b dx fs, x = .ref b ∧ H b = some (.ins C dx fs)) ∧
  (∀ x ∈ xs, ∀ y ∈ xs, ∀ H', Ex H H' → sp [x, y] H' (fun v H'' => v = .bl (decide (rk x < rk y)) ∧ H'' = H') E0) ∧
  ∀ ys p, ys.Perm xs → ys.Pairwise (fun x y => rk x ≤ rk y) → H p = none → Q (.ref p) (upd H p (.lst ys))
section
variable {X : Cx} {k : Nat} {ps : List Str} {sp : Sp} {x : Str}
theorem cr_sortT (c : CalT X.prog X.w X.K X.mg X.base x "__lt__" k ps sp) (hr : Room (k + 2) X.A) : CallR X (.builtin "sorted") (rSortT X.K (He.ga X.K x) sp) := by
  intro pins s σ H vs us Q I r h
  obtain ⟨a, xs, rk, rfl, hs, h64, hin, hlt, q⟩ := h
  obtain ⟨its, rv, hl, hz⟩ := I.tuple hs
  rw [Vals.ref1 r]
  obtain ⟨g, fd, C, M, bd, F⟩ := c.ex
  have hlen : its.length = xs.length := rv.length.symm
  have itm : ∀ i, i < its.length → ∃ z b dx fs, xs[i]? = some z ∧ z = .ref b ∧ H b = some (.ins (He.ga X.K x) dx fs) ∧ its.getD i Value.none = .ref b := fun i hi => by
    have hi' : i < xs.length := by omega
    obtain ⟨b, dx, fs, e, hb⟩ := hin xs[i] (List.getElem_mem hi')
    obtain ⟨u, hu, ru⟩ := rv.get (List.getElem?_eq_getElem hi')
    rw [e] at ru
    cases ru
    exact ⟨xs[i], b, dx, fs, List.getElem?_eq_getElem hi', e, hb, by rw [List.getD_eq_getElem?_getD, hu]; rfl⟩
  have fin : ∀ (D : Addr) (h1 : Heap) (t1 : Nat) (o : HO) (s1 : Shared) (out : List Value) (ys : List V) (ep : Nat), Inv X pins σ (upd H D o) s1 → H D = none → Mut (some o) → Vals ys out → ys.length ≤ sizeLine →
      (∀ b u, b ≠ D → s1.heap.get? b = some u → h1.get? b = some u) → h1.get? D = some (PyProof.Rows.seqObj "list" out.toArray ep) → Q (.ref D) (upd H D (.lst ys)) → EP X pins σ Q (.ref D) { s1 with heap := h1 } := fun D h1 t1 o s1 out ys ep I1 hn mu r1 hz1 hk hD q1 => by
    have I2 := I1.write (x := D) (e := D) (o := .lst ys) (h' := h1) (t' := s1.toks) (by rw [upd_same]; exact mu) (.inl rfl) hk ⟨_, hD⟩ ⟨hz1, out, ep, r1, hD⟩
    have e2 : upd (upd H D o) D (.lst ys) = upd H D (.lst ys) := by
      funext b
      by_cases e : b = D
      · rw [e, upd_same, upd_same]
      · rw [upd_ne e, upd_ne e, upd_ne e]
    rw [e2] at I2
    exact ⟨.ref D, _, I2, rfl, q1⟩
  by_cases h2 : 2 ≤ its.length
  · refine XS.sorted_ownT (T := .ref (He.ga X.K x)) (r := fun i => rk (xs.getD i .non)) (J := fun D e1 s' => H D = none ∧ Inv X pins σ (upd H D (.ext fun h => h.get? D = some (PyProof.Rows.seqObj "list" #[] e1))) s')
      hl h2 (by omega) (fun h' hk v hv => ?_) (by simp) (by simp) (fun D e1 h1 h' k1 hD hk hg => ?_) (fun D e1 s' hj => ?_) (fun D e1 i j B s' hj hi hj2 hB => ?_) (fun D e1 p s' O U hj => ?_)
    · obtain ⟨i, hi, e⟩ := List.mem_iff_getElem.mp hv
      obtain ⟨z, b, dx, fs, _, _, hb, e3⟩ := itm i hi
      have ev : v = .ref b := by rw [← e, ← e3, List.getD_eq_getElem?_getD, List.getElem?_eq_getElem hi]; rfl
      subst ev
      have I1 : Inv X pins σ H { s with heap := h' } := I.kept (t' := s.toks) hk
      obtain ⟨mA, J, _⟩ := ins_get I1.hok hb
      obtain ⟨od, J, _⟩ := J.look
      exact J.type
    · have I9 : Inv X pins σ H { s with heap := h1 } := I.kept (t' := s.toks) k1
      have hn := I9.hok.fresh hD
      exact ⟨hn, I9.laid (t' := s.toks) hk hD ⟨hg, ⟨_, hg⟩, fun h1 h2 z1 z2 => z2 _ z1⟩⟩
    · obtain ⟨hn, I1⟩ := hj
      have := I1.hok D (.ext fun h => h.get? D = some (PyProof.Rows.seqObj "list" #[] e1)) upd_same
      exact this.1
    · obtain ⟨hn, I1⟩ := hj
      obtain ⟨x1, b1, dx1, fs1, hx1, ex1, hb1, e1'⟩ := itm i hi
      obtain ⟨x2, b2, dx2, fs2, hx2, ex2, hb2, e2'⟩ := itm j hj2
      unfold PySem.W.kas_ask
      rw [e1', e2']
      have E1 : Ex H (upd H D (.ext fun h => h.get? D = some (PyProof.Rows.seqObj "list" #[] e1))) := Ex.new hn
      obtain ⟨mA, J, _⟩ := ins_get I1.hok (E1 _ _ hb1)
      obtain ⟨od, J, _⟩ := J.look
      obtain ⟨m', hF⟩ := I1.fr
      have hsp := hlt x1 (List.mem_of_getElem? hx1) x2 (List.mem_of_getElem? hx2) _ E1
      rw [ex1, ex2] at hsp
      refine PySem.W.kas_lt_inst (Nat.lt_of_succ_lt (hu_of hr.in1.in1)) hF I1.ok.mod.kin J M.at_ M.fn ?_
      have hl2 := F.len _ _ _ _ hsp
      have r2 : Vals [V.ref b1, V.ref b2] [Value.ref b1, Value.ref b2] := .cons rfl (.cons rfl .nil)
      refine wpAny_call (codeAny_mono (F.run X.A.in1.in1 X.stack s' _ ⟨[.ref b1, .ref b2], []⟩ [.ref b1, .ref b2] [.ref b1, .ref b2] _ E0 hr.in1.in1 I1.env0.in1.in1 (by
        have := bd s' [.ref b1, .ref b2] I1.kIn (by simpa using hl2)
        simpa using this) r2 hsp) fun rr s'' hq => ?_)
      cases rr with
      | error e => exact False.elim hq
      | ok fl =>
        cases fl with
        | ret w =>
          obtain ⟨z, H', I', rz, ez, eh⟩ := I1.after hq
          subst ez
          subst eh
          cases rz
          have g1 : xs.getD i .non = x1 := by rw [List.getD_eq_getElem?_getD, hx1]; rfl
          have g2 : xs.getD j .non = x2 := by rw [List.getD_eq_getElem?_getD, hx2]; rfl
          have := hB s'' ⟨hn, I'⟩
          rw [g1, g2, ex1, ex2] at this
          exact this
        | next => exact False.elim hq
        | brk => exact False.elim hq
        | cont => exact False.elim hq
    · obtain ⟨hn, I1⟩ := hj
      have hgD : s'.heap.get? D = some (PyProof.Rows.seqObj "list" #[] e1) := (I1.hok D (.ext fun h => h.get? D = some (PyProof.Rows.seqObj "list" #[] e1)) upd_same).1
      have hpl : p.toList.Perm (List.range its.length) := O
      have vals : ∀ l : List Nat, (∀ i ∈ l, i < its.length) → Vals (l.map fun i => xs.getD i .non) (l.map fun i => its.getD i Value.none) := by
        intro l
        induction l with
        | nil => exact fun _ => .nil
        | cons i l ih =>
          intro hl
          obtain ⟨z, b, dx, fs, g1, g2, hb, e3⟩ := itm i (hl i List.mem_cons_self)
          rw [List.map_cons, List.map_cons]
          refine .cons ?_ (ih fun j hj => hl j (List.mem_cons_of_mem _ hj))
          rw [e3, List.getD_eq_getElem?_getD, g1]
          show RelV z _
          rw [g2] <;> rfl
      have hv := vals p.toList fun i hi => List.mem_range.mp (hpl.mem_iff.mp hi)
      have hid : (List.range its.length).map (fun i => xs.getD i .non) = xs := by
        rw [hlen]
        refine List.ext_getElem? fun i => ?_
        rw [List.getElem?_map]
        by_cases hi : i < xs.length
        · rw [List.getElem?_range hi, List.getElem?_eq_getElem hi]
          show some (xs.getD i .non) = _
          rw [List.getD_eq_getElem?_getD, List.getElem?_eq_getElem hi] <;> rfl
        · rw [List.getElem?_eq_none (by rw [List.length_range]; omega), List.getElem?_eq_none (by omega)] <;> rfl
      have hperm : (p.toList.map fun i => xs.getD i .non).Perm xs := by
        have := hpl.map fun i => xs.getD i .non
        rw [hid] at this
        exact this
      have hpw : (p.toList.map fun i => xs.getD i .non).Pairwise fun x y => rk x ≤ rk y := by
        rw [List.pairwise_map, List.pairwise_iff_getElem]
        intro i j hi hj hij
        have hj2 : j < p.size := by simpa using hj
        have := U i j (by omega) (by have h9 : p.size = its.length := by simpa using hpl.length_eq
                                     omega)
        unfold KSR.R at this
        have a1 : p.getD i 0 = p.toList[i] := by simp [Array.getD, show i < p.size by omega]
        have a2 : p.getD j 0 = p.toList[j] := by simp [Array.getD, hj2]
        rw [a1, a2] at this
        exact this
      obtain ⟨c2, hc2⟩ : ∃ c2, (s'.heap.update D (Obj.mapSeq fun _ => List.toArray (p.toList.map fun i => its.getD i Value.none))).get? D = some (PyProof.Rows.seqObj "list" (List.toArray (p.toList.map fun i => its.getD i Value.none)) c2) :=
        ⟨_, PyProof.Rows.get?_update_seq hgD fun _ => List.toArray (p.toList.map fun i => its.getD i Value.none)⟩
      exact fin D _ s'.toks _ s' _ _ c2 I1 hn trivial hv (by rw [hperm.length_eq]; exact hz) (fun b u hb e => (Heap.get?_update_ne _ _ _ _ hb).trans e) hc2 (q _ D hperm hpw hn)
  · refine XS.sorted_shortT hl h2 fun D h1 h' e k1 hD hk hg => ?_
    have I9 : Inv X pins σ H { s with heap := h1 } := I.kept (t' := s.toks) k1
    have hn := I9.hok.fresh hD
    refine ⟨.ref D, upd H D (.lst xs), I9.laid (t' := s.toks) hk hD ⟨hz, its, e, rv, hg⟩, rfl, q _ _ (List.Perm.refl _) ?_ hn⟩
    match xs, hlen with
    | [], _ => exact List.Pairwise.nil
    | [v], _ => exact List.pairwise_singleton _ _
    | _ :: _ :: l, e => exact absurd (by rw [e, List.length_cons, List.length_cons]; omega) h2
end
end Xl

namespace Xl
open PySem PySem.Spec PyProof.Rows L2
theorem x_mkVX {σ : L2.St} {H : Hp} {Q : VK} {tf : TE} {al : TA} {C : Addr} {sp : Sp} {E : XK} (h : tf σ H fun c H0 => IsC C c (al σ H0 fun vs H1 => MkdX C sp E vs H1 Q)) : tMakeVX C sp E tf al σ H Q := h
local macro_rules | `(tactic| walk_at "x1") => `(tactic| first
  | ((with_reducible show tVar _ _ _ _); refine x_var rfl ?_)
  | (with_reducible refine x_c ?_)
  | (with_reducible refine x_II ?_)
  | ((with_reducible refine x_sd ?_ ?_); (first | (· first | exact trivial | decide | omega | exact .inl ⟨by omega, by omega⟩ | exact .inr ⟨by omega, by omega⟩ | exact ⟨by omega, by omega⟩ | exact ⟨by decide, by decide, by decide⟩) | rotate_left))
  | (with_reducible refine x_asB ?_)
  | (with_reducible refine x_seq ?_)
  | (with_reducible refine x_asgN ?_)
  | (with_reducible refine x_gN ?_)
  | (with_reducible refine x_asg ?_)
  | (with_reducible refine x_drop ?_)
  | (with_reducible refine x_ret ?_)
  | (with_reducible refine x_retN ?_)
  | (with_reducible refine x_next ?_)
  | (with_reducible refine x_if ?_)
  | (with_reducible refine x_brk ?_)
  | (with_reducible refine x_cont ?_)
  | (with_reducible refine x_opI0 ?_)
  | (with_reducible refine x_opI ?_)
  | (with_reducible refine x_opEq ?_)
  | (with_reducible refine x_opNe ?_)
  | (with_reducible refine x_op ?_)
  | (with_reducible refine x_chain ?_)
  | (with_reducible refine x_unI ?_)
  | (with_reducible refine x_gsub ?_)
  | (with_reducible refine x_callN ?_)
  | ((with_reducible show Cn _ _ _ _ _); refine x_Cn rfl rfl ?_)
  | (with_reducible refine x_dget ?_)
  | (with_reducible refine x_din ?_)
  | (with_reducible refine x_dni ?_)
  | (with_reducible refine x_dput ?_)
  | (with_reducible refine x_lc2L ?_)
  | (with_reducible refine x_sl ?_)
  | (with_reducible refine x_noPart ?_)
  | (with_reducible refine x_part ?_)
  | (with_reducible refine x_asO ?_)
  | (with_reducible refine x_rI0 ?_)
  | (with_reducible refine x_rI ?_)
  | (with_reducible refine x_eqI ?_)
  | (with_reducible refine x_neI ?_)
  | (with_reducible refine x_eqS ?_)
  | (with_reducible refine x_neS ?_)
  | (with_reducible refine x_eqB ?_)
  | (with_reducible refine x_neB ?_)
  | (with_reducible refine x_tst ?_)
  | (with_reducible refine x_tB ?_)
  | (with_reducible refine x_and ?_)
  | (with_reducible refine x_or ?_)
  | (with_reducible refine x_not ?_)
  | (with_reducible refine x_andV ?_)
  | (with_reducible refine x_orV ?_)
  | (with_reducible refine x_notV ?_)
  | (with_reducible refine x_ifE ?_)
  | (with_reducible refine x_nilA ?_)
  | (with_reducible refine x_consA ?_)
  | (with_reducible refine x_tup ?_)
  | (with_reducible refine x_lst ?_)
  | (with_reducible refine x_call ?_)
  | (with_reducible refine x_callD ?_)
  | (with_reducible refine x_cb ?_)
  | (with_reducible refine x_min2 ?_)
  | (with_reducible refine x_max2 ?_)
  | (with_reducible refine x_par ?_)
  | (with_reducible refine x_Par ?_)
  | (with_reducible refine x_par3 ?_)
  | (with_reducible refine x_Par3 ?_)
  | ((with_reducible show tAug _ _ _ _ _ _); refine x_aug rfl ?_)
  | (with_reducible refine x_ipI ?_)
  | (with_reducible refine x_forR1 ?_)
  | (with_reducible refine x_forR2 ?_)
  | (with_reducible refine x_forL ?_)
  | (with_reducible refine x_forT ?_)
  | (with_reducible refine x_lcL ?_)
  | (with_reducible refine x_lcT ?_)
  | (with_reducible refine x_lcR1 ?_)
  | (with_reducible refine x_lcR2 ?_)
  | ((with_reducible refine x_R1 ?_ ?_); (first | (· first | decide | omega) | rotate_left))
  | ((with_reducible refine x_R2 ?_ ?_); (first | (· first | decide | omega) | rotate_left))
  | (with_reducible refine x_yes ?_)
  | (with_reducible refine b_t rfl ?_)
  | (with_reducible refine b_f rfl ?_))
local macro_rules | `(tactic| walk_at "x") => `(tactic| repeat walk_at "x1")
local macro_rules | `(tactic| walk_at "bf") => `(tactic| refine b_f (by first | exact decide_eq_false (by omega) | (simp; done) | (simp; omega)) ?_)
local macro_rules | `(tactic| walk_at "bt") => `(tactic| refine b_t (by first | exact decide_eq_true (by omega) | (simp; done) | (simp; omega)) ?_)

local macro_rules | `(tactic| walk_at "x1") => `(tactic| first
  | (with_reducible refine x_mk ?_)
  | (with_reducible refine x_mkV ?_)
  | (with_reducible refine x_cmeth ?_)
  | (with_reducible refine x_isC ?_)
  | (with_reducible refine x_prop ?_)
  | (with_reducible refine x_fld ?_)
  | (with_reducible refine x_sfld ?_)
  | (with_reducible refine x_fmtD ?_))
local macro_rules | `(tactic| walk_at "x1") => `(tactic| with_reducible refine x_revL ?_)

local macro_rules | `(tactic| walk_at "x1") => `(tactic| first
  | (with_reducible refine x_mkVX ?_))
theorem pair_at {K : PySem.W.Frag} {H : Hp} {ys : List V} {ps : List (Nat × Nat)} {i : Nat} {x : V} (r : RpL K H ys (ps.map dPair)) (h : ys[i]? = some x) : ∃ p c a, ps[i]? = some (p, c) ∧ x = .ref a ∧ SqT K H a [.int (p : Int), .int (c : Int)] := by
  obtain ⟨d, hd, rd⟩ := r.at' h
  rw [List.getElem?_map] at hd
  cases e : ps[i]? with
  | none =>
    rw [e] at hd
    cases hd
  | some q =>
    rw [e] at hd
    obtain rfl : dPair q = d := Option.some.inj hd
    obtain ⟨a, hx, hs⟩ := Rp.ti (ns := [(q.1 : Int), (q.2 : Int)]) rd
    exact ⟨q.1, q.2, a, rfl, hx, hs⟩
theorem take_snoc {α : Type} {l : List α} {i : Nat} {x : α} (h : l[i]? = some x) : l.take (i + 1) = l.take i ++ [x] := by
  rw [List.take_add_one, h] <;> rfl
theorem lenN_bd {p c : Nat} (hc : c ≤ p) (hp : p ≤ 10) : 1 ≤ lenN p c ∧ lenN p c ≤ 2047 := by
  have h1 := lenN_pos hc
  have h2 : 2 ^ (p + 1) ≤ 2 ^ 11 := Nat.pow_le_pow_right (by decide) (by omega)
  have h3 : 0 < 2 ^ (p - c) := Nat.two_pow_pos _
  unfold lenN at *
  omega
/-- a length tells its note -/
theorem lenN_inj {p c p' c' : Nat} (h1 : c ≤ p) (h2 : c' ≤ p') (e : lenN p c = lenN p' c') : p = p' ∧ c = c' := by
  have lo : ∀ {p c : Nat}, c ≤ p → 2 ^ p ≤ lenN p c ∧ lenN p c < 2 ^ (p + 1) := fun {p c} h => by
    have h3 : 2 ^ (p - c) ≤ 2 ^ p := Nat.pow_le_pow_right (by decide) (by omega)
    have h4 : 0 < 2 ^ (p - c) := Nat.two_pow_pos _
    unfold lenN
    rw [Nat.pow_succ]
    omega
  have a := lo h1
  have b := lo h2
  have ep : p = p' := by
    rcases Nat.lt_trichotomy p p' with h | h | h
    · have : 2 ^ (p + 1) ≤ 2 ^ p' := Nat.pow_le_pow_right (by decide) h
      omega
    · exact h
    · have : 2 ^ (p' + 1) ≤ 2 ^ p := Nat.pow_le_pow_right (by decide) h
      omega
  subst ep
  refine ⟨rfl, ?_⟩
  have h3 : 2 ^ (p - c) ≤ 2 ^ p := Nat.pow_le_pow_right (by decide) (by omega)
  have h4 : 2 ^ (p - c') ≤ 2 ^ p := Nat.pow_le_pow_right (by decide) (by omega)
  have h5 : 2 ^ (p + 1) = 2 * 2 ^ p := by rw [Nat.pow_succ]; omega
  unfold lenN at e
  have h6 : 2 ^ (p - c) = 2 ^ (p - c') := by omega
  rcases Nat.lt_trichotomy (p - c) (p - c') with h | h | h
  · have := Nat.pow_lt_pow_right (a := 2) (by decide) h
    omega
  · omega
  · have := Nat.pow_lt_pow_right (a := 2) (by decide) h
    omega
/-- a note of this length, or refused -/
def sp_Note_of_length (K : PySem.W.Frag) : Sp := fun vs H Q E => ∃ v : V, vs = [.ref (He.ga K "Note"), v] ∧ AnyV K H v ∧
  (∀ p c : Nat, v = .int (lenN p c) → c ≤ p → p ≤ 10 → ∀ a H', Ex H H' → H a = none → IsN K H' a p c → Q (.ref a) H') ∧
  ((∀ p c : Nat, c ≤ p → p ≤ 10 → v ≠ .int (lenN p c)) → ∀ H', Ex H H' → E (.ref (He.ga K "InvalidNote")) none H')
theorem len_Note_of_length {K : PySem.W.Frag} : ∀ vs H Q E, sp_Note_of_length K vs H Q E → vs.length = 2 := by
  rintro _ H Q E ⟨_, rfl, _⟩
  rfl
/-- Note.of_length: cls length power dots -/
def t_Note_of_length (K : PySem.W.Frag) (E : XK) : TS := (tSeq (tFor (iList K (tCall (sp_all_notes K) [] E0 (tCons (tC (.int 10)) (tCons (tC (.int 10)) tNil)))) (gTup K 2 (gCons (gName 2) (gCons (gName 3) gNil))) (tIfS (tAnd (tB (tCall (sp_is_integer K) [] E0 (tCons (tVar 1) (tCons (tC (.int 1)) (tCons (tC (.int 2047)) tNil))))) (tTest (tOp rEq (tCall (sp_length_of K) [] E0 (tCons (tVar 2) (tCons (tVar 3) tNil))) (tVar 1)))) (tRet (tMakeVX (He.ga K "Note") (sp_Note__init K) E0 (tVar 0) (tCons (tVar 2) (tCons (tVar 3) tNil)))) tNext)) (tRais E (He.ga K "InvalidNote")))

theorem run_Note_of_length {K : PySem.W.Frag} {vs : List V} {H : Hp} {Q : VK} {E : XK} (h : sp_Note_of_length K vs H Q E) : t_Note_of_length K E { nx := fun _ H' => Q .non H', rt := Q } (start ["cls", "length", "power", "dots"] vs) H := by
  obtain ⟨v, rfl, hv, q, bad⟩ := h
  unfold t_Note_of_length
  walk_at "x"
  refine ⟨10, 10, rfl, by decide, by decide, fun pa H1 ys e1 n1 h1 r1 => ?_⟩
  refine x_RefL (SqL.of h1) (for_l (xs := ys) (fun i σ H' => ∃ o1 o2, σ = [some (.ref (He.ga K "Note")), some v, o1, o2] ∧ Ex H1 H' ∧ ∀ q ∈ (notesL 10 10).take i, v ≠ .int (lenN q.1 q.2))
    ⟨none, none, rfl, Ex.refl _, by simp⟩ (fun _ _ _ _ ⟨_, _, _, e, _⟩ => e.l (SqL.of h1)) ?_ ?_)
  · rintro i x σ HA hx ⟨o1, o2, rfl, eA, hno⟩
    obtain ⟨p1, c1, a, hi, rfl, ha⟩ := pair_at (r1.mono eA) hx
    have hm := notesL_mem.mp (List.mem_of_getElem? hi)
    have hb := lenN_bd hm.2.2 hm.1
    have next : v ≠ .int (lenN p1 c1) → ∀ q ∈ (notesL 10 10).take (i + 1), v ≠ .int (lenN q.1 q.2) := fun hne q hq => by
      rw [take_snoc hi] at hq
      rcases List.mem_append.mp hq with hq | hq
      · exact hno q hq
      · have : q = (p1, c1) := by simpa using hq
        subst this
        exact hne
    refine x_gtup2 ha ?_
    walk_at "x"
    refine ⟨_, _, _, rfl, hv.ex (e1.trans eA), ?_⟩
    cases hI : isI v 1 2047 with
    | false =>
      walk_at "x"
      refine ⟨_, _, rfl, eA, next fun z => ?_⟩
      rw [z] at hI
      have : decide ((1 : Int) ≤ (lenN p1 c1 : Nat) ∧ ((lenN p1 c1 : Nat) : Int) ≤ 2047) = false := hI
      have := of_decide_eq_false this
      omega
    | true =>
      obtain ⟨iv, rfl, hi1, hi2⟩ := isI_of hI
      walk_at "x"
      refine ⟨p1, c1, rfl, hm.2.2, hm.1, ?_⟩
      walk_at "x"
      refine b_d (fun h2 => ?_) (fun h2 => ?_)
      · walk_at "x"
        refine x_note hm.2.2 hm.1 fun b HB eB nB hB => ?_
        have e2 : Ex H HB := (e1.trans eA).trans eB
        exact q p1 c1 (by rw [h2]) hm.2.2 hm.1 b HB e2 (by
          cases hz : H b with
          | none => rfl
          | some o => rw [(e1.trans eA) _ _ hz] at nB; cases nB) hB
      · walk_at "x"
        refine ⟨_, _, rfl, eA, next fun z => h2 ?_⟩
        exact (V.int.inj z).symm
  · rintro σ HA ⟨o1, o2, rfl, eA, hno⟩
    have hl := r1.len
    rw [List.length_map] at hl
    rw [hl, List.take_length] at hno
    walk_at "x"
    exact bad (fun p c hc hp => hno (p, c) (notesL_mem.mpr ⟨hp, by omega, hc⟩)) HA (e1.trans eA)
end Xl

/-! rows of notes, ==, < and sorted, where notes may be refused (as Note, NoteOf, Shortest have it). -/
namespace Xl
open PySem PySem.Spec PyProof.Rows L2
local macro_rules | `(tactic| walk_at "x1") => `(tactic| first
  | ((with_reducible show tVar _ _ _ _); refine x_var rfl ?_)
  | (with_reducible refine x_c ?_)
  | (with_reducible refine x_II ?_)
  | ((with_reducible refine x_sd ?_ ?_); (first | (· first | exact trivial | decide | omega | exact .inl ⟨by omega, by omega⟩ | exact .inr ⟨by omega, by omega⟩ | exact ⟨by omega, by omega⟩ | exact ⟨by decide, by decide, by decide⟩) | rotate_left))
  | (with_reducible refine x_asB ?_)
  | (with_reducible refine x_seq ?_)
  | (with_reducible refine x_asgN ?_)
  | (with_reducible refine x_gN ?_)
  | (with_reducible refine x_asg ?_)
  | (with_reducible refine x_drop ?_)
  | (with_reducible refine x_ret ?_)
  | (with_reducible refine x_retN ?_)
  | (with_reducible refine x_next ?_)
  | (with_reducible refine x_if ?_)
  | (with_reducible refine x_brk ?_)
  | (with_reducible refine x_cont ?_)
  | (with_reducible refine x_opI0 ?_)
  | (with_reducible refine x_opI ?_)
  | (with_reducible refine x_opEq ?_)
  | (with_reducible refine x_opNe ?_)
  | (with_reducible refine x_op ?_)
  | (with_reducible refine x_chain ?_)
  | (with_reducible refine x_unI ?_)
  | (with_reducible refine x_gsub ?_)
  | (with_reducible refine x_callN ?_)
  | ((with_reducible show Cn _ _ _ _ _); refine x_Cn rfl rfl ?_)
  | (with_reducible refine x_dget ?_)
  | (with_reducible refine x_din ?_)
  | (with_reducible refine x_dni ?_)
  | (with_reducible refine x_dput ?_)
  | (with_reducible refine x_lc2L ?_)
  | (with_reducible refine x_sl ?_)
  | (with_reducible refine x_noPart ?_)
  | (with_reducible refine x_part ?_)
  | (with_reducible refine x_asO ?_)
  | (with_reducible refine x_rI0 ?_)
  | (with_reducible refine x_rI ?_)
  | (with_reducible refine x_eqI ?_)
  | (with_reducible refine x_neI ?_)
  | (with_reducible refine x_eqS ?_)
  | (with_reducible refine x_neS ?_)
  | (with_reducible refine x_eqB ?_)
  | (with_reducible refine x_neB ?_)
  | (with_reducible refine x_tst ?_)
  | (with_reducible refine x_tB ?_)
  | (with_reducible refine x_and ?_)
  | (with_reducible refine x_or ?_)
  | (with_reducible refine x_not ?_)
  | (with_reducible refine x_andV ?_)
  | (with_reducible refine x_orV ?_)
  | (with_reducible refine x_notV ?_)
  | (with_reducible refine x_ifE ?_)
  | (with_reducible refine x_nilA ?_)
  | (with_reducible refine x_consA ?_)
  | (with_reducible refine x_tup ?_)
  | (with_reducible refine x_lst ?_)
  | (with_reducible refine x_call ?_)
  | (with_reducible refine x_callD ?_)
  | (with_reducible refine x_cb ?_)
  | (with_reducible refine x_min2 ?_)
  | (with_reducible refine x_max2 ?_)
  | (with_reducible refine x_par ?_)
  | (with_reducible refine x_Par ?_)
  | (with_reducible refine x_par3 ?_)
  | (with_reducible refine x_Par3 ?_)
  | ((with_reducible show tAug _ _ _ _ _ _); refine x_aug rfl ?_)
  | (with_reducible refine x_ipI ?_)
  | (with_reducible refine x_forR1 ?_)
  | (with_reducible refine x_forR2 ?_)
  | (with_reducible refine x_forL ?_)
  | (with_reducible refine x_forT ?_)
  | (with_reducible refine x_lcL ?_)
  | (with_reducible refine x_lcT ?_)
  | (with_reducible refine x_lcR1 ?_)
  | (with_reducible refine x_lcR2 ?_)
  | ((with_reducible refine x_R1 ?_ ?_); (first | (· first | decide | omega) | rotate_left))
  | ((with_reducible refine x_R2 ?_ ?_); (first | (· first | decide | omega) | rotate_left))
  | (with_reducible refine x_yes ?_)
  | (with_reducible refine b_t rfl ?_)
  | (with_reducible refine b_f rfl ?_))
local macro_rules | `(tactic| walk_at "x") => `(tactic| repeat walk_at "x1")
local macro_rules | `(tactic| walk_at "bf") => `(tactic| refine b_f (by first | exact decide_eq_false (by omega) | (simp; done) | (simp; omega)) ?_)
local macro_rules | `(tactic| walk_at "bt") => `(tactic| refine b_t (by first | exact decide_eq_true (by omega) | (simp; done) | (simp; omega)) ?_)

local macro_rules | `(tactic| walk_at "x1") => `(tactic| first
  | (with_reducible refine x_mk ?_)
  | (with_reducible refine x_mkV ?_)
  | (with_reducible refine x_cmeth ?_)
  | (with_reducible refine x_isC ?_)
  | (with_reducible refine x_prop ?_)
  | (with_reducible refine x_fld ?_)
  | (with_reducible refine x_sfld ?_)
  | (with_reducible refine x_fmtD ?_))
local macro_rules | `(tactic| walk_at "x1") => `(tactic| with_reducible refine x_revL ?_)

def lenS (ns : List (Nat × Nat)) : List Int := ns.map fun q => ((lenN q.1 q.2 : Nat) : Int)
def dNs (K : PySem.W.Frag) (ns : List (Nat × Nat)) : List D := ns.map fun q => dN K q.1 q.2
theorem note_at {K : PySem.W.Frag} {H : Hp} {ys : List V} {ps : List (Nat × Nat)} {i : Nat} {x : V} (r : RpL K H ys (dNs K ps)) (h : ys[i]? = some x) : ∃ p c a, ps[i]? = some (p, c) ∧ x = .ref a ∧ IsN K H a p c := by
  obtain ⟨d, hd, rd⟩ := r.at' h
  unfold dNs at hd
  rw [List.getElem?_map] at hd
  cases e : ps[i]? with
  | none =>
    rw [e] at hd
    cases hd
  | some q =>
    rw [e] at hd
    obtain rfl : dN K q.1 q.2 = d := Option.some.inj hd
    obtain ⟨a, hx, hs⟩ := rd.isN
    exact ⟨q.1, q.2, a, rfl, hx, hs⟩
theorem fm_at {α : Type} {β : Type} (f : α → β) : ∀ (l : List α), (List.range l.length).filterMap (fun i => l[i]?.map f) = l.map f := fun l => by
  have := fm_range (fun a => some (f a)) l.length l rfl
  rw [fm_some] at this
  refine Eq.trans (fm_congr fun i _ => ?_) this
  cases l[i]? <;> rfl
/-- [note.length for note in notes] and its like -/
theorem lcT_notes {K : PySem.W.Frag} {σ : L2.St} {H : Hp} {Q : VK} {g : TG} {te : TE} {a : Addr} {xs : List V} {ns : List (Nat × Nat)} {vs : List Nat} (f : Nat × Nat → Int) (hx : SqT K H a xs) (hr : RpL K H xs (dNs K ns)) (hz : ns.length ≤ 100000)
    (hs : ∀ (i p c : Nat) (b : Addr) (H' : Hp), ns[i]? = some (p, c) → Ex H H' → IsN K H' b p c → ∀ R : VK, (∀ H4, Ex H' H4 → R (.int (f (p, c))) H4) → g (.ref b) (wipe σ vs) H' fun σ2 H2 => wipe σ2 vs = wipe σ vs ∧ te σ2 H2 R)
    (hd : ∀ p H', Ex H H' → H p = none → H' p = some (.lst ((ns.map f).map V.int)) → Q (.ref p) H') : LcIt (Itt K a) g tYes te vs σ H Q := by
  have hl := hr.len
  unfold dNs at hl
  rw [List.length_map] at hl
  refine lcT (K := K) (fun i => ns[i]?.map fun q => D.int (f q)) hx (by omega) (fun i x H' hi e => ?_) (fun p ys H' e n h r => ?_)
  · obtain ⟨p, c, b, h1, rfl, h2⟩ := note_at (hr.mono e) hi
    rw [h1]
    exact turn_all fun R k => hs i p c b H' h1 e h2 R fun H4 e4 => k _ H4 e4 (.int _)
  · rw [hl, fm_at (fun q => D.int (f q))] at r
    have e2 : ns.map (fun q => D.int (f q)) = dI (ns.map f) := by
      unfold dI
      rw [List.map_map] <;> rfl
    rw [e2] at r
    rw [r.ints_inv] at h
    exact hd p H' e n h
theorem srt_eq {zs ns : List Int} (hp : zs.Perm ns) (hz : zs.Pairwise (· ≤ ·)) (hn : ns.Pairwise fun a b => b ≤ a) : ns = zs.reverse := by
  have h1 : zs.Perm ns.reverse := hp.trans (List.reverse_perm ns).symm
  have h2 : ns.reverse.Pairwise (· ≤ ·) := List.pairwise_reverse.mpr hn
  have := h1.eq_of_pairwise (fun a b _ _ x y => Int.le_antisymm x y) hz h2
  rw [this, List.reverse_reverse]
theorem dNs_perm {K : PySem.W.Frag} {H : Hp} {xs ys : List V} (h : ys.Perm xs) : ∀ {ns : List (Nat × Nat)}, RpL K H xs (dNs K ns) → ∃ ms, ms.Perm ns ∧ RpL K H ys (dNs K ms) := by
  induction h with
  | nil => exact fun {ns} r => ⟨ns, List.Perm.refl _, r⟩
  | @cons x l1 l2 _ ih =>
    intro ns r
    cases ns with
    | nil => cases r
    | cons n ns =>
      cases r with
      | cons r1 r2 =>
        obtain ⟨ms, p, r3⟩ := ih r2
        exact ⟨n :: ms, p.cons n, .cons r1 r3⟩
  | @swap x y l =>
    intro ns r
    cases ns with
    | nil => cases r
    | cons n ns =>
      cases r with
      | cons r1 r2 =>
        cases ns with
        | nil => cases r2
        | cons m ns =>
          cases r2 with
          | cons r3 r4 => exact ⟨m :: n :: ns, List.Perm.swap _ _ _, .cons r3 (.cons r1 r4)⟩
  | trans _ _ ih1 ih2 =>
    intro ns r
    obtain ⟨ms, p1, r1⟩ := ih2 r
    obtain ⟨ks, p2, r2⟩ := ih1 r1
    exact ⟨ks, p2.trans p1, r2⟩
/-- the rank of an instance: its length -/
noncomputable def rkN (K : PySem.W.Frag) (H : Hp) (x : V) : Int := Classical.epsilon fun i => ∃ a p c, x = .ref a ∧ IsN K H a p c ∧ i = ((lenN p c : Nat) : Int)
theorem isN_inj {K : PySem.W.Frag} {H : Hp} {a : Addr} {p c p' c' : Nat} (h : IsN K H a p c) (h' : IsN K H a p' c') : lenN p c = lenN p' c' := by
  obtain ⟨dx, h⟩ := h
  obtain ⟨dy, h'⟩ := h'
  rw [h] at h'
  have e := HO.ins.inj (Option.some.inj h')
  have e2 := e.2.2
  unfold nF at e2
  simp only [List.cons.injEq, Prod.mk.injEq, V.int.injEq, true_and, and_true] at e2
  omega
theorem rkN_of {K : PySem.W.Frag} {H : Hp} {a : Addr} {p c : Nat} (h : IsN K H a p c) : rkN K H (.ref a) = ((lenN p c : Nat) : Int) := by
  have := Classical.epsilon_spec (p := fun i : Int => ∃ b p c, V.ref a = .ref b ∧ IsN K H b p c ∧ i = ((lenN p c : Nat) : Int)) ⟨_, a, p, c, rfl, h, rfl⟩
  obtain ⟨b, p', c', e, h', hi⟩ := this
  cases e
  rw [isN_inj h h']
  exact hi
def sp_Note__eq (K : PySem.W.Frag) : Sp := fun vs H Q _ => ∃ (a b : Addr) (p c p' c' : Nat), vs = [.ref a, .ref b] ∧ IsN K H a p c ∧ IsN K H b p' c' ∧ Q (.bl (decide (lenN p c = lenN p' c'))) H
theorem len_Note__eq {K : PySem.W.Frag} : ∀ vs H Q E, sp_Note__eq K vs H Q E → vs.length = 2 := by
  rintro _ H Q E ⟨_, _, _, _, _, _, rfl, _⟩
  rfl
/-- Note.__eq__: self other -/
def t_Note__eq (K : PySem.W.Frag) : TS := (tSeq (tIfS (tNot (tB (tCB (rIsi K) (tCons (tVar 1) (tCons (tC (.ref (He.ga K "Note"))) tNil))))) tNo tNext) (tRet (tOp rEq (tFld K (tVar 0) "n") (tFld K (tVar 1) "n"))))

theorem run_Note__eq {K : PySem.W.Frag} (T : NtT K) {vs : List V} {H : Hp} {Q : VK} {E : XK} (h : sp_Note__eq K vs H Q E) : t_Note__eq K { nx := fun _ H' => Q .non H', rt := Q } (start ["self", "other"] vs) H := by
  obtain ⟨a, b, p, c, p', c', rfl, ⟨dx, h⟩, ⟨dy, h'⟩, q⟩ := h
  unfold t_Note__eq
  walk_at "x"
  refine x_isiN T h' ?_
  walk_at "x"
  refine x_Fld h T.cl T.n rfl ?_
  walk_at "x"
  refine x_Fld h' T.cl T.n rfl ?_
  refine x_eqI ?_
  have e : decide (((lenN p c : Nat) : Int) = ((lenN p' c' : Nat) : Int)) = decide (lenN p c = lenN p' c') := by
    rw [decide_eq_decide]
    omega
  rw [e]
  exact q
def sp_Note__lt (K : PySem.W.Frag) : Sp := fun vs H Q _ => ∃ (a b : Addr) (p c p' c' : Nat), vs = [.ref a, .ref b] ∧ IsN K H a p c ∧ IsN K H b p' c' ∧ Q (.bl (decide (lenN p c < lenN p' c'))) H
theorem len_Note__lt {K : PySem.W.Frag} : ∀ vs H Q E, sp_Note__lt K vs H Q E → vs.length = 2 := by
  rintro _ H Q E ⟨_, _, _, _, _, _, rfl, _⟩
  rfl
/-- Note.__lt__: self other -/
def t_Note__lt (K : PySem.W.Frag) : TS := (tSeq (tIfS (tNot (tB (tCB (rIsi K) (tCons (tVar 1) (tCons (tC (.ref (He.ga K "Note"))) tNil))))) tNo tNext) (tRet (tOp rLt (tFld K (tVar 0) "n") (tFld K (tVar 1) "n"))))

theorem run_Note__lt {K : PySem.W.Frag} (T : NtT K) {vs : List V} {H : Hp} {Q : VK} {E : XK} (h : sp_Note__lt K vs H Q E) : t_Note__lt K { nx := fun _ H' => Q .non H', rt := Q } (start ["self", "other"] vs) H := by
  obtain ⟨a, b, p, c, p', c', rfl, ⟨dx, h⟩, ⟨dy, h'⟩, q⟩ := h
  unfold t_Note__lt
  walk_at "x"
  refine x_isiN T h' ?_
  walk_at "x"
  refine x_Fld h T.cl T.n rfl ?_
  walk_at "x"
  refine x_Fld h' T.cl T.n rfl ?_
  walk_at "x"
  have e : decide (((lenN p c : Nat) : Int) < ((lenN p' c' : Nat) : Int)) = decide (lenN p c < lenN p' c') := by
    rw [decide_eq_decide]
    omega
  rw [e]
  exact q
/-- sorted(notes), a tuple -/
theorem x_sortT {K : PySem.W.Frag} {H : Hp} {Q : VK} {a : Addr} {xs : List V} {ns : List (Nat × Nat)} (h : SqT K H a xs) (r : RpL K H xs (dNs K ns)) (h64 : ns.length < 64)
    (q : ∀ ys ms p H1, RpL K H1 ys (dNs K ms) → ms.Perm ns → ms.Pairwise (fun q q' => lenN q.1 q.2 ≤ lenN q'.1 q'.2) → H p = none → Ex H H1 → H1 p = some (.lst ys) → Q (.ref p) H1) : rSortT K (He.ga K "Note") (sp_Note__lt K) [.ref a] H Q := by
  have hl : xs.length = ns.length := by
    have := r.len
    unfold dNs at this
    rw [List.length_map] at this
    exact this
  have nt : ∀ x ∈ xs, ∃ b p c, x = .ref b ∧ IsN K H b p c := fun x hx => by
    obtain ⟨i, hi, e⟩ := List.mem_iff_getElem.mp hx
    obtain ⟨p, c, b, _, e2, hb⟩ := note_at r (show xs[i]? = some x by rw [List.getElem?_eq_getElem hi, e])
    exact ⟨b, p, c, e2, hb⟩
  refine ⟨a, xs, rkN K H, rfl, h, by omega, fun x hx => ?_, fun x hx y hy H' e => ?_, fun ys p hp hs hn => ?_⟩
  · obtain ⟨b, p, c, e, dx, hb⟩ := nt x hx
    exact ⟨b, dx, _, e, hb⟩
  · obtain ⟨b, p, c, rfl, hb⟩ := nt x hx
    obtain ⟨b', p', c', rfl, hb'⟩ := nt y hy
    refine ⟨b, b', p, c, p', c', rfl, hb.ex e, hb'.ex e, ?_, rfl⟩
    rw [rkN_of hb, rkN_of hb']
    congr 1
    rw [decide_eq_decide]
    omega
  · obtain ⟨ms, pm, rm⟩ := dNs_perm hp r
    refine q ys ms p _ (rm.mono (Ex.new hn)) pm ?_ hn (Ex.new hn) upd_same
    rw [List.pairwise_iff_getElem] at hs ⊢
    intro i j hi hj hij
    have hly : ys.length = ms.length := by
      have := rm.len
      unfold dNs at this
      rw [List.length_map] at this
      exact this
    have := hs i j (by omega) (by omega) hij
    obtain ⟨p1, c1, b1, g1, e1, hb1⟩ := note_at rm (List.getElem?_eq_getElem (show i < ys.length by omega))
    obtain ⟨p2, c2, b2, g2, e2, hb2⟩ := note_at rm (List.getElem?_eq_getElem (show j < ys.length by omega))
    rw [e1, e2, rkN_of hb1, rkN_of hb2] at this
    rw [List.getElem?_eq_getElem hi] at g1
    rw [List.getElem?_eq_getElem hj] at g2
    rw [Option.some.inj g1, Option.some.inj g2]
    show lenN p1 c1 ≤ lenN p2 c2
    omega
end Xl

namespace Xl
open PySem PySem.Spec PyProof.Rows L2
local macro_rules | `(tactic| walk_at "x1") => `(tactic| first
  | ((with_reducible show tVar _ _ _ _); refine x_var rfl ?_)
  | (with_reducible refine x_c ?_)
  | (with_reducible refine x_II ?_)
  | ((with_reducible refine x_sd ?_ ?_); (first | (· first | exact trivial | decide | omega | exact .inl ⟨by omega, by omega⟩ | exact .inr ⟨by omega, by omega⟩ | exact ⟨by omega, by omega⟩ | exact ⟨by decide, by decide, by decide⟩) | rotate_left))
  | (with_reducible refine x_asB ?_)
  | (with_reducible refine x_seq ?_)
  | (with_reducible refine x_asgN ?_)
  | (with_reducible refine x_gN ?_)
  | (with_reducible refine x_asg ?_)
  | (with_reducible refine x_drop ?_)
  | (with_reducible refine x_ret ?_)
  | (with_reducible refine x_retN ?_)
  | (with_reducible refine x_next ?_)
  | (with_reducible refine x_if ?_)
  | (with_reducible refine x_brk ?_)
  | (with_reducible refine x_cont ?_)
  | (with_reducible refine x_opI0 ?_)
  | (with_reducible refine x_opI ?_)
  | (with_reducible refine x_opEq ?_)
  | (with_reducible refine x_opNe ?_)
  | (with_reducible refine x_op ?_)
  | (with_reducible refine x_chain ?_)
  | (with_reducible refine x_unI ?_)
  | (with_reducible refine x_gsub ?_)
  | (with_reducible refine x_callN ?_)
  | ((with_reducible show Cn _ _ _ _ _); refine x_Cn rfl rfl ?_)
  | (with_reducible refine x_dget ?_)
  | (with_reducible refine x_din ?_)
  | (with_reducible refine x_dni ?_)
  | (with_reducible refine x_dput ?_)
  | (with_reducible refine x_lc2L ?_)
  | (with_reducible refine x_sl ?_)
  | (with_reducible refine x_noPart ?_)
  | (with_reducible refine x_part ?_)
  | (with_reducible refine x_asO ?_)
  | (with_reducible refine x_rI0 ?_)
  | (with_reducible refine x_rI ?_)
  | (with_reducible refine x_eqI ?_)
  | (with_reducible refine x_neI ?_)
  | (with_reducible refine x_eqS ?_)
  | (with_reducible refine x_neS ?_)
  | (with_reducible refine x_eqB ?_)
  | (with_reducible refine x_neB ?_)
  | (with_reducible refine x_tst ?_)
  | (with_reducible refine x_tB ?_)
  | (with_reducible refine x_and ?_)
  | (with_reducible refine x_or ?_)
  | (with_reducible refine x_not ?_)
  | (with_reducible refine x_andV ?_)
  | (with_reducible refine x_orV ?_)
  | (with_reducible refine x_notV ?_)
  | (with_reducible refine x_ifE ?_)
  | (with_reducible refine x_nilA ?_)
  | (with_reducible refine x_consA ?_)
  | (with_reducible refine x_tup ?_)
  | (with_reducible refine x_lst ?_)
  | (with_reducible refine x_call ?_)
  | (with_reducible refine x_callD ?_)
  | (with_reducible refine x_cb ?_)
  | (with_reducible refine x_min2 ?_)
  | (with_reducible refine x_max2 ?_)
  | (with_reducible refine x_par ?_)
  | (with_reducible refine x_Par ?_)
  | (with_reducible refine x_par3 ?_)
  | (with_reducible refine x_Par3 ?_)
  | ((with_reducible show tAug _ _ _ _ _ _); refine x_aug rfl ?_)
  | (with_reducible refine x_ipI ?_)
  | (with_reducible refine x_forR1 ?_)
  | (with_reducible refine x_forR2 ?_)
  | (with_reducible refine x_forL ?_)
  | (with_reducible refine x_forT ?_)
  | (with_reducible refine x_lcL ?_)
  | (with_reducible refine x_lcT ?_)
  | (with_reducible refine x_lcR1 ?_)
  | (with_reducible refine x_lcR2 ?_)
  | ((with_reducible refine x_R1 ?_ ?_); (first | (· first | decide | omega) | rotate_left))
  | ((with_reducible refine x_R2 ?_ ?_); (first | (· first | decide | omega) | rotate_left))
  | (with_reducible refine x_yes ?_)
  | (with_reducible refine b_t rfl ?_)
  | (with_reducible refine b_f rfl ?_))
local macro_rules | `(tactic| walk_at "x") => `(tactic| repeat walk_at "x1")
local macro_rules | `(tactic| walk_at "bf") => `(tactic| refine b_f (by first | exact decide_eq_false (by omega) | (simp; done) | (simp; omega)) ?_)
local macro_rules | `(tactic| walk_at "bt") => `(tactic| refine b_t (by first | exact decide_eq_true (by omega) | (simp; done) | (simp; omega)) ?_)

local macro_rules | `(tactic| walk_at "x1") => `(tactic| first
  | (with_reducible refine x_mk ?_)
  | (with_reducible refine x_mkV ?_)
  | (with_reducible refine x_cmeth ?_)
  | (with_reducible refine x_isC ?_)
  | (with_reducible refine x_prop ?_)
  | (with_reducible refine x_fld ?_)
  | (with_reducible refine x_sfld ?_)
  | (with_reducible refine x_fmtD ?_))
local macro_rules | `(tactic| walk_at "x1") => `(tactic| with_reducible refine x_revL ?_)

/-- sorted(notes) -/
theorem x_sortN {K : PySem.W.Frag} {H : Hp} {Q : VK} {a : Addr} {xs : List V} {ns : List (Nat × Nat)} (h : SqL K H a xs) (r : RpL K H xs (dNs K ns)) (h64 : ns.length < 64)
    (q : ∀ ys ms p H1, RpL K H1 ys (dNs K ms) → ms.Perm ns → ms.Pairwise (fun q q' => lenN q.1 q.2 ≤ lenN q'.1 q'.2) → H p = none → Ex H H1 → H1 p = some (.lst ys) → Q (.ref p) H1) : rSortO K (He.ga K "Note") (sp_Note__lt K) [.ref a] H Q := by
  have hl : xs.length = ns.length := by
    have := r.len
    unfold dNs at this
    rw [List.length_map] at this
    exact this
  have nt : ∀ x ∈ xs, ∃ b p c, x = .ref b ∧ IsN K H b p c := fun x hx => by
    obtain ⟨i, hi, e⟩ := List.mem_iff_getElem.mp hx
    obtain ⟨p, c, b, _, e2, hb⟩ := note_at r (show xs[i]? = some x by rw [List.getElem?_eq_getElem hi, e])
    exact ⟨b, p, c, e2, hb⟩
  refine ⟨a, xs, rkN K H, rfl, h, by omega, fun x hx => ?_, fun x hx y hy H' e => ?_, fun ys p hp hs hn => ?_⟩
  · obtain ⟨b, p, c, e, dx, hb⟩ := nt x hx
    exact ⟨b, dx, _, e, hb⟩
  · obtain ⟨b, p, c, rfl, hb⟩ := nt x hx
    obtain ⟨b', p', c', rfl, hb'⟩ := nt y hy
    refine ⟨b, b', p, c, p', c', rfl, hb.ex e, hb'.ex e, ?_, rfl⟩
    rw [rkN_of hb, rkN_of hb']
    congr 1
    rw [decide_eq_decide]
    omega
  · obtain ⟨ms, pm, rm⟩ := dNs_perm hp r
    refine q ys ms p _ (rm.mono (Ex.new hn)) pm ?_ hn (Ex.new hn) upd_same
    rw [List.pairwise_iff_getElem] at hs ⊢
    intro i j hi hj hij
    have hly : ys.length = ms.length := by
      have := rm.len
      unfold dNs at this
      rw [List.length_map] at this
      exact this
    have := hs i j (by omega) (by omega) hij
    obtain ⟨p1, c1, b1, g1, e1, hb1⟩ := note_at rm (List.getElem?_eq_getElem (show i < ys.length by omega))
    obtain ⟨p2, c2, b2, g2, e2, hb2⟩ := note_at rm (List.getElem?_eq_getElem (show j < ys.length by omega))
    rw [e1, e2, rkN_of hb1, rkN_of hb2] at this
    rw [List.getElem?_eq_getElem hi] at g1
    rw [List.getElem?_eq_getElem hj] at g2
    rw [Option.some.inj g1, Option.some.inj g2]
    show lenN p1 c1 ≤ lenN p2 c2
    omega
def sp_Note__le (K : PySem.W.Frag) : Sp := fun vs H Q _ => ∃ (a b : Addr) (p c p' c' : Nat), vs = [.ref a, .ref b] ∧ IsN K H a p c ∧ IsN K H b p' c' ∧ Q (.bl (decide (lenN p c ≤ lenN p' c'))) H
theorem len_Note__le {K : PySem.W.Frag} : ∀ vs H Q E, sp_Note__le K vs H Q E → vs.length = 2 := by
  rintro _ H Q E ⟨_, _, _, _, _, _, rfl, _⟩
  rfl
/-- Note.__le__: self other -/
def t_Note__le (K : PySem.W.Frag) : TS := (tSeq (tIfS (tNot (tB (tCB (rIsi K) (tCons (tVar 1) (tCons (tC (.ref (He.ga K "Note"))) tNil))))) tNo tNext) (tRet (tOp rLe (tFld K (tVar 0) "n") (tFld K (tVar 1) "n"))))

theorem run_Note__le {K : PySem.W.Frag} (T : NtT K) {vs : List V} {H : Hp} {Q : VK} {E : XK} (h : sp_Note__le K vs H Q E) : t_Note__le K { nx := fun _ H' => Q .non H', rt := Q } (start ["self", "other"] vs) H := by
  obtain ⟨a, b, p, c, p', c', rfl, ⟨dx, h⟩, ⟨dy, h'⟩, q⟩ := h
  unfold t_Note__le
  walk_at "x"
  refine x_isiN T h' ?_
  walk_at "x"
  refine x_Fld h T.cl T.n rfl ?_
  walk_at "x"
  refine x_Fld h' T.cl T.n rfl ?_
  walk_at "x"
  have e : decide (((lenN p c : Nat) : Int) ≤ ((lenN p' c' : Nat) : Int)) = decide (lenN p c ≤ lenN p' c') := by
    rw [decide_eq_decide]
    omega
  rw [e]
  exact q
end Xl

/-! == and != of an own object with any other value: its __eq__ gives NotImplemented, the other's too (own work). -/
namespace NiX
open PySem PySem.SeqAt
section
variable {prog : Program} {w : World} {A : Around} {E : Value → Shared → Prop} {P : Fin → Shared → Prop} {s : Shared} {x : Addr} {ox : Obj}
theorem int_eq (v : Value) (hv : (∃ i t, v = .int i t) ∨ ∃ b, v = .bool b) (hx : s.heap.get? x = some ox) (hp : ox.data = .plain) (h : P (.done (.ret .notImplemented)) s) : wpAny (model prog w) A (Builtin.«int.__eq__» ⟨[v, .ref x], []⟩) P E s := by
  obtain ⟨cls, dict, data, sl⟩ := ox
  simp only at hp
  subst hp
  obtain ⟨hp, g, d, tk, os⟩ := s
  rcases hv with ⟨i, t, rfl⟩ | ⟨b, rfl⟩
  · wp_walk using AutoSeq1.wpAny_loadPart' hx
    exact h
  · wp_walk using AutoSeq1.wpAny_loadPart' hx
    exact h
theorem int_ne (v : Value) (hv : (∃ i t, v = .int i t) ∨ ∃ b, v = .bool b) (hx : s.heap.get? x = some ox) (hp : ox.data = .plain) (h : P (.done (.ret .notImplemented)) s) : wpAny (model prog w) A (Builtin.«int.__ne__» ⟨[v, .ref x], []⟩) P E s := by
  obtain ⟨cls, dict, data, sl⟩ := ox
  simp only at hp
  subst hp
  obtain ⟨hp, g, d, tk, os⟩ := s
  rcases hv with ⟨i, t, rfl⟩ | ⟨b, rfl⟩
  · wp_walk using AutoSeq1.wpAny_loadPart' hx
    exact h
  · wp_walk using AutoSeq1.wpAny_loadPart' hx
    exact h
theorem str_eq (z : Str) (t : Tok) (hx : s.heap.get? x = some ox) (hp : ox.data = .plain) (h : P (.done (.ret .notImplemented)) s) : wpAny (model prog w) A (Builtin.«str.__eq__» ⟨[.str z t, .ref x], []⟩) P E s := by
  obtain ⟨cls, dict, data, sl⟩ := ox
  simp only at hp
  subst hp
  obtain ⟨hp, g, d, tk, os⟩ := s
  wp_walk using AutoSeq1.wpAny_loadPart' hx
  exact h
theorem str_ne (z : Str) (t : Tok) (hx : s.heap.get? x = some ox) (hp : ox.data = .plain) (h : P (.done (.ret .notImplemented)) s) : wpAny (model prog w) A (Builtin.«str.__ne__» ⟨[.str z t, .ref x], []⟩) P E s := by
  obtain ⟨cls, dict, data, sl⟩ := ox
  simp only at hp
  subst hp
  obtain ⟨hp, g, d, tk, os⟩ := s
  wp_walk using AutoSeq1.wpAny_loadPart' hx
  exact h
theorem non_eq (h : P (.done (.ret .notImplemented)) s) : wpAny (model prog w) A (Builtin.«NoneType.__eq__» ⟨[.none, .ref x], []⟩) P E s := by
  obtain ⟨hp, g, d, tk, os⟩ := s
  wp_walk
  exact h
theorem non_ne (h : P (.done (.ret .notImplemented)) s) : wpAny (model prog w) A (Builtin.«NoneType.__ne__» ⟨[.none, .ref x], []⟩) P E s := by
  obtain ⟨hp, g, d, tk, os⟩ := s
  wp_walk
  exact h
theorem lst_eq (l : Addr) (hi : ∀ R : Bool → Shared → Prop, R false s → wpAny (model prog w) A (isInstance (.ref x) (.type "list")) R E s) (h : P (.done (.ret .notImplemented)) s) : wpAny (model prog w) A (Builtin.«list.__eq__» ⟨[.ref l, .ref x], []⟩) P E s := by
  obtain ⟨hp, g, d, tk, os⟩ := s
  wp_walk using hi
  exact h
theorem lst_ne (l : Addr) (hi : ∀ R : Bool → Shared → Prop, R false s → wpAny (model prog w) A (isInstance (.ref x) (.type "list")) R E s) (h : P (.done (.ret .notImplemented)) s) : wpAny (model prog w) A (Builtin.«list.__ne__» ⟨[.ref l, .ref x], []⟩) P E s := by
  obtain ⟨hp, g, d, tk, os⟩ := s
  wp_walk using hi
  exact h
theorem tup_eq (l : Addr) (hi : ∀ R : Bool → Shared → Prop, R false s → wpAny (model prog w) A (isInstance (.ref x) (.type "tuple")) R E s) (h : P (.done (.ret .notImplemented)) s) : wpAny (model prog w) A (Builtin.«tuple.__eq__» ⟨[.ref l, .ref x], []⟩) P E s := by
  obtain ⟨hp, g, d, tk, os⟩ := s
  wp_walk using hi
  exact h
theorem tup_ne (l : Addr) (hi : ∀ R : Bool → Shared → Prop, R false s → wpAny (model prog w) A (isInstance (.ref x) (.type "tuple")) R E s) (h : P (.done (.ret .notImplemented)) s) : wpAny (model prog w) A (Builtin.«tuple.__ne__» ⟨[.ref l, .ref x], []⟩) P E s := by
  obtain ⟨hp, g, d, tk, os⟩ := s
  wp_walk using hi
  exact h
/-- the six kinds of other values -/
inductive Kd (s : Shared) : Value → String → Prop
  | int (i : Int) (t : Tok) : Kd s (.int i t) "int"
  | bool (b : Bool) : Kd s (.bool b) "bool"
  | non : Kd s .none "NoneType"
  | str (z : Str) (t : Tok) : Kd s (.str z t) "str"
  | lst (l : Addr) (h : s.TypeIs (.ref l) "list") : Kd s (.ref l) "list"
  | tup (l : Addr) (h : s.TypeIs (.ref l) "tuple") : Kd s (.ref l) "tuple"
theorem Kd.is {v : Value} {T : String} (h : Kd s v T) : s.TypeIs v T := by
  cases h with
  | int => rfl
  | bool => rfl
  | non => rfl
  | str => rfl
  | lst l h => exact h
  | tup l h => exact h
theorem Kd.mem {v : Value} {T : String} (h : Kd s v T) : T ∈ ["int", "bool", "NoneType", "str", "list", "tuple"] := by
  cases h <;> decide
end
end NiX
namespace Xl
open PySem PySem.Spec PyProof.Rows L2 HotX L2H
/-- what is known of the class beside the builtin types -/
structure NiC (K : PySem.W.Frag) (C : Addr) : Prop where
  sub : ∀ n ∈ ["int", "bool", "NoneType", "str", "list", "tuple"], PySem.W.subIn K (.type n) (.ref C) = some false
  mro : PySem.W.mroIn K C (.type "object") = some true
  ml : PySem.W.mroIn K C (.type "list") = some false
  mt : PySem.W.mroIn K C (.type "tuple") = some false
  ne : PySem.W.findIn K (.ref C) "__ne__" = some (some (.builtin "object.__ne__"))
  gt : PySem.W.findIn K (.ref C) "__gt__" = some (some (.builtin "object.__gt__"))
  ge : PySem.W.findIn K (.ref C) "__ge__" = some (some (.builtin "object.__ge__"))
def nicB (K : PySem.W.Frag) (C : Addr) : Bool := (["int", "bool", "NoneType", "str", "list", "tuple"].all fun n => decide (PySem.W.subIn K (.type n) (.ref C) = some false)) && (decide (PySem.W.mroIn K C (.type "object") = some true) && (decide (PySem.W.mroIn K C (.type "list") = some false) && (decide (PySem.W.mroIn K C (.type "tuple") = some false) &&
  (He.eqO (PySem.W.findIn K (.ref C) "__ne__") (some (some (.builtin "object.__ne__"))) && (He.eqO (PySem.W.findIn K (.ref C) "__gt__") (some (some (.builtin "object.__gt__"))) && He.eqO (PySem.W.findIn K (.ref C) "__ge__") (some (some (.builtin "object.__ge__"))))))))
theorem nicB_ok {K : PySem.W.Frag} {C : Addr} (h : nicB K C = true) : NiC K C := by
  obtain ⟨h1, h⟩ := He.ba h
  obtain ⟨h2, h⟩ := He.ba h
  obtain ⟨h3, h⟩ := He.ba h
  obtain ⟨h4, h⟩ := He.ba h
  obtain ⟨h5, h⟩ := He.ba h
  obtain ⟨h6, h7⟩ := He.ba h
  exact ⟨fun n hn => of_decide_eq_true (List.all_eq_true.mp h1 n hn), of_decide_eq_true h2, of_decide_eq_true h3, of_decide_eq_true h4, He.eqO_ok h5, He.eqO_ok h6, He.eqO_ok h7⟩
section
variable {prog : Program} {w : World} {A : Around} {E : Value → Shared → Prop} {s : Shared} {K : PySem.W.Frag} {x C f : Addr} {ox : Obj} {od : Option Obj}
/-- the other value's own comparison gives nothing -/
theorem other_ni {v : Value} {T : String} {Q : Option Value → Shared → Prop} (X : K.In s.heap) (I : PySem.W.InstAt s.heap x ox C od) (hp : ox.data = .plain) (N : NiC K C) (hv : NiX.Kd s v T) (op : CmpOp) (hop : op = .Eq ∨ op = .NotEq) (h : Q none s) :
    wpAny (model prog w) A (tryCompare v (cmpInfo op).2.2 (.ref x)) Q E s := by
  have hx : s.heap.get? x = some ox := I.at_
  have L1 : PySem.W.Looks (model prog w) s.heap (isInstance (.ref x) (.type "list")) false := I.type.andThen (f := fun t => isSubtype t (.type "list")) (PySem.W.looks_mroIn X N.ml)
  have L2 : PySem.W.Looks (model prog w) s.heap (isInstance (.ref x) (.type "tuple")) false := I.type.andThen (f := fun t => isSubtype t (.type "tuple")) (PySem.W.looks_mroIn X N.mt)
  have tt := hv.is
  rcases hop with rfl | rfl
  · cases hv with
    | int i t => exact wpAny_tryCompare_declines tt PySem.F.slot_int_eq_refl (GQ.call_here PySem.F.slot_int_eq_refl tt PySem.F.entry_int_eq (PySem.F.args_int_eq_2 _ _) (NiX.int_eq _ (.inl ⟨_, _, rfl⟩) hx hp ⟨rfl, h⟩))
    | bool b => exact wpAny_tryCompare_declines tt PySem.F.slot_bool_eq_refl (GQ.call_here PySem.F.slot_bool_eq_refl tt PySem.F.entry_int_eq (PySem.F.args_int_eq_2 _ _) (NiX.int_eq _ (.inr ⟨_, rfl⟩) hx hp ⟨rfl, h⟩))
    | non => exact wpAny_tryCompare_declines tt PySem.F.slot_NoneType_eq_refl (GQ.call_here PySem.F.slot_NoneType_eq_refl tt PySem.F.entry_NoneType_eq (PySem.F.args_NoneType_eq_2 _ _) (NiX.non_eq ⟨rfl, h⟩))
    | str z t => exact wpAny_tryCompare_declines tt PySem.F.slot_str_eq_refl (GQ.call_here PySem.F.slot_str_eq_refl tt PySem.F.entry_str_eq (PySem.F.args_str_eq_2 _ _) (NiX.str_eq _ _ hx hp ⟨rfl, h⟩))
    | lst l _ => exact wpAny_tryCompare_declines tt PySem.F.slot_list_eq_refl (GQ.call_here PySem.F.slot_list_eq_refl tt PySem.F.entry_list_eq (PySem.F.args_list_eq_2 _ _) (NiX.lst_eq l (fun R q => L1.here q) ⟨rfl, h⟩))
    | tup l _ => exact wpAny_tryCompare_declines tt PySem.F.slot_tuple_eq_refl (GQ.call_here PySem.F.slot_tuple_eq_refl tt PySem.F.entry_tuple_eq (PySem.F.args_tuple_eq_2 _ _) (NiX.tup_eq l (fun R q => L2.here q) ⟨rfl, h⟩))
  · cases hv with
    | int i t => exact wpAny_tryCompare_declines tt PySem.F.slot_int_ne_refl (GQ.call_here PySem.F.slot_int_ne_refl tt PySem.F.entry_int_ne (PySem.F.args_int_ne_2 _ _) (NiX.int_ne _ (.inl ⟨_, _, rfl⟩) hx hp ⟨rfl, h⟩))
    | bool b => exact wpAny_tryCompare_declines tt PySem.F.slot_bool_ne_refl (GQ.call_here PySem.F.slot_bool_ne_refl tt PySem.F.entry_int_ne (PySem.F.args_int_ne_2 _ _) (NiX.int_ne _ (.inr ⟨_, rfl⟩) hx hp ⟨rfl, h⟩))
    | non => exact wpAny_tryCompare_declines tt PySem.F.slot_NoneType_ne_refl (GQ.call_here PySem.F.slot_NoneType_ne_refl tt PySem.F.entry_NoneType_ne (PySem.F.args_NoneType_ne_2 _ _) (NiX.non_ne ⟨rfl, h⟩))
    | str z t => exact wpAny_tryCompare_declines tt PySem.F.slot_str_ne_refl (GQ.call_here PySem.F.slot_str_ne_refl tt PySem.F.entry_str_ne (PySem.F.args_str_ne_2 _ _) (NiX.str_ne _ _ hx hp ⟨rfl, h⟩))
    | lst l _ => exact wpAny_tryCompare_declines tt PySem.F.slot_list_ne_refl (GQ.call_here PySem.F.slot_list_ne_refl tt PySem.F.entry_list_ne (PySem.F.args_list_ne_2 _ _) (NiX.lst_ne l (fun R q => L1.here q) ⟨rfl, h⟩))
    | tup l _ => exact wpAny_tryCompare_declines tt PySem.F.slot_tuple_ne_refl (GQ.call_here PySem.F.slot_tuple_ne_refl tt PySem.F.entry_tuple_ne (PySem.F.args_tuple_ne_2 _ _) (NiX.tup_ne l (fun R q => L2.here q) ⟨rfl, h⟩))
theorem same_ni {v : Value} {T : String} {Q : Bool → Shared → Prop} (I : PySem.W.InstAt s.heap x ox C od) (hv : NiX.Kd s v T) (h : Q false s) : wpAny (model prog w) A (isSame (.ref x) v) Q E s := by
  have hc : ox.cls ≠ .type "tuple" := by
    rw [I.cls]
    intro z
    cases z
  have other : ∀ (l : Addr) (T : String), s.TypeIs (.ref l) T → wpAny (model prog w) A (isSame (.ref x) (.ref l)) Q E s := fun l T ht => by
    obtain ⟨o, ho, hT⟩ := ht
    have hne : x ≠ l := fun z => by
      subst z
      rw [I.at_] at ho
      have := Option.some.inj ho
      subst this
      rw [I.cls] at hT
      cases hT
    exact wpAny_isSame_ref_other hne I.at_ ho hc h
  cases hv with
  | int i t => exact wpAny_pure h
  | bool b => exact wpAny_pure h
  | non => exact wpAny_pure h
  | str z t => exact wpAny_pure h
  | lst l ht => exact other l _ ht
  | tup l ht => exact other l _ ht
/-- o == v: neither side knows the other -/
theorem eq_ni {v : Value} {T : String} {Q : Value → Shared → Prop} {J : Shared → Prop} (hu : A.units < cLine) (X : K.In s.heap) (I : PySem.W.InstAt s.heap x ox C od) (N : NiC K C) (hv : NiX.Kd s v T)
    (hs : PySem.W.findIn K (.ref C) "__eq__" = some (some (.ref f))) (hf : PySem.W.isFn K (.ref f) = true) (h : wpAny (model prog w) A (call (.ref f) [.ref x, v]) (fun r s' => r = .notImplemented ∧ J s') E s)
    (hJ : ∀ s', J s' → K.In s'.heap ∧ (∃ ox od, PySem.W.InstAt s'.heap x ox C od ∧ ox.data = .plain) ∧ NiX.Kd s' v T ∧ Q (.bool false) s') : wpAny (model prog w) A (richCompare .Eq (.ref x) v) Q E s := by
  unfold richCompare
  simp only [oneThing_ref]
  refine wpAny_holding (wpAny_bind (wpAny_cRoomFor hu ?_))
  rw [cmpInfo_Eq]
  dsimp only
  have tt := hv.is
  refine wpAny_bind (I.type.here (wpAny_bind (wpAny_typeOf tt ?_)))
  rw [show (Value.ref C != Value.type T) = true from by simp]
  simp only [if_true]
  refine wpAny_bind ((PySem.W.looks_subIn X (N.sub T hv.mem)).here ?_)
  simp only [Bool.false_eq_true, if_false]
  refine wpAny_bind (m := tryCompare (.ref x) "__eq__" v) ?_
  unfold tryCompare
  refine wpAny_bind (PySem.W.ifBound_K X I hs hf (wpAny_mono h (fun r s' hr => ?_) fun _ _ e => e))
  obtain ⟨rfl, j⟩ := hr
  obtain ⟨X', ⟨ox', od', I', hp'⟩, hv', hq⟩ := hJ s' j
  refine wpAny_pure ?_
  simp only [Bool.not_false, if_true]
  refine wpAny_bind (m := tryCompare v "__eq__" (.ref x)) ?_
  refine other_ni (op := .Eq) X' I' hp' N hv' (.inl rfl) ?_
  refine wpAny_bind (wpAny_rule (wpAny_bind (same_ni I' hv' (wpAny_pure hq))))
/-- an attribute of the class that is object's own slot -/
theorem ifBound_slot {M : Model} {m : Str} {id : String} {args : List Value} {Q : Option Value → Shared → Prop} (S : Slot "object" m id) (X : K.In s.heap) (I : PySem.W.InstAt s.heap x ox C od) (hs : PySem.W.findIn K (.ref C) m = some (some (.builtin id)))
    (h : wpAny M A (call (.builtin id) (.ref x :: args)) (fun v => Q (some v)) E s) : wpAny M A (callSpecialIfBound? (.ref x) m args) Q E s := by
  simp only [callSpecialIfBound?, bindSpecialIfBound?]
  refine wpAny_holding (wpAny_bind (wpAny_bind (wpAny_bind (I.type.here ((PySem.W.looks_findIn X hs).here ?_)))))
  refine wpAny_bind (wpAny_askSetting (wpAny_ite ?_))
  have fin : wpAny M A (call (.builtin id) ([.ref x] ++ args) >>= fun v => pure (some v)) Q E s := wpAny_bind (wpAny_mono h (fun v s' h' => wpAny_pure h') fun _ _ h' => h')
  split
  · exact wpAny_bind (wpAny_of_eq (S.bind _) (wpAny_pure (by exact fin)))
  · exact wpAny_tryCatch (wpAny_bind (wpAny_of_eq (S.bind _) (wpAny_pure (by exact fin))))
theorem entry_ni {v : Value} {Q : PySem.Fin → Shared → Prop} {J : Shared → Prop} (hu : A.units < cLine) (X : K.In s.heap) (I : PySem.W.InstAt s.heap x ox C od) (hs : PySem.W.findIn K (.ref C) "__eq__" = some (some (.ref f))) (hf : PySem.W.isFn K (.ref f) = true)
    (h : wpAny (model prog w) A (call (.ref f) [.ref x, v]) (fun r s' => r = .notImplemented ∧ J s') E s) (fin : ∀ s', J s' → Q (.done (.ret .notImplemented)) s') :
    wpAny (model prog w) A (Builtin.«object.__ne__» ⟨[.ref x, v], []⟩) Q E s := by
  unfold Builtin.«object.__ne__»
  repeat (first
    | with_reducible refine wpAny_cRoomFor hu ?_
    | (refine wpAny_bind (m := callSpecialIfBound? (.ref x) (Str.ofString "__eq__") [v])
        (PySem.W.ifBound_K X I hs hf (wpAny_mono h (fun r s' hr => by
          obtain ⟨rfl, hj⟩ := hr
          have hq := fin s' hj
          repeat (first | exact hq | exact wpAny_pure hq | wp_step)) fun _ _ e => e)))
    | wp_step)
theorem ne_ni {v : Value} {T : String} {Q : Value → Shared → Prop} {J : Shared → Prop} (hu : A.units + 1 < cLine) (X : K.In s.heap) (I : PySem.W.InstAt s.heap x ox C od) (N : NiC K C) (hv : NiX.Kd s v T)
    (hs : PySem.W.findIn K (.ref C) "__eq__" = some (some (.ref f))) (hf : PySem.W.isFn K (.ref f) = true) (h : wpAny (model prog w) A.in1 (call (.ref f) [.ref x, v]) (fun r s' => r = .notImplemented ∧ J s') E s)
    (hJ : ∀ s', J s' → K.In s'.heap ∧ (∃ ox od, PySem.W.InstAt s'.heap x ox C od ∧ ox.data = .plain) ∧ NiX.Kd s' v T ∧ Q (.bool true) s') : wpAny (model prog w) A (richCompare .NotEq (.ref x) v) Q E s := by
  unfold richCompare
  simp only [oneThing_ref]
  refine wpAny_holding (wpAny_bind (wpAny_cRoomFor (Nat.lt_of_succ_lt hu) ?_))
  rw [cmpInfo_NotEq]
  dsimp only
  have tt := hv.is
  refine wpAny_bind (I.type.here (wpAny_bind (wpAny_typeOf tt ?_)))
  rw [show (Value.ref C != Value.type T) = true from by simp]
  simp only [if_true]
  refine wpAny_bind ((PySem.W.looks_subIn X (N.sub T hv.mem)).here ?_)
  simp only [Bool.false_eq_true, if_false]
  refine wpAny_bind (m := tryCompare (.ref x) "__ne__" v) ?_
  unfold tryCompare
  refine wpAny_bind (ifBound_slot F.cmp_object.ne X I N.ne (wpAny_call (codeAny_call_builtin F.cmp_object.ne.plain F.cmpEntry_ne (PySem.W.check_slot F.cmpKind_ne F.cmpSplit_ne (I.type.andThen (PySem.W.looks_mroIn X N.mro)) (F.cmpArgs_ne _ _)
    (entry_ni (A := A.in1) hu X I hs hf h fun s' j => ?_)))))
  obtain ⟨X', ⟨ox', od', I', hp'⟩, hv', hq⟩ := hJ s' j
  refine wpAny_pure ?_
  simp only [Bool.not_false, if_true]
  refine wpAny_bind (m := tryCompare v "__ne__" (.ref x)) ?_
  refine other_ni (op := .NotEq) X' I' hp' N hv' (.inr rfl) ?_
  refine wpAny_bind (wpAny_rule (wpAny_bind (same_ni I' hv' (wpAny_pure hq))))
end
/-! ### > and >=, by the other's < and <= -/
theorem cmpEntry_gt : entryFor table "object.__gt__" = some Builtin.«object.__gt__» := entryFor_of_tree (by kernel_rfl)
theorem cmpEntry_ge : entryFor table "object.__ge__" = some Builtin.«object.__ge__» := entryFor_of_tree (by kernel_rfl)
theorem cmpKind_gt : builtinKind "object.__gt__" = some .slot := by decide +kernel
theorem cmpKind_ge : builtinKind "object.__ge__" = some .slot := by decide +kernel
theorem cmpSplit_gt : splitId "object.__gt__" = some ("object", "__gt__") := by decide +kernel
theorem cmpSplit_ge : splitId "object.__ge__" = some ("object", "__ge__") := by decide +kernel
theorem cmpArgs_gt (a b : Value) : argsOk "object.__gt__" ⟨[a, b], []⟩ := by unfold argsOk; kernel_rfl
theorem cmpArgs_ge (a b : Value) : argsOk "object.__ge__" ⟨[a, b], []⟩ := by unfold argsOk; kernel_rfl
theorem slot_gt : Slot "object" "__gt__" "object.__gt__" := .of (owner := "object") (n := "__gt__") (by rw [typeLookup_type, builtinLookup_eq_fast]; kernel_rfl) (by decide +kernel) (by decide +kernel) (by decide +kernel)
  (by first | exact .inl (by decide +kernel) | exact .inr (by decide +kernel)) (by rw [isSubtype_type]; kernel_rfl)
theorem slot_ge : Slot "object" "__ge__" "object.__ge__" := .of (owner := "object") (n := "__ge__") (by rw [typeLookup_type, builtinLookup_eq_fast]; kernel_rfl) (by decide +kernel) (by decide +kernel) (by decide +kernel)
  (by first | exact .inl (by decide +kernel) | exact .inr (by decide +kernel)) (by rw [isSubtype_type]; kernel_rfl)
section
variable {prog : Program} {w : World} {A : Around} {E : Value → Shared → Prop} {s : Shared} {K : PySem.W.Frag} {x y C f : Addr} {ox oy : Obj} {od od' : Option Obj}
theorem entry_gt {v : Value} {P : PySem.Fin → Shared → Prop} (h : P (.done (.ret .notImplemented)) s) : wpAny (model prog w) A (Builtin.«object.__gt__» ⟨[.ref x, v], []⟩) P E s := by
  obtain ⟨hp, g, d, tk, os⟩ := s
  wp_walk
  exact h
theorem entry_ge {v : Value} {P : PySem.Fin → Shared → Prop} (h : P (.done (.ret .notImplemented)) s) : wpAny (model prog w) A (Builtin.«object.__ge__» ⟨[.ref x, v], []⟩) P E s := by
  obtain ⟨hp, g, d, tk, os⟩ := s
  wp_walk
  exact h
theorem refl_own {op : CmpOp} {m r : Str} {id : String} {sym : String} {Q : Value → Shared → Prop} (hi : cmpInfo op = (sym, m, r)) (S : Slot "object" m id) (hN : PySem.W.findIn K (.ref C) m = some (some (.builtin id)))
    (he : ∀ (P : PySem.Fin → Shared → Prop), P (.done (.ret .notImplemented)) s → wpAny (model prog w) A (call (.builtin id) [.ref x, .ref y]) (fun r s' => r = .notImplemented ∧ s' = s) E s)
    (hu : A.units < cLine) (X : K.In s.heap) (I : PySem.W.InstAt s.heap x ox C od) (J : PySem.W.InstAt s.heap y oy C od') (hs : PySem.W.findIn K (.ref C) r = some (some (.ref f))) (hf : PySem.W.isFn K (.ref f) = true)
    (h : wpAny (model prog w) A (call (.ref f) [.ref y, .ref x]) (fun v s' => ∃ b, v = .bool b ∧ Q (.bool b) s') E s) : wpAny (model prog w) A (richCompare op (.ref x) (.ref y)) Q E s := by
  unfold richCompare
  simp only [oneThing_ref]
  refine wpAny_holding (wpAny_bind (wpAny_cRoomFor hu ?_))
  rw [hi]
  dsimp only
  refine wpAny_bind (I.type.here (wpAny_bind (J.type.here ?_)))
  rw [show (Value.ref C != Value.ref C) = false from by simp]
  simp only [Bool.false_eq_true, if_false]
  refine wpAny_bind (wpAny_pure ?_)
  simp only [Bool.false_eq_true, if_false]
  refine wpAny_bind (m := tryCompare (.ref x) m (.ref y)) ?_
  unfold tryCompare
  refine wpAny_bind (ifBound_slot S X I hN (wpAny_mono (he (fun _ _ => True) trivial) (fun v s' hv => ?_) fun _ _ e => e))
  obtain ⟨rfl, rfl⟩ := hv
  refine wpAny_pure ?_
  simp only [Bool.not_false, if_true]
  refine wpAny_bind (m := tryCompare (.ref y) r (.ref x)) ?_
  unfold tryCompare
  refine wpAny_bind (PySem.W.ifBound_K X J hs hf (wpAny_mono h (fun v s' hv => ?_) fun _ _ e => e))
  obtain ⟨b, rfl, hq⟩ := hv
  exact wpAny_pure (wpAny_pure hq)
end
section
variable {X : Cx} {k : Nat} {ps : List Str} {sp : Sp} {x : Str}
/-- two instances of the class at C, the second asked about the first -/
def rOwnR (C : Addr) (sp : Sp) : R2 := fun x y H Q => ∃ a b dx dy fs gs, x = .ref a ∧ y = .ref b ∧ H a = some (.ins C dx fs) ∧ H b = some (.ins C dy gs) ∧ sp [.ref b, .ref a] H (fun v H' => ∃ r, v = .bl r ∧ Q (.bl r) H') E0
theorem op_gtOwn (c : CalT X.prog X.w X.K X.mg X.base x "__lt__" k ps sp) (N : NiC X.K (He.ga X.K x)) (hr : Room k X.A) : OpR X (compareOp .Gt) (rOwnR (He.ga X.K x) sp) := by
  intro pins s σ H y z u v Q I ry rz h
  obtain ⟨a, b, dx, dy, fs, gs, rfl, rfl, ha, hb, hq⟩ := h
  cases ry
  cases rz
  obtain ⟨g, fd, C, M, bd, F⟩ := c.ex
  obtain ⟨mA, J, _⟩ := ins_get I.hok ha
  obtain ⟨mB, J', _⟩ := ins_get I.hok hb
  obtain ⟨od, J, _⟩ := J.look
  obtain ⟨od', J', _⟩ := J'.look
  show wpAny _ X.A (richCompare .Gt (.ref a) (.ref b)) _ _ s
  refine refl_own (op := .Gt) (sym := ">") (m := "__gt__") (r := "__lt__") rfl slot_gt N.gt (fun P _ => wpAny_call (codeAny_call_builtin slot_gt.plain cmpEntry_gt (PySem.W.check_slot cmpKind_gt cmpSplit_gt (J.type.andThen (PySem.W.looks_mroIn I.kIn N.mro)) (cmpArgs_gt _ _) (entry_gt ⟨rfl, rfl⟩)))) (Nat.lt_of_succ_lt (hu_of hr)) I.kIn J J' M.at_ M.fn ?_
  refine wpAny_mono (run_own F bd hr rfl I hq) (fun v s' z => ?_) fun _ _ e => e
  obtain ⟨w, H', I', rw, b, rfl, q⟩ := z
  cases rw
  exact ⟨b, rfl, .bl b, H', I', rfl, q⟩
theorem op_geOwn (c : CalT X.prog X.w X.K X.mg X.base x "__le__" k ps sp) (N : NiC X.K (He.ga X.K x)) (hr : Room k X.A) : OpR X (compareOp .GtE) (rOwnR (He.ga X.K x) sp) := by
  intro pins s σ H y z u v Q I ry rz h
  obtain ⟨a, b, dx, dy, fs, gs, rfl, rfl, ha, hb, hq⟩ := h
  cases ry
  cases rz
  obtain ⟨g, fd, C, M, bd, F⟩ := c.ex
  obtain ⟨mA, J, _⟩ := ins_get I.hok ha
  obtain ⟨mB, J', _⟩ := ins_get I.hok hb
  obtain ⟨od, J, _⟩ := J.look
  obtain ⟨od', J', _⟩ := J'.look
  show wpAny _ X.A (richCompare .GtE (.ref a) (.ref b)) _ _ s
  refine refl_own (op := .GtE) (sym := ">=") (m := "__ge__") (r := "__le__") rfl slot_ge N.ge (fun P _ => wpAny_call (codeAny_call_builtin slot_ge.plain cmpEntry_ge (PySem.W.check_slot cmpKind_ge cmpSplit_ge (J.type.andThen (PySem.W.looks_mroIn I.kIn N.mro)) (cmpArgs_ge _ _) (entry_ge ⟨rfl, rfl⟩)))) (Nat.lt_of_succ_lt (hu_of hr)) I.kIn J J' M.at_ M.fn ?_
  refine wpAny_mono (run_own F bd hr rfl I hq) (fun v s' z => ?_) fun _ _ e => e
  obtain ⟨w, H', I', rw, b, rfl, q⟩ := z
  cases rw
  exact ⟨b, rfl, .bl b, H', I', rfl, q⟩
end
end Xl

namespace Xl
open PySem PySem.Spec PyProof.Rows L2 HotX L2H
/-! ### the own __eq__ of another value: NotImplemented -/
section
variable {P : Program} {w : World} {K : PySem.W.Frag} {mg : Str → Option Value} {base : Heap}
/-- the def at f, given two values that fit nq, gives NotImplemented and leaves the heap -/
def FnNI (P : Program) (w : World) (K : PySem.W.Frag) (mg : Str → Option Value) (base : Heap) (k : Nat) (f : Addr) (nq : V → V → Hp → Prop) : Prop :=
  ∀ (A : Around) (outer : List Env) (s : Shared) (H : Hp) (v0 v1 : V) (u0 u1 : Value), Room k A → Env0 P w K mg base A outer s H → Vals [v0, v1] [u0, u1] → nq v0 v1 H →
    codeAny (model P w) A (.call (.ref f) ⟨[u0, u1], []⟩) (fun r s' => match r with | .error e => CR CX0 outer P w H s (fun _ _ => False) E0 (.error e) s' | .ok fl => fl = .ret .notImplemented ∧ CE outer P w H s (fun v H' => v = .non ∧ H' = H) Value.none s') s
variable {x qual : Str} {params : Arguments} {rest : List Stmt} {scope : Scope} {f : Addr} {fd : FuncData}
theorem ni_of {N : List Str} {p0 p1 : Str} {k : Nat} {nq : V → V → Hp → Prop} {c : Expr} {tc : TT} {q1 q2 q3 : Pos} (F : FunD K x qual params (.If c [.Return (some (.Name "NotImplemented" q1)) q2] [] q3 :: rest) scope [] [] f fd) (S : FnScope N [p0, p1] scope) (hb : Binds K fd [p0, p1] [])
    (hm : mg "NotImplemented" = none) (hg : ∀ (cdv : Value) (A : Around) (outer : List Env) (s : Shared) (H : Hp), Gl (cxOf CX0 P w K mg base N qual scope f cdv A outer s H E0) "NotImplemented")
    (hc : ∀ (cdv : Value) (A : Around) (outer : List Env) (s : Shared) (H : Hp), Room k (A.deeper (envOfC qual scope s.heap.objs.size f cdv)) → PT (cxOf CX0 P w K mg base N qual scope f cdv A outer s H E0) c tc)
    (ht : ∀ v0 v1 H, nq v0 v1 H → tc (L2.start N [v0, v1]) H fun b H' => b = true ∧ H' = H) : FnNI P w K mg base (k + 1) f nq := by
  intro A outer s H v0 v1 u0 u1 hr e0 r hn
  obtain ⟨oc, od, dV, kV, doc, pm, an, cdv, ct, osl, rfl, lk, hcd, _, _⟩ := F.ex
  have KX : K.In s.heap := e0.mod.kin.keeps fun b o e => (e0.bs b o e).1
  have lim : s.heap.NoLimit := e0.mod.nolimit.keeps fun b o e => (e0.bs b o e).1
  have hkind : ∀ y ∈ [p0, p1].zip [u0, u1], scope.names.lookup y.1 = some .local ∨ (scope.names.lookup y.1 = some .cell ∧ ((cellsFrom (s.heap.objs.size + 1) scope.names []).lookup y.1).isSome = true) := fun ⟨n, v⟩ hy => by
    rcases S.par n (List.of_mem_zip hy).1 with q | q
    · exact .inl q
    · exact .inr ⟨q, PySem.W.cellsFrom_some _ _ _ (.inl q)⟩
  have hbb := hb s [u0, u1] KX rfl
  simp only [List.append_nil] at hbb
  refine codeAny_call_function hr.depth (KX _ _ lk) rfl S.co S.gen rfl (PySem.W.codeRec_of KX hcd) (hbb _ _ _ _ ?_)
  refine wpAny_newFunctionEnv_cells S.kind hkind fun env he s1 xx => ?_
  subst he
  refine ⟨lim.keeps xx.toInCall.keep, codeAny_func ?_⟩
  have I : Inv (cxOf CX0 P w K mg base N qual scope f cdv A outer s H E0) [] (L2.start N [v0, v1]) H s1 := inv_start S hr.hd e0 rfl r xx
  have hIf : wpAny (model P w) (cxOf CX0 P w K mg base N qual scope f cdv A outer s H E0).A (exec (.If c [.Return (some (.Name "NotImplemented" q1)) q2] [] q3) (cxOf CX0 P w K mg base N qual scope f cdv A outer s H E0).env)
      (fun fl s' => fl = .ret .notImplemented ∧ Inv (cxOf CX0 P w K mg base N qual scope f cdv A outer s H E0) [] (L2.start N [v0, v1]) H s') (cxOf CX0 P w K mg base N qual scope f cdv A outer s H E0).xe s1 :=
    wpAny_If (thn ((hc cdv A outer s H (hr.deeper _)).run [] s1 _ H _ I (ht v0 v1 H hn)) fun d s2 ⟨H1, I1, q⟩ => by
      obtain ⟨rfl, rfl⟩ := q
      exact wpAny_execs_cons (wpAny_Return_some (ld_blt I1 (hg _ _ _ _ _) hm (by rfl) ⟨rfl, I1⟩)))
  refine wpAny_mono (wpAny_execs_cons (thn hIf fun fl s' h => ?_)) (fun fl s' (hs : fl = .ret .notImplemented ∧ Inv (cxOf CX0 P w K mg base N qual scope f cdv A outer s H E0) [] (L2.start N [v0, v1]) H s') => ?_) fun e s' hs => hs
  · obtain ⟨rfl, J⟩ := h
    exact ⟨rfl, J⟩
  · obtain ⟨rfl, J⟩ := hs
    exact ⟨rfl, .non, H, J.os, J.bare, J.base, J.hok, rfl, rfl, rfl⟩
end
section
variable (P : Program) (w : World) (K : PySem.W.Frag) (mg : Str → Option Value) (base : Heap)
/-- x's own __eq__ gives NotImplemented for another value -/
structure CalNI (x : Str) (k : Nat) : Prop where
  ex : ∃ g, Cls K (He.ga K x) ∧ Meth K (He.ga K x) "__eq__" g ∧ FnNI P w K mg base k g (fun _ v H => AnyV K H v)
end
section
variable {X : Cx} {k : Nat} {x : Str}
theorem run_ni {A : Around} {pins : List (Addr × Obj)} {σ : L2.St} {H : Hp} {s : Shared} {a g : Addr} {y : V} {v : Value} {nq : V → V → Hp → Prop} (F : FnNI X.prog X.w X.K X.mg X.base k g nq) (hr : Room k A) (hA : A.frames = X.A.frames) (I : Inv X pins σ H s) (r : RelV y v) (h : nq (.ref a) y H) :
    wpAny (model X.prog X.w) A (call (.ref g) [.ref a, v]) (fun r s' => r = .notImplemented ∧ Inv X pins σ H s') X.xe s := by
  have e0 : Env0 X.prog X.w X.K X.mg X.base A X.stack s H := by
    have e := I.env0
    exact ⟨by rw [hA]; exact e.frames, e.mod, e.bs, e.bsz, e.funs, e.frf, e.hok, e.bare⟩
  refine wpAny_call (codeAny_mono (F A X.stack s H (.ref a) y (.ref a) v hr e0 (.cons rfl (.cons r .nil)) h) fun r s' hq => ?_)
  cases r with
  | error e => exact pass0 pins σ H s e s' I hq
  | ok fl =>
    obtain ⟨rfl, hce⟩ := hq
    obtain ⟨v', H', I', rv, ev, eH⟩ := I.after hce
    subst eH
    exact ⟨rfl, I'⟩
theorem kd_of {pins : List (Addr × Obj)} {σ : L2.St} {H : Hp} {s : Shared} {y : V} {v : Value} (I : Inv X pins σ H s) (r : RelV y v) (h : AnyV X.K H y) : ∃ T, ∀ s', Inv X pins σ H s' → NiX.Kd s' v T := by
  rcases h with ⟨i, rfl⟩ | ⟨b, rfl⟩ | rfl | ⟨z, rfl⟩ | ⟨l, xs, rfl, h⟩ | ⟨l, xs, rfl, h⟩
  · obtain ⟨t, rfl⟩ := r
    exact ⟨_, fun s' _ => .int i t⟩
  · cases r
    exact ⟨_, fun s' _ => .bool b⟩
  · cases r
    exact ⟨_, fun s' _ => .non⟩
  · obtain ⟨t, rfl⟩ := r
    exact ⟨_, fun s' _ => .str z t⟩
  · cases r
    refine ⟨_, fun s' I' => .lst l ?_⟩
    obtain ⟨its, rv, pl, hz⟩ := I'.list (SqL.of h)
    obtain ⟨o, ho, hc, _⟩ := pl.isList
    exact ⟨o, ho, hc⟩
  · cases r
    refine ⟨_, fun s' I' => .tup l ?_⟩
    obtain ⟨its, rv, ⟨o, ho, hc, _⟩, hz⟩ := I'.tuple h
    exact ⟨o, ho, hc⟩
/-- o == v, o != v, v another value -/
def rNI (K : PySem.W.Frag) (C : Addr) (b : Bool) : R2 := fun y z H Q => ∃ a dx fs, y = .ref a ∧ H a = some (.ins C dx fs) ∧ AnyV K H z ∧ Q (.bl b) H
theorem ins_plain {s : Shared} {a C : Addr} {ox : Obj} {od : Option Obj} (J : PySem.W.InstAt s.heap a ox C od) (h : ox.data = .plain) : ∃ ox od, PySem.W.InstAt s.heap a ox C od ∧ ox.data = .plain := ⟨ox, od, J, h⟩
theorem op_eqNI (c : CalNI X.prog X.w X.K X.mg X.base x k) (N : NiC X.K (He.ga X.K x)) (hr : Room k X.A) : OpR X (compareOp .Eq) (rNI X.K (He.ga X.K x) false) := by
  intro pins s σ H y z u v Q I ry rz h
  obtain ⟨a, dx, fs, rfl, ha, hz, q⟩ := h
  cases ry
  obtain ⟨g, C, M, F⟩ := c.ex
  have inst : ∀ s', Inv X pins σ H s' → ∃ ox od, PySem.W.InstAt s'.heap a ox (He.ga X.K x) od ∧ ox.data = .plain := fun s' I' => by
    obtain ⟨mA, J, hpl⟩ := ins_get I'.hok ha
    obtain ⟨od, J, _⟩ := J.look
    exact ⟨_, od, J, rfl⟩
  obtain ⟨ox, od, J, _⟩ := inst s I
  obtain ⟨T, hk⟩ := kd_of I rz hz
  show wpAny _ X.A (richCompare .Eq (.ref a) v) _ _ s
  exact eq_ni (Nat.lt_of_succ_lt (hu_of hr)) I.kIn J N (hk s I) M.at_ M.fn (run_ni F hr rfl I rz hz) fun s' I' => ⟨I'.kIn, inst s' I', hk s' I', .bl false, H, I', rfl, q⟩
theorem op_neNI (c : CalNI X.prog X.w X.K X.mg X.base x k) (N : NiC X.K (He.ga X.K x)) (hr : Room (k + 1) X.A) : OpR X (compareOp .NotEq) (rNI X.K (He.ga X.K x) true) := by
  intro pins s σ H y z u v Q I ry rz h
  obtain ⟨a, dx, fs, rfl, ha, hz, q⟩ := h
  cases ry
  obtain ⟨g, C, M, F⟩ := c.ex
  have inst : ∀ s', Inv X pins σ H s' → ∃ ox od, PySem.W.InstAt s'.heap a ox (He.ga X.K x) od ∧ ox.data = .plain := fun s' I' => by
    obtain ⟨mA, J, hpl⟩ := ins_get I'.hok ha
    obtain ⟨od, J, _⟩ := J.look
    exact ⟨_, od, J, rfl⟩
  obtain ⟨ox, od, J, _⟩ := inst s I
  obtain ⟨T, hk⟩ := kd_of I rz hz
  show wpAny _ X.A (richCompare .NotEq (.ref a) v) _ _ s
  exact ne_ni (hu_of hr) I.kIn J N (hk s I) M.at_ M.fn (run_ni F hr.in1 rfl I rz hz) fun s' I' => ⟨I'.kIn, inst s' I', hk s' I', .bl true, H, I', rfl, q⟩
end
end Xl

namespace Xl
open PySem PySem.Spec PyProof.Rows L2
/-- no builtin is of the class -/
structure NotC (K : PySem.W.Frag) (C : Addr) : Prop where
  k : ∀ n ∈ ["int", "bool", "NoneType", "str", "list", "tuple"], PySem.W.kitOne K (.type n) (.ref C) = some false
def notB (K : PySem.W.Frag) (C : Addr) : Bool := ["int", "bool", "NoneType", "str", "list", "tuple"].all fun n => decide (PySem.W.kitOne K (.type n) (.ref C) = some false)
theorem notB_ok {K : PySem.W.Frag} {C : Addr} (h : notB K C = true) : NotC K C := ⟨fun n hn => of_decide_eq_true (List.all_eq_true.mp h n hn)⟩
theorem x_isiX {K : PySem.W.Frag} {C : Addr} {H : Hp} {Q : VK} {v : V} (N : NotC K C) (hv : AnyV K H v) (q : Q (.bl false) H) : rIsi K [v, .ref C] H Q := by
  rcases hv with ⟨i, rfl⟩ | ⟨b, rfl⟩ | rfl | ⟨s, rfl⟩ | ⟨a, xs, rfl, h⟩ | ⟨a, xs, rfl, h⟩
  · exact ⟨_, _, _, _, false, rfl, .own _, TyX.base (.int i), N.k "int" (by decide), q⟩
  · exact ⟨_, _, _, _, false, rfl, .own _, TyX.base (.bl b), N.k "bool" (by decide), q⟩
  · exact ⟨_, _, _, _, false, rfl, .own _, TyX.base .non, N.k "NoneType" (by decide), q⟩
  · exact ⟨_, _, _, _, false, rfl, .own _, TyX.base (.str s), N.k "str" (by decide), q⟩
  · exact ⟨_, _, _, _, false, rfl, .own _, TyX.base (.lst h), N.k "list" (by decide), q⟩
  · exact ⟨_, _, _, _, false, rfl, .own _, tyT' h, N.k "tuple" (by decide), q⟩
end Xl

/-! the head with tables of code objects, for laws that make lambdas (own work). -/
namespace Xl
open PySem PySem.Spec PyProof.Rows L2 He
structure SaysBT (fa : List He.Fa) (fn : List He5.DefA) (tf : List Defn) (ex : PySem.W.Frag → Bool) (h : Heap) (K : PySem.W.Frag) : Prop where
  b : SaysB fa fn ex K
  hd : ∀ p ∈ tf, PySem.W.codeHdIn K (cT K p).1 (cT K p).2 = true
  out : ∀ p ∈ tf, K.lookup (cT K p).2 = none
  empty : ∀ p ∈ tf, h.get? (cT K p).2 = some { cls := .none, data := .fields #[] }
def obsBT (n : Nat) (fa : List He.Fa) (fn : List He5.DefA) (tf : List Defn) (ex : PySem.W.Frag → Bool) (g : Addr → Option Obj) : AlB × Bool :=
  (obsB fa fn ex (frT g (He5.asA g n)), tabsB g tf (frT g (He5.asA g n)))
theorem saysBT_of {n : Nat} {fa : List He.Fa} {fn : List He5.DefA} {tf : List Defn} {ex : PySem.W.Frag → Bool} {h : Heap} (e : obsBT n fa fn tf ex h.get? = ((He5.valA fn, true), true)) : SaysBT fa fn tf ex h (frT h.get? (He5.asA h.get? n)) := by
  have e1 : obsB fa fn ex (frT h.get? (He5.asA h.get? n)) = (He5.valA fn, true) := congrArg (fun z : AlB × Bool => z.1) e
  have h2 : tabsB h.get? tf (frT h.get? (He5.asA h.get? n)) = true := congrArg (fun z : AlB × Bool => z.2) e
  have key : ∀ p ∈ tf, PySem.W.codeHdIn (frT h.get? (He5.asA h.get? n)) (cT (frT h.get? (He5.asA h.get? n)) p).1 (cT (frT h.get? (He5.asA h.get? n)) p).2 = true ∧ ∃ o, h.get? (cT (frT h.get? (He5.asA h.get? n)) p).2 = some o ∧ emptyTab o = true := fun p hp => by
    obtain ⟨h3, h4⟩ := He.ba (List.all_eq_true.mp h2 p hp)
    refine ⟨h3, ?_⟩
    cases q : h.get? (cT (frT h.get? (He5.asA h.get? n)) p).2 with
    | none =>
      rw [q] at h4
      cases h4
    | some o =>
      rw [q] at h4
      exact ⟨o, rfl, h4⟩
  exact ⟨e1, fun p hp => (key p hp).1, fun p hp => by
    obtain ⟨_, o, q, z⟩ := key p hp
    exact frT_none q z, fun p hp => by
    obtain ⟨_, o, q, z⟩ := key p hp
    rw [q, emptyTab_eq z]⟩
def hookBT (n : Nat) (fa : List He.Fa) (fn : List He5.DefA) (tf : List Defn) (ex : PySem.W.Frag → Bool) : PySem.W.Hook where
  α := AlB × Bool
  obs := fun s => obsBT n fa fn tf ex s.heap.get?
  val := fun _ => ((He5.valA fn, true), true)
  says := fun _ h => ∃ K : PySem.W.Frag, K.In h ∧ SaysBT fa fn tf ex h K
  of := fun _ _ e => ⟨_, frT_in, saysBT_of e⟩
  keeps := fun _ _ _ ⟨K, hK, c⟩ k => ⟨K, PySem.W.Frag.In.keeps hK k, ⟨c.b, c.hd, c.out, fun p hp => k _ _ (c.empty p hp)⟩⟩
theorem obsBT_eq {n : Nat} {fa : List He.Fa} {fn : List He5.DefA} {tf : List Defn} {ex : PySem.W.Frag → Bool} {g : Addr → Option Obj} {s : Shared} (h : ∀ a, g a = s.heap.get? a) : obsBT n fa fn tf ex g = (hookBT n fa fn tf ex).obs s := by
  have e : g = s.heap.get? := funext h
  rw [e] <;> rfl
/-- the classes' facts, as Bools -/
def excB (K : PySem.W.Frag) (C : Addr) : Bool := He.eqO (PySem.W.findIn K (.ref C) "__getattribute__") (some (some (.builtin "BaseException.__getattribute__"))) && (He.eqO (PySem.W.findIn K (.ref C) "__getattr__") (some none) && (decide (PySem.W.subIn K (.ref C) (.type "BaseException") = some true) && (PySem.W.hasDictIn K C &&
  (He.eqO (PySem.W.findIn K (.ref C) "__class__") (some (some (.builtin "object.__class__"))) && (He.eqO (PySem.W.specialIn K (.builtin "object.__class__") "__get__") (some (some (.builtin "getset_descriptor.__get__"))) && (decide (PySem.W.takesIn K (.builtin "object.__class__") = some true) && decide (PySem.W.mroIn K C (.type "object") = some true)))))))
theorem excB_ok {K : PySem.W.Frag} {C : Addr} (h : excB K C = true) : ExcC K C := by
  obtain ⟨h1, h⟩ := He.ba h
  obtain ⟨h2, h⟩ := He.ba h
  obtain ⟨h3, h⟩ := He.ba h
  obtain ⟨h4, h⟩ := He.ba h
  obtain ⟨h5, h⟩ := He.ba h
  obtain ⟨h6, h⟩ := He.ba h
  obtain ⟨h7, h8⟩ := He.ba h
  exact ⟨He.eqO_ok h1, He.eqO_ok h2, of_decide_eq_true h3, h4, He.eqO_ok h5, He.eqO_ok h6, of_decide_eq_true h7, of_decide_eq_true h8⟩
def ownB (K : PySem.W.Frag) (C : Addr) : Bool := PySem.W.excIn K C bmVE "ValueError.__new__" && (PySem.W.keepIn K (.ref C) && (decide (PySem.W.subIn K (.ref C) (.type "BaseException") = some true) && decide (PySem.W.typeIn K (.ref C) = some (.type "type"))))
theorem ownB_ok {K : PySem.W.Frag} {C : Addr} (h : ownB K C = true) : OwnX K C := by
  obtain ⟨h1, h⟩ := He.ba h
  obtain ⟨h2, h⟩ := He.ba h
  obtain ⟨h3, h4⟩ := He.ba h
  exact ⟨h1, h2, of_decide_eq_true h3, of_decide_eq_true h4⟩
def errB (K : PySem.W.Frag) : Bool := errTab.all fun q => excB K (He.ga K q.1) && (ownB K (He.ga K q.1) && (decide (PySem.W.exmOne K (.ref (He.ga K q.1)) (.ref (He.ga K "NoteError")) = some true) &&
  ((errTab.all fun r => decide (PySem.W.kitOne K (.ref (He.ga K q.1)) (.ref (He.ga K r.1)) = some (decide (q.1 = r.1)))) && decide (PySem.W.kitOne K (.ref (He.ga K q.1)) (.type "ValueError") = some true))))
theorem errB_ok {K : PySem.W.Frag} (h : errB K = true) : ErrF K := by
  have h0 := fun q hq => List.all_eq_true.mp h q hq
  refine ⟨fun q hq => excB_ok (He.ba (h0 q hq)).1, fun q hq => ownB_ok (He.ba (He.ba (h0 q hq)).2).1, fun q hq => of_decide_eq_true (He.ba (He.ba (He.ba (h0 q hq)).2).2).1, fun q hq r hr => ?_, fun q hq => of_decide_eq_true (He.ba (He.ba (He.ba (He.ba (h0 q hq)).2).2).2).2⟩
  exact of_decide_eq_true (List.all_eq_true.mp (He.ba (He.ba (He.ba (He.ba (h0 q hq)).2).2).2).1 r hr)
/-- a def of the top, its code object known -/
theorem FunD.okC {P : Program} {w : World} {K : PySem.W.Frag} {mg : Str → Option Value} {base : Heap} {CX : CXT} {x qual : Str} {params : Arguments} {body : List Stmt} {scope : Scope} {kws : List (Str × V)} {fd : FuncData} {N ps : List Str} {k : Nat} {sp : Sp}
    (F : FunD K x qual params body scope [] kws (He.ga K x) fd) (S : FnScope N ps scope) (len : ∀ vs H Q E, sp vs H Q E → vs.length = ps.length)
    (hbody : ∀ (A : Around) (outer : List Env) (s : Shared) (H : Hp) (vs : List V) (Q : VK) (E : XK), Room k (A.deeper (envOfC qual scope s.heap.objs.size (He.ga K x) (.ref (cT K (x, none)).1))) → sp vs H Q E →
      ∃ t, PSs (cxOf CX P w K mg base N qual scope (He.ga K x) (.ref (cT K (x, none)).1) A outer s H E) body t ∧ t { nx := fun _ H' => Q .non H', rt := Q } (start N vs) H) : FnOk P w K mg base CX (k + 1) (He.ga K x) fd ps sp := by
  obtain ⟨oc, od, dV, kV, doc, pm, an, cdv, ct, osl, rfl, lk, hcd, _, _⟩ := F.ex
  obtain ⟨c, rfl⟩ := codeIn_ref hcd
  have e : (cT K (x, none)).1 = c := codeOf_eq (p := (x, none)) lk rfl
  rw [e] at hbody
  exact fn_of lk hcd S len fun A outer s H vs Q E hr hsp => hbody A outer s H vs Q E hr hsp
theorem FnHp.mono {P : Program} {w : World} {K : PySem.W.Frag} {mg : Str → Option Value} {base : Heap} {j k : Nat} {f : Addr} {fd : FuncData} {ps : List Str} {sp : Addr × Obj → Sp} (F : FnHp P w K mg base j f fd ps sp) (h : j ≤ k) : FnHp P w K mg base k f fd ps sp :=
  ⟨F.len, fun A outer s H args us vs Q E p hr => F.run A outer s H args us vs Q E p (hr.mono h)⟩
end Xl

namespace Xl
open PySem PySem.Spec PyProof.Rows L2
local macro_rules | `(tactic| walk_at "x1") => `(tactic| first
  | ((with_reducible show tVar _ _ _ _); refine x_var rfl ?_)
  | (with_reducible refine x_c ?_)
  | (with_reducible refine x_II ?_)
  | ((with_reducible refine x_sd ?_ ?_); (first | (· first | exact trivial | decide | omega | exact .inl ⟨by omega, by omega⟩ | exact .inr ⟨by omega, by omega⟩ | exact ⟨by omega, by omega⟩ | exact ⟨by decide, by decide, by decide⟩) | rotate_left))
  | (with_reducible refine x_asB ?_)
  | (with_reducible refine x_seq ?_)
  | (with_reducible refine x_asgN ?_)
  | (with_reducible refine x_gN ?_)
  | (with_reducible refine x_asg ?_)
  | (with_reducible refine x_drop ?_)
  | (with_reducible refine x_ret ?_)
  | (with_reducible refine x_retN ?_)
  | (with_reducible refine x_next ?_)
  | (with_reducible refine x_if ?_)
  | (with_reducible refine x_brk ?_)
  | (with_reducible refine x_cont ?_)
  | (with_reducible refine x_opI0 ?_)
  | (with_reducible refine x_opI ?_)
  | (with_reducible refine x_opEq ?_)
  | (with_reducible refine x_opNe ?_)
  | (with_reducible refine x_op ?_)
  | (with_reducible refine x_chain ?_)
  | (with_reducible refine x_unI ?_)
  | (with_reducible refine x_gsub ?_)
  | (with_reducible refine x_callN ?_)
  | ((with_reducible show Cn _ _ _ _ _); refine x_Cn rfl rfl ?_)
  | (with_reducible refine x_dget ?_)
  | (with_reducible refine x_din ?_)
  | (with_reducible refine x_dni ?_)
  | (with_reducible refine x_dput ?_)
  | (with_reducible refine x_lc2L ?_)
  | (with_reducible refine x_sl ?_)
  | (with_reducible refine x_noPart ?_)
  | (with_reducible refine x_part ?_)
  | (with_reducible refine x_asO ?_)
  | (with_reducible refine x_rI0 ?_)
  | (with_reducible refine x_rI ?_)
  | (with_reducible refine x_eqI ?_)
  | (with_reducible refine x_neI ?_)
  | (with_reducible refine x_eqS ?_)
  | (with_reducible refine x_neS ?_)
  | (with_reducible refine x_eqB ?_)
  | (with_reducible refine x_neB ?_)
  | (with_reducible refine x_tst ?_)
  | (with_reducible refine x_tB ?_)
  | (with_reducible refine x_and ?_)
  | (with_reducible refine x_or ?_)
  | (with_reducible refine x_not ?_)
  | (with_reducible refine x_andV ?_)
  | (with_reducible refine x_orV ?_)
  | (with_reducible refine x_notV ?_)
  | (with_reducible refine x_ifE ?_)
  | (with_reducible refine x_nilA ?_)
  | (with_reducible refine x_consA ?_)
  | (with_reducible refine x_tup ?_)
  | (with_reducible refine x_lst ?_)
  | (with_reducible refine x_call ?_)
  | (with_reducible refine x_callD ?_)
  | (with_reducible refine x_cb ?_)
  | (with_reducible refine x_min2 ?_)
  | (with_reducible refine x_max2 ?_)
  | (with_reducible refine x_par ?_)
  | (with_reducible refine x_Par ?_)
  | (with_reducible refine x_par3 ?_)
  | (with_reducible refine x_Par3 ?_)
  | ((with_reducible show tAug _ _ _ _ _ _); refine x_aug rfl ?_)
  | (with_reducible refine x_ipI ?_)
  | (with_reducible refine x_forR1 ?_)
  | (with_reducible refine x_forR2 ?_)
  | (with_reducible refine x_forL ?_)
  | (with_reducible refine x_forT ?_)
  | (with_reducible refine x_lcL ?_)
  | (with_reducible refine x_lcT ?_)
  | (with_reducible refine x_lcR1 ?_)
  | (with_reducible refine x_lcR2 ?_)
  | ((with_reducible refine x_R1 ?_ ?_); (first | (· first | decide | omega) | rotate_left))
  | ((with_reducible refine x_R2 ?_ ?_); (first | (· first | decide | omega) | rotate_left))
  | (with_reducible refine x_yes ?_)
  | (with_reducible refine b_t rfl ?_)
  | (with_reducible refine b_f rfl ?_))
local macro_rules | `(tactic| walk_at "x") => `(tactic| repeat walk_at "x1")
local macro_rules | `(tactic| walk_at "bf") => `(tactic| refine b_f (by first | exact decide_eq_false (by omega) | (simp; done) | (simp; omega)) ?_)
local macro_rules | `(tactic| walk_at "bt") => `(tactic| refine b_t (by first | exact decide_eq_true (by omega) | (simp; done) | (simp; omega)) ?_)

/-! ### _law_cell -/
def sp_law_cell (K : PySem.W.Frag) : Sp := fun vs H Q _ => ∃ (a : Addr) (ns : List Int) (i : Int), vs = [.ref a, .int i] ∧ SqL K H a (ns.map V.int) ∧ 0 ≤ i ∧ i ≤ 1000 ∧ ns.length ≤ 63 ∧ ∀ c : Int, Q (.int c) H
theorem len_law_cell {K : PySem.W.Frag} : ∀ vs H Q E, sp_law_cell K vs H Q E → vs.length = 2 := by
  rintro _ H Q E ⟨a, ns, i, rfl, _⟩
  rfl
/-- _law_cell: script index -/
def t_law_cell (K : PySem.W.Frag) : TS := (tSeq (tIfS (tTest (tOp rLt (tVar 1) (tCB (rLenQ K) (tCons (tVar 0) tNil)))) (tRet (tOp (rIxL K) (tVar 0) (tVar 1))) tNext) (tSeq (tIfS (tTest (tOp rEq (tCB (rLenQ K) (tCons (tVar 0) tNil)) (tC (.int 0)))) (tRet (tOp rPlus (tOp rMul (tC (.int 7919)) (tVar 1)) (tC (.int 101)))) tNext) (tRet (tOp rPlus (tOp rMod (tOp (rIxL K) (tVar 0) (tOp rMod (tVar 1) (tCB (rLenQ K) (tCons (tVar 0) tNil)))) (tC (.int 1000003))) (tOp rMul (tC (.int 7919)) (tVar 1))))))

theorem run_law_cell {K : PySem.W.Frag} {vs : List V} {H : Hp} {Q : VK} {E : XK} (h : sp_law_cell K vs H Q E) : t_law_cell K { nx := fun _ H' => Q .non H', rt := Q } (start ["script", "index"] vs) H := by
  obtain ⟨a, ns, i, rfl, hS, h0, h1, hn, q⟩ := h
  have ix : ∀ {j : Int}, 0 ≤ j → j < (ns.length : Int) → ∃ c, atI (ns.map V.int) j = some (.int c) := fun {j} g1 g2 => by
    have hl : j.toNat < ns.length := by omega
    exact ⟨ns[j.toNat], atI_n g1 (by rw [List.getElem?_map, List.getElem?_eq_getElem hl]; rfl)⟩
  unfold t_law_cell
  walk_at "x"
  refine x_lenL hS ?_
  rw [List.length_map]
  walk_at "x"
  refine b_d (fun hl => ?_) (fun hl => ?_)
  · walk_at "x"
    obtain ⟨c, hc⟩ := ix h0 hl
    exact x_ixL hS hc (q c)
  · walk_at "x"
    refine x_lenL hS ?_
    rw [List.length_map]
    walk_at "x"
    refine b_d (fun hz => ?_) (fun hz => ?_)
    · walk_at "x"
      exact q _
    · walk_at "x"
      refine x_lenL hS ?_
      rw [List.length_map]
      walk_at "x"
      have hp : (0 : Int) < (ns.length : Int) := by omega
      obtain ⟨c, hc⟩ := ix (Int.emod_nonneg i (by omega)) (Int.emod_lt_of_pos i hp)
      refine x_ixL hS hc ?_
      walk_at "x"
      exact q _
/-! ### _law_digits -/
def sp_law_digits (K : PySem.W.Frag) : Sp := fun vs H Q _ => ∃ (a : Addr) (ns : List Int) (i n b : Int), vs = [.ref a, .int i, .int n, .int b] ∧ SqL K H a (ns.map V.int) ∧ 0 ≤ i ∧ i ≤ 1000 ∧ ns.length ≤ 63 ∧ 0 ≤ n ∧ n ≤ 1000 ∧ 0 < b ∧ b < 1000000 ∧
  ∀ p H' (ds : List Int), Ex H H' → H p = none → H' p = some (.lst (ds.map V.int)) → (ds.length : Int) = n → (∀ d ∈ ds, 0 ≤ d ∧ d < b) → Q (.ref p) H'
theorem len_law_digits {K : PySem.W.Frag} : ∀ vs H Q E, sp_law_digits K vs H Q E → vs.length = 4 := by
  rintro _ H Q E ⟨a, ns, i, n, b, rfl, _⟩
  rfl
def primes8 : List Int := [2147483647, 2147483629, 2147483587, 2147483579, 2147483563, 2147483549, 2147483543, 2147483497]
theorem prime_at (j : Int) : ∃ p : Int, atI (primes8.map V.int) (j % 8) = some (.int p) ∧ 0 < p ∧ p ≤ 2147483647 := by
  have g1 : 0 ≤ j % 8 := Int.emod_nonneg j (by decide)
  have g2 : j % 8 < 8 := Int.emod_lt_of_pos j (by decide)
  have key : ∀ m : Nat, m < 8 → ∃ p : Int, (primes8.map V.int)[m]? = some (.int p) ∧ 0 < p ∧ p ≤ 2147483647 := by
    intro m hm
    match m, hm with
    | 0, _ => exact ⟨_, rfl, by decide, by decide⟩
    | 1, _ => exact ⟨_, rfl, by decide, by decide⟩
    | 2, _ => exact ⟨_, rfl, by decide, by decide⟩
    | 3, _ => exact ⟨_, rfl, by decide, by decide⟩
    | 4, _ => exact ⟨_, rfl, by decide, by decide⟩
    | 5, _ => exact ⟨_, rfl, by decide, by decide⟩
    | 6, _ => exact ⟨_, rfl, by decide, by decide⟩
    | 7, _ => exact ⟨_, rfl, by decide, by decide⟩
  obtain ⟨p, h1, h2⟩ := key (j % 8).toNat (by omega)
  exact ⟨p, atI_n g1 h1, h2⟩
/-- _law_digits: script index count base primes cell rest digits k mixed -/
def t_law_digits (K : PySem.W.Frag) : TS := (tSeq (tAsg (tTup (tCons (tC (.int 2147483647)) (tCons (tC (.int 2147483629)) (tCons (tC (.int 2147483587)) (tCons (tC (.int 2147483579)) (tCons (tC (.int 2147483563)) (tCons (tC (.int 2147483549)) (tCons (tC (.int 2147483543)) (tCons (tC (.int 2147483497)) tNil))))))))) (gName 4)) (tSeq (tAsg (tCall (sp_law_cell K) [] E0 (tCons (tVar 0) (tCons (tVar 1) tNil))) (gName 5)) (tSeq (tAsg (tIf (tTest (tOp rGe (tVar 5) (tOp rPow (tC (.int 10)) (tC (.int 18))))) (tVar 5) (tC (.int 0))) (gName 6)) (tSeq (tAsg (tLst tNil) (gName 7)) (tSeq (tFor (iRng1 (tCons (tVar 2) tNil)) (gName 8) (tSeq (tAsg (tOp rMul (tOp rMod (tVar 5) (tOp (rIxT K) (tVar 4) (tOp rMod (tVar 8) (tC (.int 8))))) (tOp rPlus (tC (.int 48271)) (tOp rMul (tOp rMul (tC (.int 2)) (tVar 8)) (tVar 8)))) (gName 9)) (tSeq (tAsg (tOp rPlus (tOp rPlus (tVar 9) (tOp rMul (tOp rMul (tC (.int 7919)) (tOp rPlus (tVar 8) (tC (.int 1)))) (tOp rPlus (tVar 8) (tC (.int 1))))) (tOp rMul (tC (.int 104729)) (tVar 1))) (gName 9)) (tSeq (tAsg (tOp rMod (tVar 9) (tOp (rIxT K) (tVar 4) (tOp rMod (tOp rPlus (tOp rMul (tC (.int 3)) (tVar 8)) (tVar 1)) (tC (.int 8))))) (gName 9)) (tSeq (tAsg (tOp rMod (tOp rMul (tOp rMul (tVar 9) (tVar 9)) (tVar 9)) (tOp (rIxT K) (tVar 4) (tOp rMod (tOp rPlus (tVar 8) (tC (.int 5))) (tC (.int 8))))) (gName 9)) (tSeq (tIfS (tTest (tOp rGt (tVar 6) (tC (.int 0)))) (tAsg (tVar 6) (gName 9)) tNext) (tSeq (tDrop (tBM K "list" rAppend (tVar 7) (tCons (tOp rMod (tVar 9) (tVar 3)) tNil))) (tAsg (tOp rDiv (tVar 6) (tVar 3)) (gName 6))))))))) (tRet (tVar 7)))))))

theorem cmul_l {i j : Int} (h : 0 ≤ i) (h2 : i ≤ 4294967296) : CMul i j := .inl ⟨by omega, by omega⟩
theorem cmul_r {i j : Int} (h : 0 ≤ j) (h2 : j ≤ 4294967296) : CMul i j := .inr ⟨by omega, by omega⟩
theorem run_law_digits {K : PySem.W.Frag} {vs : List V} {H : Hp} {Q : VK} {E : XK} (h : sp_law_digits K vs H Q E) : t_law_digits K { nx := fun _ H' => Q .non H', rt := Q } (start ["script", "index", "count", "base", "primes", "cell", "rest", "digits", "k", "mixed"] vs) H := by
  obtain ⟨a, ns, i, n, b, rfl, hS, h0, h1, hn, n0, n1, b0, b1, q⟩ := h
  unfold t_law_digits
  walk_at "x"
  refine x_newT rfl fun pt H1 np e1 h1' _ => ?_
  walk_at "x"
  refine ⟨a, ns, i, rfl, e1.l hS, h0, h1, hn, fun c => ?_⟩
  walk_at "x"
  refine b_joinV (fun v => ∃ r : Int, v = .int r) ?k (fun _ R kR => ?a) (fun _ R kR => ?b)
  case a => (walk_at "x"; exact kR _ ⟨_, rfl⟩)
  case b => (walk_at "x"; exact kR _ ⟨_, rfl⟩)
  rintro _ ⟨r, rfl⟩
  walk_at "x"
  refine x_newL rfl fun l H2 nl e2 hl _ => ?_
  have nlH : H l = none := e1.back nl
  walk_at "x"
  refine for_r (fun j σ H' => ∃ (r : Int) (ds : List Int) (o1 o2 : Option V), σ = [some (.ref a), some (.int i), some (.int n), some (.int b), some (.ref pt), some (.int c), some (.int r), some (.ref l), o1, o2] ∧ Ex H1 H' ∧ H' l = some (.lst (ds.map V.int)) ∧ ds.length = j ∧ ∀ d ∈ ds, 0 ≤ d ∧ d < b) ?_ ?_ ?_
  · exact ⟨r, [], none, none, rfl, e2, hl, rfl, by simp⟩
  · rintro j σ H' hj ⟨r, ds, o1, o2, rfl, eH, hL, hd, hb⟩
    have hP : SqT K H' pt (primes8.map V.int) := eH.t (SqT.of h1')
    have hjn : (j : Int) < n := by omega
    rw [Int.zero_add]
    walk_at "x"
    obtain ⟨p1, hp1, p1a, p1b⟩ := prime_at (j : Int)
    refine x_ixT hP hp1 ?_
    have m1 := Int.emod_nonneg c (show p1 ≠ 0 by omega)
    have m1' := Int.emod_lt_of_pos c p1a
    walk_at "x"
    obtain ⟨p2, hp2, p2a, p2b⟩ := prime_at (3 * (j : Int) + i)
    refine x_ixT hP hp2 ?_
    walk_at "x"
    obtain ⟨p3, hp3, p3a, p3b⟩ := prime_at ((j : Int) + 5)
    refine x_ixT hP hp3 ?_
    walk_at "x"
    · refine s_joinS (fun σ' => ∃ m : Int, σ' = [some (.ref a), some (.int i), some (.int n), some (.int b), some (.ref pt), some (.int c), some (.int r), some (.ref l), some (.int j), some (.int m)]) ?k2 (fun _ nx' kR => ?a2) (fun _ nx' kR => ?b2)
      case a2 => (walk_at "x"; exact kR _ ⟨_, rfl⟩)
      case b2 => (walk_at "x"; exact kR _ ⟨_, rfl⟩)
      rintro _ ⟨m, rfl⟩
      walk_at "x"
      refine x_app rfl hL ?_
      walk_at "x"
      refine x_App hL (by rw [List.length_map]; omega) ?_
      walk_at "x"
      · refine ⟨_, ds ++ [m % b], _, _, rfl, eH.mut nl, ?_, ?_, ?_⟩
        · rw [upd_same, List.map_append] <;> rfl
        · rw [List.length_append, List.length_singleton, hd]
        · intro d hm
          rcases List.mem_append.mp hm with hm | hm
          · exact hb d hm
          · rw [List.mem_singleton.mp hm]
            exact ⟨Int.emod_nonneg _ (by omega), Int.emod_lt_of_pos _ b0⟩
    all_goals exact cmul_r (Int.emod_nonneg _ (by omega)) (Int.le_trans (Int.le_of_lt (Int.emod_lt_of_pos _ (by assumption))) (by omega))
  · rintro σ H' ⟨r, ds, o1, o2, rfl, eH, hL, hd, hb⟩
    walk_at "x"
    exact q l H' ds (e1.trans eH) nlH hL (by omega) hb
theorem dig {ds : List Int} {b : Int} (hb : ∀ d ∈ ds, 0 ≤ d ∧ d < b) {i : Nat} (hi : i < ds.length) : ∃ d : Nat, atI (ds.map V.int) (i : Int) = some (.int (d : Int)) ∧ (d : Int) < b := by
  have h := hb ds[i] (List.getElem_mem hi)
  refine ⟨ds[i].toNat, atI_n (by omega) ?_, by omega⟩
  rw [Int.toNat_natCast, List.getElem?_map, List.getElem?_eq_getElem hi, Int.toNat_of_nonneg h.1] <;> rfl
end Xl

namespace Xl
open PySem PySem.Spec PyProof.Rows L2
/-- over a range, values of any kind -/
theorem lcR_free {K : PySem.W.Frag} {g : TG} {te : TE} {σ : L2.St} {H : Hp} {Q : VK} {lo : Int} {n : Nat} {vs : List Nat} (hz : n ≤ 100000) (hs : ∀ i H', i < n → Ex H H' → ∀ R : VK, (∀ y H4, Ex H' H4 → R y H4) → g (.int (lo + (i : Int))) (wipe σ vs) H' fun σ2 H2 => wipe σ2 vs = wipe σ vs ∧ te σ2 H2 R)
    (hd : ∀ p ys H', Ex H H' → H p = none → H' p = some (.lst ys) → Q (.ref p) H') : LcIt (Itr lo n) g tYes te vs σ H Q := fun D1 hD => by
  refine lc_range (Qd := Q (.ref D1)) (fun i H' => Ex H H' ∧ ∃ acc, H' D1 = some (.lst acc) ∧ acc.length = i) ⟨Ex.new hD, [], upd_same, rfl⟩ (fun i H' hi p => ?_) (fun H' p => ?_)
  · obtain ⟨e, acc, hA, hl⟩ := p
    have h := hs i H' hi e (fun y H4 => ∃ acc, H4 D1 = some (.lst acc) ∧ acc.length < sizeLine ∧ (Ex H (upd H4 D1 (.lst (acc ++ [y]))) ∧ ∃ acc', upd H4 D1 (.lst (acc ++ [y])) D1 = some (.lst acc') ∧ acc'.length = i + 1)) (fun y H4 e4 =>
      ⟨acc, e4 _ _ hA, big_lt (by omega), (e.trans e4).mut hD, acc ++ [y], upd_same, by rw [List.length_append, hl] <;> rfl⟩)
    simp only [tYes_eq]
    exact h
  · obtain ⟨e, acc, hA, _⟩ := p
    exact hd D1 acc H' e hD hA
def sp_any : Nat → PySem.W.Frag → Sp
  | 0, _ => fun _ _ _ _ => False
  | n + 1, K => fun vs H Q _ => ∃ (a : Addr) (ds : List Int) (d : Int), vs = [.ref a, .int d] ∧ SqL K H a (ds.map V.int) ∧ d + (n : Int) = 4 ∧ 0 ≤ d ∧ 16 ≤ ds.length ∧ ds.length ≤ 1000 ∧ ∀ v H', Ex H H' → AnyV K H' v → Q v H'
def sp_law_any_value (K : PySem.W.Frag) : Sp := sp_any 5 K
theorem len_any {K : PySem.W.Frag} : ∀ n vs H Q E, sp_any n K vs H Q E → vs.length = 2
  | 0, _, _, _, _, h => h.elim
  | n + 1, _, _, _, _, ⟨_, _, _, e, _⟩ => by rw [e] <;> rfl
theorem at_of {ds : List Int} {i : Int} (h0 : 0 ≤ i) (h1 : i < ds.length) : ∃ d, atI (ds.map V.int) i = some (.int d) := by
  have h2 : i.toNat < ds.length := by omega
  exact ⟨ds[i.toNat], atI_n h0 (by rw [List.getElem?_map, List.getElem?_eq_getElem h2] <;> rfl)⟩
local macro_rules | `(tactic| walk_at "x1") => `(tactic| first
  | ((with_reducible show tVar _ _ _ _); refine x_var rfl ?_)
  | (with_reducible refine x_c ?_)
  | (with_reducible refine x_II ?_)
  | ((with_reducible refine x_sd ?_ ?_); (first | (· first | exact trivial | decide | omega | exact .inl ⟨by omega, by omega⟩ | exact .inr ⟨by omega, by omega⟩ | exact ⟨by omega, by omega⟩ | exact ⟨by decide, by decide, by decide⟩) | rotate_left))
  | (with_reducible refine x_asB ?_)
  | (with_reducible refine x_seq ?_)
  | (with_reducible refine x_asgN ?_)
  | (with_reducible refine x_gN ?_)
  | (with_reducible refine x_asg ?_)
  | (with_reducible refine x_drop ?_)
  | (with_reducible refine x_ret ?_)
  | (with_reducible refine x_retN ?_)
  | (with_reducible refine x_next ?_)
  | (with_reducible refine x_if ?_)
  | (with_reducible refine x_brk ?_)
  | (with_reducible refine x_cont ?_)
  | (with_reducible refine x_opI0 ?_)
  | (with_reducible refine x_opI ?_)
  | (with_reducible refine x_opEq ?_)
  | (with_reducible refine x_opNe ?_)
  | (with_reducible refine x_op ?_)
  | (with_reducible refine x_chain ?_)
  | (with_reducible refine x_unI ?_)
  | (with_reducible refine x_gsub ?_)
  | (with_reducible refine x_callN ?_)
  | ((with_reducible show Cn _ _ _ _ _); refine x_Cn rfl rfl ?_)
  | (with_reducible refine x_dget ?_)
  | (with_reducible refine x_din ?_)
  | (with_reducible refine x_dni ?_)
  | (with_reducible refine x_dput ?_)
  | (with_reducible refine x_lc2L ?_)
  | (with_reducible refine x_sl ?_)
  | (with_reducible refine x_noPart ?_)
  | (with_reducible refine x_part ?_)
  | (with_reducible refine x_asO ?_)
  | (with_reducible refine x_rI0 ?_)
  | (with_reducible refine x_rI ?_)
  | (with_reducible refine x_eqI ?_)
  | (with_reducible refine x_neI ?_)
  | (with_reducible refine x_eqS ?_)
  | (with_reducible refine x_neS ?_)
  | (with_reducible refine x_eqB ?_)
  | (with_reducible refine x_neB ?_)
  | (with_reducible refine x_tst ?_)
  | (with_reducible refine x_tB ?_)
  | (with_reducible refine x_and ?_)
  | (with_reducible refine x_or ?_)
  | (with_reducible refine x_not ?_)
  | (with_reducible refine x_andV ?_)
  | (with_reducible refine x_orV ?_)
  | (with_reducible refine x_notV ?_)
  | (with_reducible refine x_ifE ?_)
  | (with_reducible refine x_nilA ?_)
  | (with_reducible refine x_consA ?_)
  | (with_reducible refine x_tup ?_)
  | (with_reducible refine x_lst ?_)
  | (with_reducible refine x_call ?_)
  | (with_reducible refine x_callD ?_)
  | (with_reducible refine x_cb ?_)
  | (with_reducible refine x_min2 ?_)
  | (with_reducible refine x_max2 ?_)
  | (with_reducible refine x_par ?_)
  | (with_reducible refine x_Par ?_)
  | (with_reducible refine x_par3 ?_)
  | (with_reducible refine x_Par3 ?_)
  | ((with_reducible show tAug _ _ _ _ _ _); refine x_aug rfl ?_)
  | (with_reducible refine x_ipI ?_)
  | (with_reducible refine x_forR1 ?_)
  | (with_reducible refine x_forR2 ?_)
  | (with_reducible refine x_forL ?_)
  | (with_reducible refine x_forT ?_)
  | (with_reducible refine x_lcL ?_)
  | (with_reducible refine x_lcT ?_)
  | (with_reducible refine x_lcR1 ?_)
  | (with_reducible refine x_lcR2 ?_)
  | ((with_reducible refine x_R1 ?_ ?_); (first | (· first | decide | omega) | rotate_left))
  | ((with_reducible refine x_R2 ?_ ?_); (first | (· first | decide | omega) | rotate_left))
  | (with_reducible refine x_yes ?_)
  | (with_reducible refine b_t rfl ?_)
  | (with_reducible refine b_f rfl ?_))
local macro_rules | `(tactic| walk_at "x") => `(tactic| repeat walk_at "x1")
local macro_rules | `(tactic| walk_at "bf") => `(tactic| refine b_f (by first | exact decide_eq_false (by omega) | (simp; done) | (simp; omega)) ?_)
local macro_rules | `(tactic| walk_at "bt") => `(tactic| refine b_t (by first | exact decide_eq_true (by omega) | (simp; done) | (simp; omega)) ?_)

local macro_rules | `(tactic| walk_at "x1") => `(tactic| first
  | (with_reducible refine x_mk ?_)
  | (with_reducible refine x_mkV ?_)
  | (with_reducible refine x_cmeth ?_)
  | (with_reducible refine x_isC ?_)
  | (with_reducible refine x_prop ?_)
  | (with_reducible refine x_fld ?_)
  | (with_reducible refine x_sfld ?_)
  | (with_reducible refine x_fmtD ?_))
local macro_rules | `(tactic| walk_at "x1") => `(tactic| with_reducible refine x_revL ?_)

/-- _law_any_value: digits depth choice number parts k -/
def t_law_any_value (K : PySem.W.Frag) (n : Nat) : TS := (tSeq (tAsg (tOp rMod (tOp (rIxL K) (tVar 0) (tVar 1)) (tC (.int 12))) (gName 2)) (tSeq (tAsg (tOp (rIxL K) (tLst (tCons (tOp rMinus (tOp rMod (tOp (rIxL K) (tVar 0) (tOp rPlus (tVar 1) (tC (.int 1)))) (tC (.int 12))) (tC (.int 2))) (tCons (tOp rMinus (tC (.int 0)) (tOp rPow (tC (.int 10)) (tC (.int 39)))) (tCons (tOp rPow (tC (.int 10)) (tC (.int 39))) tNil)))) (tOp rMod (tOp (rIxL K) (tVar 0) (tOp rPlus (tVar 1) (tC (.int 2)))) (tC (.int 3)))) (gName 3)) (tSeq (tIfS (tOr (tTest (tOp rLt (tVar 2) (tC (.int 4)))) (tTest (tOp rGt (tVar 1) (tC (.int 3))))) (tRet (tVar 3)) tNext) (tSeq (tIfS (tTest (tOp rLt (tVar 2) (tC (.int 7)))) (tRet (tOp (rIxL K) (tLst (tCons (tC (.bl true)) (tCons (tC (.bl false)) (tCons (tC .non) tNil)))) (tOp rMinus (tVar 2) (tC (.int 4))))) tNext) (tSeq (tIfS (tTest (tOp rLt (tVar 2) (tC (.int 9)))) (tRet (tOp (rIxL K) (tLst (tCons (tC (.str (Str.ofString ""))) (tCons (tC (.str (Str.ofString "0"))) (tCons (tC (.str (Str.ofString "a"))) (tCons (tC (.str (Str.ofString "ax"))) (tCons (tC (.str (Str.ofString "3"))) (tCons (tC (.str (Str.ofString "none"))) (tCons (tC (.str (Str.ofString "A"))) (tCons (tC (.str (Str.ofString "~"))) tNil))))))))) (tOp rMod (tOp (rIxL K) (tVar 0) (tOp rPlus (tVar 1) (tC (.int 3)))) (tC (.int 8))))) tNext) (tSeq (tAsg (tLc (iRng1 (tCons (tOp rMod (tOp (rIxL K) (tVar 0) (tOp rPlus (tVar 1) (tC (.int 4)))) (tC (.int 4))) tNil)) (gName 5) tYes (tCall (sp_any n K) [] E0 (tCons (tOp rCat (tSl (rSlL K) (tVar 0) (tPart (tVar 5)) tNoPart) (tSl (rSlL K) (tVar 0) tNoPart (tPart (tVar 5)))) (tCons (tOp rPlus (tVar 1) (tC (.int 1))) tNil))) [5]) (gName 4)) (tRet (tIf (tTest (tOp rEq (tVar 2) (tC (.int 9)))) (tVar 4) (tCB (rTupO K) (tCons (tVar 4) tNil))))))))))

theorem run_law_any_value {K : PySem.W.Frag} {n : Nat} {vs : List V} {H : Hp} {Q : VK} {E : XK} (h : sp_any (n + 1) K vs H Q E) : t_law_any_value K n { nx := fun _ H' => Q .non H', rt := Q } (start ["digits", "depth", "choice", "number", "parts", "k"] vs) H := by
  obtain ⟨a, ds, d, rfl, hS, hn, hd, hl, hl2, q⟩ := h
  obtain ⟨d0, a0⟩ := at_of (ds := ds) (i := d) hd (by omega)
  obtain ⟨d1, a1⟩ := at_of (ds := ds) (i := d + 1) (by omega) (by omega)
  obtain ⟨d2, a2⟩ := at_of (ds := ds) (i := d + 2) (by omega) (by omega)
  obtain ⟨d3, a3⟩ := at_of (ds := ds) (i := d + 3) (by omega) (by omega)
  obtain ⟨d4, a4⟩ := at_of (ds := ds) (i := d + 4) (by omega) (by omega)
  unfold t_law_any_value
  walk_at "x"
  refine x_ixL hS a0 ?_
  walk_at "x"
  refine x_ixL hS a1 ?_
  walk_at "x"
  obtain ⟨B, hB⟩ : ∃ B : Int, B = 10 ^ Int.toNat 39 := ⟨_, rfl⟩
  rw [← hB]
  refine x_newL rfl fun p1 H1 n1 e1 h1 _ => ?_
  walk_at "x"
  refine x_ixL (e1.l hS) a2 ?_
  walk_at "x"
  obtain ⟨num, hnum⟩ : ∃ num : Int, atI [V.int (d1 % 12 - 2), V.int (0 - B), V.int B] (d2 % 3) = some (.int num) := by
    have h5 : d2 % 3 = 0 ∨ d2 % 3 = 1 ∨ d2 % 3 = 2 := by omega
    rcases h5 with h5 | h5 | h5
    · exact ⟨_, by rw [h5] <;> rfl⟩
    · exact ⟨_, by rw [h5] <;> rfl⟩
    · exact ⟨_, by rw [h5] <;> rfl⟩
  refine x_ixL (SqL.of h1) hnum ?_
  obtain ⟨c, hc, hc0⟩ : ∃ c : Int, c = d0 % 12 ∧ 0 ≤ c ∧ c < 12 := ⟨_, rfl, by omega, by omega⟩
  rw [← hc]
  walk_at "x"
  refine b_d (fun h4 => ?_) (fun h4 => ?_)
  · walk_at "x"
    exact q _ H1 e1 (.i _)
  walk_at "x"
  refine b_d (fun h5 => ?_) (fun h5 => ?_)
  · walk_at "x"
    exact q _ H1 e1 (.i _)
  obtain ⟨m, rfl⟩ : ∃ m, n = m + 1 := ⟨n - 1, by omega⟩
  walk_at "x"
  refine b_d (fun h7 => ?_) (fun h7 => ?_)
  · walk_at "x"
    refine x_newL rfl fun p2 H2 n2 e2 h2 _ => ?_
    walk_at "x"
    have h6 : c - 4 = 0 ∨ c - 4 = 1 ∨ c - 4 = 2 := by omega
    rcases h6 with h6 | h6 | h6
    · rw [h6]
      refine x_ixL (v := .bl true) (SqL.of h2) rfl ?_
      exact q _ H2 (e1.trans e2) (.b _)
    · rw [h6]
      refine x_ixL (v := .bl false) (SqL.of h2) rfl ?_
      exact q _ H2 (e1.trans e2) (.b _)
    · rw [h6]
      refine x_ixL (v := .non) (SqL.of h2) rfl ?_
      exact q _ H2 (e1.trans e2) .n
  walk_at "x"
  refine b_d (fun h9 => ?_) (fun h9 => ?_)
  · walk_at "x"
    refine x_newL rfl fun p2 H2 n2 e2 h2 _ => ?_
    walk_at "x"
    refine x_ixL ((e1.trans e2).l hS) a3 ?_
    walk_at "x"
    obtain ⟨st, hst⟩ : ∃ st : Str, atI [V.str "", V.str "0", V.str "a", V.str "ax", V.str "3", V.str "none", V.str "A", V.str "~"] (d3 % 8) = some (.str st) := by
      have h5 : d3 % 8 = 0 ∨ d3 % 8 = 1 ∨ d3 % 8 = 2 ∨ d3 % 8 = 3 ∨ d3 % 8 = 4 ∨ d3 % 8 = 5 ∨ d3 % 8 = 6 ∨ d3 % 8 = 7 := by omega
      rcases h5 with h5 | h5 | h5 | h5 | h5 | h5 | h5 | h5 <;> exact ⟨_, by rw [h5] <;> rfl⟩
    refine x_ixL (SqL.of h2) hst ?_
    exact q _ H2 (e1.trans e2) (.s _)
  walk_at "x"
  refine x_ixL (e1.l hS) a4 ?_
  walk_at "x"
  obtain ⟨k4, hk4, hk4b⟩ : ∃ k4 : Nat, (d4 % 4).toNat = k4 ∧ k4 ≤ 3 := ⟨_, rfl, by omega⟩
  rw [hk4]
  refine lcR_free (K := K) (by omega) (fun i H2 hi e2 R kR => ⟨rfl, ?_⟩) fun pp ys H2 e2 n2 h2 => ?_
  · rw [Int.zero_add]
    walk_at "x"
    have hS2 := (e1.trans e2).l hS
    refine x_slL hS2 fun p3 H3 n3 e3 h3 => ?_
    walk_at "x"
    refine x_slL (e3.l hS2) fun p4 H4 n4 e4 h4 => ?_
    rw [cut_from] at h3
    rw [cut_to] at h4
    have hlen : (ds.map V.int).length = ds.length := List.length_map _
    refine x_rCat (e4 _ _ h3) h4 (by rw [List.length_drop, List.length_take]; omega) fun p5 H5 n5 e5 h5 => ?_
    walk_at "x"
    have hrot : (ds.map V.int).drop i ++ (ds.map V.int).take i = (ds.drop i ++ ds.take i).map V.int := by rw [List.map_append, List.map_drop, List.map_take]
    rw [hrot] at h5
    have hl5 : (ds.drop i ++ ds.take i).length = ds.length := by rw [List.length_append, List.length_drop, List.length_take]; omega
    exact ⟨p5, _, d + 1, rfl, SqL.of h5, by omega, by omega, by rw [hl5]; exact hl, by rw [hl5]; exact hl2, fun v H6 e6 _ => kR v H6 (((e3.trans e4).trans e5).trans e6)⟩
  · walk_at "x"
    refine b_d (fun h10 => ?_) (fun h10 => ?_)
    · walk_at "x"
      exact q _ H2 (e1.trans e2) (.l h2)
    · walk_at "x"
      refine x_tupL (SqL.of h2) fun p6 H6 n6 e6 h6 => ?_
      exact q _ H6 ((e1.trans e2).trans e6) (.t (SqT.of h6))
end Xl

namespace Xl
open PySem PySem.Spec PyProof.Rows L2
local macro_rules | `(tactic| walk_at "x1") => `(tactic| first
  | ((with_reducible show tVar _ _ _ _); refine x_var rfl ?_)
  | (with_reducible refine x_c ?_)
  | (with_reducible refine x_II ?_)
  | ((with_reducible refine x_sd ?_ ?_); (first | (· first | exact trivial | decide | omega | exact .inl ⟨by omega, by omega⟩ | exact .inr ⟨by omega, by omega⟩ | exact ⟨by omega, by omega⟩ | exact ⟨by decide, by decide, by decide⟩) | rotate_left))
  | (with_reducible refine x_asB ?_)
  | (with_reducible refine x_seq ?_)
  | (with_reducible refine x_asgN ?_)
  | (with_reducible refine x_gN ?_)
  | (with_reducible refine x_asg ?_)
  | (with_reducible refine x_drop ?_)
  | (with_reducible refine x_ret ?_)
  | (with_reducible refine x_retN ?_)
  | (with_reducible refine x_next ?_)
  | (with_reducible refine x_if ?_)
  | (with_reducible refine x_brk ?_)
  | (with_reducible refine x_cont ?_)
  | (with_reducible refine x_opI0 ?_)
  | (with_reducible refine x_opI ?_)
  | (with_reducible refine x_opEq ?_)
  | (with_reducible refine x_opNe ?_)
  | (with_reducible refine x_op ?_)
  | (with_reducible refine x_chain ?_)
  | (with_reducible refine x_unI ?_)
  | (with_reducible refine x_gsub ?_)
  | (with_reducible refine x_callN ?_)
  | ((with_reducible show Cn _ _ _ _ _); refine x_Cn rfl rfl ?_)
  | (with_reducible refine x_dget ?_)
  | (with_reducible refine x_din ?_)
  | (with_reducible refine x_dni ?_)
  | (with_reducible refine x_dput ?_)
  | (with_reducible refine x_lc2L ?_)
  | (with_reducible refine x_sl ?_)
  | (with_reducible refine x_noPart ?_)
  | (with_reducible refine x_part ?_)
  | (with_reducible refine x_asO ?_)
  | (with_reducible refine x_rI0 ?_)
  | (with_reducible refine x_rI ?_)
  | (with_reducible refine x_eqI ?_)
  | (with_reducible refine x_neI ?_)
  | (with_reducible refine x_eqS ?_)
  | (with_reducible refine x_neS ?_)
  | (with_reducible refine x_eqB ?_)
  | (with_reducible refine x_neB ?_)
  | (with_reducible refine x_tst ?_)
  | (with_reducible refine x_tB ?_)
  | (with_reducible refine x_and ?_)
  | (with_reducible refine x_or ?_)
  | (with_reducible refine x_not ?_)
  | (with_reducible refine x_andV ?_)
  | (with_reducible refine x_orV ?_)
  | (with_reducible refine x_notV ?_)
  | (with_reducible refine x_ifE ?_)
  | (with_reducible refine x_nilA ?_)
  | (with_reducible refine x_consA ?_)
  | (with_reducible refine x_tup ?_)
  | (with_reducible refine x_lst ?_)
  | (with_reducible refine x_call ?_)
  | (with_reducible refine x_callD ?_)
  | (with_reducible refine x_cb ?_)
  | (with_reducible refine x_min2 ?_)
  | (with_reducible refine x_max2 ?_)
  | (with_reducible refine x_par ?_)
  | (with_reducible refine x_Par ?_)
  | (with_reducible refine x_par3 ?_)
  | (with_reducible refine x_Par3 ?_)
  | ((with_reducible show tAug _ _ _ _ _ _); refine x_aug rfl ?_)
  | (with_reducible refine x_ipI ?_)
  | (with_reducible refine x_forR1 ?_)
  | (with_reducible refine x_forR2 ?_)
  | (with_reducible refine x_forL ?_)
  | (with_reducible refine x_forT ?_)
  | (with_reducible refine x_lcL ?_)
  | (with_reducible refine x_lcT ?_)
  | (with_reducible refine x_lcR1 ?_)
  | (with_reducible refine x_lcR2 ?_)
  | ((with_reducible refine x_R1 ?_ ?_); (first | (· first | decide | omega) | rotate_left))
  | ((with_reducible refine x_R2 ?_ ?_); (first | (· first | decide | omega) | rotate_left))
  | (with_reducible refine x_yes ?_)
  | (with_reducible refine b_t rfl ?_)
  | (with_reducible refine b_f rfl ?_))
local macro_rules | `(tactic| walk_at "x") => `(tactic| repeat walk_at "x1")
local macro_rules | `(tactic| walk_at "bf") => `(tactic| refine b_f (by first | exact decide_eq_false (by omega) | (simp; done) | (simp; omega)) ?_)
local macro_rules | `(tactic| walk_at "bt") => `(tactic| refine b_t (by first | exact decide_eq_true (by omega) | (simp; done) | (simp; omega)) ?_)

/-! ### _law_power, _law_size -/
def sp_law_power (K : PySem.W.Frag) : Sp := fun vs H Q _ => ∃ n : Nat, vs = [.int n] ∧ n ≤ 40 ∧ Q (.int ((2 ^ n : Nat) : Int)) H
theorem len_law_power {K : PySem.W.Frag} : ∀ vs H Q E, sp_law_power K vs H Q E → vs.length = 1 := by
  rintro _ H Q E ⟨a, rfl, _⟩
  rfl
/-- _law_power: exponent found turn -/
def t_law_power (K : PySem.W.Frag) : TS := (tSeq (tAsg (tC (.int 1)) (gName 1)) (tSeq (tFor (iRng1 (tCons (tVar 0) tNil)) (gName 2) (tAsg (tOp rMul (tC (.int 2)) (tVar 1)) (gName 1))) (tRet (tVar 1))))

theorem run_law_power {K : PySem.W.Frag} {vs : List V} {H : Hp} {Q : VK} {E : XK} (h : sp_law_power K vs H Q E) : t_law_power K { nx := fun _ H' => Q .non H', rt := Q } (start ["exponent", "found", "turn"] vs) H := by
  obtain ⟨n, rfl, hn, q⟩ := h
  unfold t_law_power
  walk_at "x"
  rw [Int.toNat_natCast]
  refine for_r (fun i σ H' => H' = H ∧ ∃ o, σ = [some (.int n), some (.int ((2 ^ i : Nat) : Int)), o]) ⟨rfl, none, rfl⟩ ?_ ?_
  · rintro i σ H' hi ⟨eH, o, rfl⟩
    walk_at "x"
    refine ⟨eH, some (.int (0 + (i : Int))), ?_⟩
    have e : (2 : Int) * ((2 ^ i : Nat) : Int) = ((2 ^ (i + 1) : Nat) : Int) := by rw [Nat.pow_succ]; omega
    rw [e] <;> rfl
  · rintro σ H' ⟨rfl, o, rfl⟩
    walk_at "x"
    exact q
def sp_law_size (K : PySem.W.Frag) : Sp := fun vs H Q _ => ∃ p c : Nat, vs = [.int p, .int c] ∧ c ≤ p ∧ p ≤ 10 ∧ Q (.int (lenN p c)) H
theorem len_law_size {K : PySem.W.Frag} : ∀ vs H Q E, sp_law_size K vs H Q E → vs.length = 2 := by
  rintro _ H Q E ⟨a, b, rfl, _⟩
  rfl
/-- _law_size: power points found exponent -/
def t_law_size (K : PySem.W.Frag) : TS := (tSeq (tAsg (tC (.int 0)) (gName 2)) (tSeq (tFor (iRng2 (tCons (tOp rMinus (tVar 0) (tVar 1)) (tCons (tOp rPlus (tVar 0) (tC (.int 1))) tNil))) (gName 3) (tAsg (tOp rPlus (tVar 2) (tCall (sp_law_power K) [] E0 (tCons (tVar 3) tNil))) (gName 2))) (tRet (tVar 2))))

theorem run_law_size {K : PySem.W.Frag} {vs : List V} {H : Hp} {Q : VK} {E : XK} (h : sp_law_size K vs H Q E) : t_law_size K { nx := fun _ H' => Q .non H', rt := Q } (start ["power", "points", "found", "exponent"] vs) H := by
  obtain ⟨p, c, rfl, hc, hp, q⟩ := h
  unfold t_law_size
  walk_at "x"
  have e1 : (p : Int) - (c : Int) = ((p - c : Nat) : Int) := by omega
  have en : ((p : Int) + 1 - (((p - c : Nat) : Int))).toNat = c + 1 := by omega
  rw [e1, en]
  refine for_r (fun i σ H' => H' = H ∧ ∃ o, σ = [some (.int p), some (.int c), some (.int ((2 ^ (p - c + i) - 2 ^ (p - c) : Nat) : Int)), o]) ⟨rfl, none, by simp; rfl⟩ ?_ ?_
  · rintro i σ H' hi ⟨eH, o, rfl⟩
    subst eH
    walk_at "x"
    have e2 : (((p - c : Nat) : Int)) + (i : Int) = ((p - c + i : Nat) : Int) := by omega
    rw [e2]
    refine ⟨p - c + i, rfl, by omega, ?_⟩
    walk_at "x"
    refine ⟨rfl, some (.int ((p - c + i : Nat) : Int)), ?_⟩
    have e3 : ((2 ^ (p - c + i) - 2 ^ (p - c) : Nat) : Int) + ((2 ^ (p - c + i) : Nat) : Int) = ((2 ^ (p - c + (i + 1)) - 2 ^ (p - c) : Nat) : Int) := by
      have h1 : 2 ^ (p - c) ≤ 2 ^ (p - c + i) := Nat.pow_le_pow_right (by decide) (by omega)
      have h2 : 2 ^ (p - c + (i + 1)) = 2 * 2 ^ (p - c + i) := by rw [← Nat.add_assoc, Nat.pow_succ]; omega
      omega
    rw [e3] <;> rfl
  · rintro σ H' ⟨rfl, o, rfl⟩
    walk_at "x"
    have e4 : p - c + (c + 1) = p + 1 := by omega
    rw [e4]
    exact q
/-! ### _law_sizes -/
def sp_law_sizes (K : PySem.W.Frag) : Sp := fun vs H Q _ => ∃ d l : Nat, vs = [.int d, .int l] ∧ d ≤ 10 ∧ l ≤ 10 ∧
  ∀ (zs : List Int) p H', zs.Perm (szsI d l) → zs.Pairwise (· ≤ ·) → Ex H H' → H p = none → H' p = some (.lst (zs.map V.int)) → Q (.ref p) H'
theorem len_law_sizes {K : PySem.W.Frag} : ∀ vs H Q E, sp_law_sizes K vs H Q E → vs.length = 2 := by
  rintro _ H Q E ⟨a, b, rfl, _⟩
  rfl
/-- _law_sizes: most top found power points -/
def t_law_sizes (K : PySem.W.Frag) : TS := (tSeq (tAsg (tLst tNil) (gName 2)) (tSeq (tFor (iRng1 (tCons (tOp rPlus (tVar 1) (tC (.int 1))) tNil)) (gName 3) (tAsg (tOp rCat (tVar 2) (tLc (iRng1 (tCons (tOp rPlus (tCB rMin2 (tCons (tVar 0) (tCons (tVar 3) tNil))) (tC (.int 1))) tNil)) (gName 4) tYes (tCall (sp_law_size K) [] E0 (tCons (tVar 3) (tCons (tVar 4) tNil))) [4])) (gName 2))) (tRet (tCB (rSortedI K) (tCons (tVar 2) tNil)))))

def szsP (d p : Nat) : List Int := ((List.range p).flatMap fun p => (List.range (min d p + 1)).map fun c => ((lenN p c : Nat) : Int))
theorem szsP_succ (d p : Nat) : szsP d (p + 1) = szsP d p ++ (List.range (min d p + 1)).map fun c => ((lenN p c : Nat) : Int) := by
  unfold szsP
  rw [List.range_succ (n := p), List.flatMap_append]
  simp
theorem szsP_end (d l : Nat) : szsP d (l + 1) = szsI d l := by
  unfold szsP szsI szs notesL
  simp only [List.map_flatMap, List.map_map]
  rfl
theorem szsP_len {d p : Nat} (hp : p ≤ 11) : (szsP d p).length ≤ 200 := by
  unfold szsP
  have h1 : ((List.range p).flatMap fun p => (List.range (min d p + 1)).map fun c => ((lenN p c : Nat) : Int)).length ≤ (List.range p).length * 11 := len_flatMap_le fun q hq => by
    rw [List.length_map, List.length_range]
    have := List.mem_range.mp hq
    omega
  rw [List.length_range] at h1
  omega
theorem run_law_sizes {K : PySem.W.Frag} {vs : List V} {H : Hp} {Q : VK} {E : XK} (h : sp_law_sizes K vs H Q E) : t_law_sizes K { nx := fun _ H' => Q .non H', rt := Q } (start ["most", "top", "found", "power", "points"] vs) H := by
  obtain ⟨d, l, rfl, hd, hl, q⟩ := h
  unfold t_law_sizes
  walk_at "x"
  refine x_newL rfl fun p H1 np e1 h1 _ => ?_
  walk_at "x"
  have en : ((l : Int) + 1).toNat = l + 1 := by omega
  rw [en]
  refine for_r (fun i σ H' => ∃ (p : Addr) (o1 : Option V), σ = [some (.int d), some (.int l), some (.ref p), o1, none] ∧ Ex H H' ∧ H' p = some (.lst ((szsP d i).map V.int))) ?_ ?_ ?_
  · exact ⟨p, none, rfl, e1, h1⟩
  · rintro i σ H' hi ⟨p, o1, rfl, eH, hp⟩
    rw [Int.zero_add]
    walk_at "x"
    have em : ((if (i : Int) < (d : Int) then (i : Int) else (d : Int)) + 1).toNat = min d i + 1 := by
      split <;> omega
    rw [em]
    refine lcR (K := K) (fun c => some (.int (lenN i c : Nat))) (by omega) (fun c H2 hc e2 => turn_all fun R k => ⟨rfl, ?_⟩) fun pl ys H2 e2 n2 h2 r2 => ?_
    · rw [Int.zero_add]
      walk_at "x"
      exact ⟨i, c, rfl, by omega, by omega, k _ _ (Ex.refl _) (.int _)⟩
    · rw [fm_some] at r2
      have r3 : RpL K H2 ys (dI ((List.range (min d i + 1)).map fun c => ((lenN i c : Nat) : Int))) := by
        unfold dI
        rw [List.map_map]
        exact r2
      rw [r3.ints_inv] at h2
      have hz := szsP_len (d := d) (p := i) (by omega)
      refine x_rCat (e2 _ _ hp) h2 (by simp only [List.length_map, List.length_range]; omega) fun pc H3 n3 e3 h3 => ?_
      refine ⟨pc, _, rfl, (eH.trans e2).trans e3, ?_⟩
      rw [h3, szsP_succ, List.map_append]
  · rintro σ H' ⟨p, o1, rfl, eH, hp⟩
    walk_at "x"
    rw [szsP_end] at hp
    exact x_sorted (SqL.of hp) fun zs ps H2 hperm hs n2 e2 h2 => q zs ps H2 hperm hs (eH.trans e2) (eH.back n2) h2
end Xl

namespace Xl
open PySem PySem.Spec PyProof.Rows L2
local macro_rules | `(tactic| walk_at "x1") => `(tactic| first
  | ((with_reducible show tVar _ _ _ _); refine x_var rfl ?_)
  | (with_reducible refine x_c ?_)
  | (with_reducible refine x_II ?_)
  | ((with_reducible refine x_sd ?_ ?_); (first | (· first | exact trivial | decide | omega | exact .inl ⟨by omega, by omega⟩ | exact .inr ⟨by omega, by omega⟩ | exact ⟨by omega, by omega⟩ | exact ⟨by decide, by decide, by decide⟩) | rotate_left))
  | (with_reducible refine x_asB ?_)
  | (with_reducible refine x_seq ?_)
  | (with_reducible refine x_asgN ?_)
  | (with_reducible refine x_gN ?_)
  | (with_reducible refine x_asg ?_)
  | (with_reducible refine x_drop ?_)
  | (with_reducible refine x_ret ?_)
  | (with_reducible refine x_retN ?_)
  | (with_reducible refine x_next ?_)
  | (with_reducible refine x_if ?_)
  | (with_reducible refine x_brk ?_)
  | (with_reducible refine x_cont ?_)
  | (with_reducible refine x_opI0 ?_)
  | (with_reducible refine x_opI ?_)
  | (with_reducible refine x_opEq ?_)
  | (with_reducible refine x_opNe ?_)
  | (with_reducible refine x_op ?_)
  | (with_reducible refine x_chain ?_)
  | (with_reducible refine x_unI ?_)
  | (with_reducible refine x_gsub ?_)
  | (with_reducible refine x_callN ?_)
  | ((with_reducible show Cn _ _ _ _ _); refine x_Cn rfl rfl ?_)
  | (with_reducible refine x_dget ?_)
  | (with_reducible refine x_din ?_)
  | (with_reducible refine x_dni ?_)
  | (with_reducible refine x_dput ?_)
  | (with_reducible refine x_lc2L ?_)
  | (with_reducible refine x_sl ?_)
  | (with_reducible refine x_noPart ?_)
  | (with_reducible refine x_part ?_)
  | (with_reducible refine x_asO ?_)
  | (with_reducible refine x_rI0 ?_)
  | (with_reducible refine x_rI ?_)
  | (with_reducible refine x_eqI ?_)
  | (with_reducible refine x_neI ?_)
  | (with_reducible refine x_eqS ?_)
  | (with_reducible refine x_neS ?_)
  | (with_reducible refine x_eqB ?_)
  | (with_reducible refine x_neB ?_)
  | (with_reducible refine x_tst ?_)
  | (with_reducible refine x_tB ?_)
  | (with_reducible refine x_and ?_)
  | (with_reducible refine x_or ?_)
  | (with_reducible refine x_not ?_)
  | (with_reducible refine x_andV ?_)
  | (with_reducible refine x_orV ?_)
  | (with_reducible refine x_notV ?_)
  | (with_reducible refine x_ifE ?_)
  | (with_reducible refine x_nilA ?_)
  | (with_reducible refine x_consA ?_)
  | (with_reducible refine x_tup ?_)
  | (with_reducible refine x_lst ?_)
  | (with_reducible refine x_call ?_)
  | (with_reducible refine x_callD ?_)
  | (with_reducible refine x_cb ?_)
  | (with_reducible refine x_min2 ?_)
  | (with_reducible refine x_max2 ?_)
  | (with_reducible refine x_par ?_)
  | (with_reducible refine x_Par ?_)
  | (with_reducible refine x_par3 ?_)
  | (with_reducible refine x_Par3 ?_)
  | ((with_reducible show tAug _ _ _ _ _ _); refine x_aug rfl ?_)
  | (with_reducible refine x_ipI ?_)
  | (with_reducible refine x_forR1 ?_)
  | (with_reducible refine x_forR2 ?_)
  | (with_reducible refine x_forL ?_)
  | (with_reducible refine x_forT ?_)
  | (with_reducible refine x_lcL ?_)
  | (with_reducible refine x_lcT ?_)
  | (with_reducible refine x_lcR1 ?_)
  | (with_reducible refine x_lcR2 ?_)
  | ((with_reducible refine x_R1 ?_ ?_); (first | (· first | decide | omega) | rotate_left))
  | ((with_reducible refine x_R2 ?_ ?_); (first | (· first | decide | omega) | rotate_left))
  | (with_reducible refine x_yes ?_)
  | (with_reducible refine b_t rfl ?_)
  | (with_reducible refine b_f rfl ?_))
local macro_rules | `(tactic| walk_at "x") => `(tactic| repeat walk_at "x1")
local macro_rules | `(tactic| walk_at "bf") => `(tactic| refine b_f (by first | exact decide_eq_false (by omega) | (simp; done) | (simp; omega)) ?_)
local macro_rules | `(tactic| walk_at "bt") => `(tactic| refine b_t (by first | exact decide_eq_true (by omega) | (simp; done) | (simp; omega)) ?_)

local macro_rules | `(tactic| walk_at "x1") => `(tactic| first
  | (with_reducible refine x_mk ?_)
  | (with_reducible refine x_mkV ?_)
  | (with_reducible refine x_cmeth ?_)
  | (with_reducible refine x_isC ?_)
  | (with_reducible refine x_prop ?_)
  | (with_reducible refine x_fld ?_)
  | (with_reducible refine x_sfld ?_)
  | (with_reducible refine x_fmtD ?_))
local macro_rules | `(tactic| walk_at "x1") => `(tactic| with_reducible refine x_revL ?_)

local macro_rules | `(tactic| walk_at "x1") => `(tactic| first
  | (with_reducible refine x_mkX ?_))
/-- the test ahead of NotImplemented -/
theorem ni_test {K : PySem.W.Frag} (N : NotC K (He.ga K "Note")) (v0 v1 : V) (H : Hp) (h : AnyV K H v1) : tNot (tB (tCB (rIsi K) (tCons (tVar 1) (tCons (tC (.ref (He.ga K "Note"))) tNil)))) (L2.start ["self", "other"] [v0, v1]) H fun b H' => b = true ∧ H' = H := by
  walk_at "x"
  refine x_isiX N h ?_
  walk_at "x"
  exact ⟨rfl, rfl⟩
theorem shaped3 (a b c : Bool) : SeqAt.shaped (.list [.bool a, .bool b, .bool c]) = true := by
  cases a <;> cases b <;> cases c <;> decide +kernel
theorem dp3 {K : PySem.W.Frag} {H : Hp} {p : Addr} {a b c : Bool} (h : H p = some (.lst [.bl a, .bl b, .bl c])) : Dp K H (.ref p) (.list [.bool a, .bool b, .bool c]) := .lst (SqL.of h) (.cons (.bl _) (.cons (.bl _) (.cons (.bl _) .nil)))
def sp_law_signs_right (K : PySem.W.Frag) : Sp := fun vs H Q _ => ∃ (a b : Addr) (p c p' c' : Nat), vs = [.ref a, .ref b, .int ((lenN p c : Nat) : Int), .int ((lenN p' c' : Nat) : Int)] ∧ IsN K H a p c ∧ IsN K H b p' c' ∧ ∀ H', Ex H H' → Q (.bl true) H'
theorem len_law_signs_right {K : PySem.W.Frag} : ∀ vs H Q E, sp_law_signs_right K vs H Q E → vs.length = 4 := by
  rintro _ H Q E ⟨_, _, _, _, _, _, rfl, _⟩
  rfl
/-- _law_signs_right: one other first second -/
def t_law_signs_right (K : PySem.W.Frag) : TS := (tSeq (tIfS (tTest (tOp (rNeD K) (tLst (tCons (tOp (rOwn2 (He.ga K "Note") (sp_Note__eq K) id) (tVar 0) (tVar 1)) (tCons (tOp (rOwn2 (He.ga K "Note") (sp_Note__eq K) (!·)) (tVar 0) (tVar 1)) (tCons (tOp (rOwn2 (He.ga K "Note") (sp_Note__lt K) id) (tVar 0) (tVar 1)) tNil)))) (tLst (tCons (tOp rEq (tVar 2) (tVar 3)) (tCons (tOp rNe (tVar 2) (tVar 3)) (tCons (tOp rLt (tVar 2) (tVar 3)) tNil)))))) (tRet (tC (.bl false))) tNext) (tRet (tOp (rEqD K) (tLst (tCons (tOp (rOwn2 (He.ga K "Note") (sp_Note__le K) id) (tVar 0) (tVar 1)) (tCons (tOp (rOwnR (He.ga K "Note") (sp_Note__lt K)) (tVar 0) (tVar 1)) (tCons (tOp (rOwnR (He.ga K "Note") (sp_Note__le K)) (tVar 0) (tVar 1)) tNil)))) (tLst (tCons (tOp rLe (tVar 2) (tVar 3)) (tCons (tOp rGt (tVar 2) (tVar 3)) (tCons (tOp rGe (tVar 2) (tVar 3)) tNil)))))))

theorem run_law_signs_right {K : PySem.W.Frag} {vs : List V} {H : Hp} {Q : VK} {E : XK} (h : sp_law_signs_right K vs H Q E) : t_law_signs_right K { nx := fun _ H' => Q .non H', rt := Q } (start ["one", "other", "first", "second"] vs) H := by
  obtain ⟨a, b, p, c, p', c', rfl, hA, hB, q⟩ := h
  obtain ⟨dx, hI⟩ := id hA
  obtain ⟨dy, hJ⟩ := id hB
  obtain ⟨x, hx⟩ : ∃ x, x = lenN p c := ⟨_, rfl⟩
  obtain ⟨y, hy⟩ : ∃ y, y = lenN p' c' := ⟨_, rfl⟩
  have d1 : decide ((x : Int) = (y : Int)) = decide (x = y) := by rw [decide_eq_decide]; omega
  have d2 : decide ((x : Int) < (y : Int)) = decide (x < y) := by rw [decide_eq_decide]; omega
  have d3 : decide ((x : Int) ≤ (y : Int)) = decide (x ≤ y) := by rw [decide_eq_decide]; omega
  have d4 : decide ((y : Int) < (x : Int)) = decide (y < x) := by rw [decide_eq_decide]; omega
  have d5 : decide ((y : Int) ≤ (x : Int)) = decide (y ≤ x) := by rw [decide_eq_decide]; omega
  unfold t_law_signs_right
  walk_at "x"
  refine ⟨a, b, dx, dy, _, _, rfl, rfl, hI, hJ, a, b, p, c, p', c', rfl, hA, hB, _, rfl, ?_⟩
  walk_at "x"
  refine ⟨a, b, dx, dy, _, _, rfl, rfl, hI, hJ, a, b, p, c, p', c', rfl, hA, hB, _, rfl, ?_⟩
  walk_at "x"
  refine ⟨a, b, dx, dy, _, _, rfl, rfl, hI, hJ, a, b, p, c, p', c', rfl, hA, hB, _, rfl, ?_⟩
  walk_at "x"
  rw [← hx, ← hy]
  refine x_newL rfl fun p1 H1 n1 e1 h1 _ => ?_
  walk_at "x"
  refine x_newL rfl fun p2 H2 n2 e2 h2 _ => ?_
  rw [d1, d2] at h2
  refine x_neD (dp3 (e2 _ _ h1)) (dp3 h2) (shaped3 _ _ _) ?_
  walk_at "x"
  have e12 := e1.trans e2
  have hA2 := hA.ex e12
  have hB2 := hB.ex e12
  have hI2 := e12 _ _ hI
  have hJ2 := e12 _ _ hJ
  refine ⟨a, b, dx, dy, _, _, rfl, rfl, hI2, hJ2, a, b, p, c, p', c', rfl, hA2, hB2, _, rfl, ?_⟩
  walk_at "x"
  refine ⟨a, b, dx, dy, _, _, rfl, rfl, hI2, hJ2, b, a, p', c', p, c, rfl, hB2, hA2, _, rfl, ?_⟩
  walk_at "x"
  refine ⟨a, b, dx, dy, _, _, rfl, rfl, hI2, hJ2, b, a, p', c', p, c, rfl, hB2, hA2, _, rfl, ?_⟩
  walk_at "x"
  rw [← hx, ← hy]
  refine x_newL rfl fun p3 H3 n3 e3 h3 _ => ?_
  walk_at "x"
  refine x_newL rfl fun p4 H4 n4 e4 h4 _ => ?_
  rw [d3, d4, d5] at h4
  exact x_eqD (dp3 (e4 _ _ h3)) (dp3 h4) (shaped3 _ _ _) (q _ ((e12.trans e3).trans e4))
/-! ### the pairs -/
def PL (i : Nat) : List (Nat × Nat) := (List.range i).flatMap fun p => (List.range (p + 1)).map fun c => (p, c)
theorem PL_succ (i : Nat) : PL (i + 1) = PL i ++ (List.range (i + 1)).map fun c => (i, c) := by
  unfold PL
  rw [List.range_succ (n := i), List.flatMap_append, List.flatMap_cons, List.flatMap_nil, List.append_nil, ← List.range_succ (n := i)]
theorem PL_len {i : Nat} (hi : i ≤ 11) : (PL i).length ≤ 200 := by
  unfold PL
  have h1 : ((List.range i).flatMap fun p => (List.range (p + 1)).map fun c => (p, c)).length ≤ (List.range i).length * 12 := len_flatMap_le fun q hq => by
    rw [List.length_map, List.length_range]
    have := List.mem_range.mp hq
    omega
  rw [List.length_range] at h1
  omega
theorem PL_mem {i p c : Nat} : (p, c) ∈ PL i ↔ p < i ∧ c ≤ p := by
  unfold PL
  simp only [List.mem_flatMap, List.mem_range, List.mem_map, Prod.mk.injEq]
  constructor
  · rintro ⟨a, h1, b, h2, rfl, rfl⟩
    exact ⟨h1, by omega⟩
  · rintro ⟨h1, h2⟩
    exact ⟨p, h1, c, by omega, rfl, rfl⟩
def GP (d : Int) : Nat × Nat := (PL 11).getD (d % 66).toNat (0, 0)
theorem GP_at (d : Int) : (PL 11)[(d % 66).toNat]? = some (GP d) := by
  have hl : (PL 11).length = 66 := by decide +kernel
  have hi : (d % 66).toNat < (PL 11).length := by rw [hl]; omega
  unfold GP
  rw [List.getD_eq_getElem?_getD, List.getElem?_eq_getElem hi] <;> rfl
theorem GP_ok (d : Int) : (GP d).2 ≤ (GP d).1 ∧ (GP d).1 ≤ 10 := by
  have := PL_mem.mp (show ((GP d).1, (GP d).2) ∈ PL 11 from List.mem_of_getElem? (GP_at d))
  omega
def sp_law (K : PySem.W.Frag) : Sp := fun vs H Q _ => ∃ (a : Addr) (ns : List Int), vs = [.ref a] ∧ SqL K H a (ns.map V.int) ∧ ns.length ≤ 63 ∧ ∀ H', Q (.bl true) H'
theorem len_law {K : PySem.W.Frag} : ∀ vs H Q E, sp_law K vs H Q E → vs.length = 1 := by
  rintro _ H Q E ⟨a, ns, rfl, _⟩
  rfl
/-- law: script pairs power one other first second index digits some notes value digit points note -/
def t_law (K : PySem.W.Frag) : TS := (tSeq (tAsg (tLst tNil) (gName 1)) (tSeq (tFor (iRng1 (tCons (tC (.int 11)) tNil)) (gName 2) (tAsg (tOp rCat (tVar 1) (tLc (iRng1 (tCons (tOp rPlus (tVar 2) (tC (.int 1))) tNil)) (gName 13) tYes (tTup (tCons (tVar 2) (tCons (tVar 13) tNil))) [13])) (gName 1))) (tSeq (tFor (iList K (tVar 1)) (gName 3) (tFor (iList K (tVar 1)) (gName 4) (tSeq (tPar 5 6 (tCons (tCall (sp_law_size K) [] E0 (tCons (tOp (rIxT K) (tVar 3) (tC (.int 0))) (tCons (tOp (rIxT K) (tVar 3) (tC (.int 1))) tNil))) (tCons (tCall (sp_law_size K) [] E0 (tCons (tOp (rIxT K) (tVar 4) (tC (.int 0))) (tCons (tOp (rIxT K) (tVar 4) (tC (.int 1))) tNil))) tNil))) (tIfS (tNot (tB (tCall (sp_law_signs_right K) [] E0 (tCons (tMake (He.ga K "Note") (sp_Note__init K) [] E0 (tCons (tOp (rIxT K) (tVar 3) (tC (.int 0))) (tCons (tOp (rIxT K) (tVar 3) (tC (.int 1))) tNil))) (tCons (tMake (He.ga K "Note") (sp_Note__init K) [] E0 (tCons (tOp (rIxT K) (tVar 4) (tC (.int 0))) (tCons (tOp (rIxT K) (tVar 4) (tC (.int 1))) tNil))) (tCons (tVar 5) (tCons (tVar 6) tNil))))))) (tRet (tC (.bl false))) tNext)))) (tSeq (tFor (iRng1 (tCons (tC (.int 6)) tNil)) (gName 7) (tSeq (tAsg (tCall (sp_law_digits K) [] E0 (tCons (tVar 0) (tCons (tVar 7) (tCons (tC (.int 40)) (tCons (tC (.int 27720)) tNil))))) (gName 8)) (tSeq (tAsg (tLc (iList K (tSl (rSlL K) (tVar 8) tNoPart (tPart (tC (.int 9))))) (gName 12) tYes (tOp (rIxL K) (tVar 1) (tOp rMod (tVar 12) (tC (.int 66)))) [12]) (gName 9)) (tSeq (tAsg (tLc (iList K (tVar 9)) (gTup K 2 (gCons (gName 2) (gCons (gName 13) gNil))) tYes (tMake (He.ga K "Note") (sp_Note__init K) [] E0 (tCons (tVar 2) (tCons (tVar 13) tNil))) [2, 13]) (gName 10)) (tSeq (tIfS (tTest (tOp (rNeD K) (tLc (iList K (tCB (rSortO K (He.ga K "Note") (sp_Note__lt K)) (tCons (tVar 10) tNil))) (gName 14) tYes (tProp (He.ga K "Note") (sp_Note_length K) [] E0 (tVar 14)) [14]) (tCB (rSortedI K) (tCons (tLc (iList K (tVar 9)) (gTup K 2 (gCons (gName 2) (gCons (gName 13) gNil))) tYes (tCall (sp_law_size K) [] E0 (tCons (tVar 2) (tCons (tVar 13) tNil))) [2, 13]) tNil)))) (tRet (tC (.bl false))) tNext) (tFor (iTup K (tTup (tCons (tProp (He.ga K "Note") (sp_Note_length K) [] E0 (tOp (rIxL K) (tVar 10) (tC (.int 0)))) (tCons (tCB (rStrOwn (He.ga K "Note") (sp_Note__str K)) (tCons (tOp (rIxL K) (tVar 10) (tC (.int 0))) tNil)) (tCons (tOp (rIxL K) (tVar 9) (tC (.int 0))) (tCons (tTup (tCons (tOp (rIxL K) (tVar 10) (tC (.int 0))) tNil)) (tCons (tC .non) (tCons (tCall (sp_law_any_value K) [] E0 (tCons (tSl (rSlL K) (tVar 8) (tPart (tC (.int 9))) tNoPart) (tCons (tC (.int 0)) tNil))) tNil)))))))) (gName 11) (tIfS (tOr (tTest (tOp (rNI K (He.ga K "Note") false) (tOp (rIxL K) (tVar 10) (tC (.int 0))) (tVar 11))) (tNot (tTest (tOp (rNI K (He.ga K "Note") true) (tOp (rIxL K) (tVar 10) (tC (.int 0))) (tVar 11))))) (tRet (tC (.bl false))) tNext))))))) (tRet (tAndV (tOp (rOwn2 (He.ga K "Note") (sp_Note__lt K) id) (tMake (He.ga K "Note") (sp_Note__init K) [] E0 (tCons (tC (.int 2)) (tCons (tC (.int 1)) tNil))) (tMake (He.ga K "Note") (sp_Note__init K) [] E0 (tCons (tC (.int 2)) (tCons (tC (.int 2)) tNil)))) (tAndV (tOp (rOwnR (He.ga K "Note") (sp_Note__lt K)) (tMake (He.ga K "Note") (sp_Note__init K) [] E0 (tCons (tC (.int 2)) (tCons (tC (.int 0)) tNil))) (tMake (He.ga K "Note") (sp_Note__init K) [] E0 (tCons (tC (.int 1)) (tCons (tC (.int 1)) tNil)))) (tNotV (tOp (rNI K (He.ga K "Note") false) (tMake (He.ga K "Note") (sp_Note__init K) [] E0 (tCons (tC (.int 2)) (tCons (tC (.int 1)) tNil))) (tC (.int 6)))))))))))

theorem run_law {K : PySem.W.Frag} {vs : List V} {H : Hp} {Q : VK} {E : XK} (h : sp_law K vs H Q E) : t_law K { nx := fun _ H' => Q .non H', rt := Q } (start ["script", "pairs", "power", "one", "other", "first", "second", "index", "digits", "some", "notes", "value", "digit", "points", "note"] vs) H := by
  obtain ⟨a, ns, rfl, hS, hn, q⟩ := h
  unfold t_law
  walk_at "x"
  refine x_newL rfl fun p0 H0 n0 e0 h0 _ => ?_
  walk_at "x"
  refine for_r (fun i σ H' => ∃ pr ys o2, σ = [some (.ref a), some (.ref pr), o2, none, none, none, none, none, none, none, none, none, none, none, none] ∧ Ex H H' ∧ H' pr = some (.lst ys) ∧ RpL K H' ys ((PL i).map dPair)) ⟨p0, [], _, rfl, e0, h0, .nil⟩ ?_ ?_
  · rintro i σ H1 hi ⟨pr, ys, o2, rfl, e1, h1, r1⟩
    rw [Int.zero_add]
    have hi : i < 11 := hi
    walk_at "x"
    have ei : ((i : Int) + 1).toNat = i + 1 := by omega
    rw [ei]
    refine lcR (K := K) (fun c => some (dPair (i, c))) (by omega) (fun c H2 hc e2 => turn_all fun R k => ⟨rfl, ?_⟩) fun pl zs H2 e2 n2 h2 r2 => ?_
    · rw [Int.zero_add]
      walk_at "x"
      refine x_newT rfl fun pt H3 n3 e3 h3 _ => ?_
      exact k _ _ e3 (Rp.ti_of (ns := [(i : Int), (c : Int)]) (SqT.of h3))
    · rw [fm_some] at r2
      have l1 := r1.len
      have l2 := r2.len
      have l3 := PL_len (i := i) (by omega)
      rw [List.length_map] at l1 l2
      rw [List.length_range] at l2
      refine x_rCat (e2 _ _ h1) h2 (by omega) fun pc H3 n3 e3 h3 => ?_
      walk_at "x"
      refine ⟨pc, _, _, rfl, (e1.trans e2).trans e3, h3, ?_⟩
      rw [PL_succ, List.map_append, List.map_map]
      exact (r1.mono (e2.trans e3)).app (r2.mono e3)
  rintro σ HA ⟨pr, ys, o2, rfl, eA, hA, rA⟩
  have rA : RpL K HA ys ((PL 11).map dPair) := rA
  have lA := rA.len
  rw [List.length_map] at lA
  have pOk : ∀ {i p c : Nat}, (PL 11)[i]? = some (p, c) → c ≤ p ∧ p ≤ 10 := fun h => by
    have := PL_mem.mp (List.mem_of_getElem? h)
    omega
  walk_at "x"
  refine x_RefL (SqL.of hA) (for_l (xs := ys) (fun i σ H' => ∃ o3 o4 o5 o6, σ = [some (.ref a), some (.ref pr), o2, o3, o4, o5, o6, none, none, none, none, none, none, none, none] ∧ Ex HA H') ⟨_, _, _, _, rfl, Ex.refl _⟩ (fun _ _ _ _ ⟨_, _, _, _, _, e⟩ => e.l (SqL.of hA)) ?_ ?_)
  · rintro i x σ HB hx ⟨o3, o4, o5, o6, rfl, eB⟩
    obtain ⟨p, c, t1, hpc, rfl, hs⟩ := pair_at (rA.mono eB) hx
    have hq := pOk hpc
    walk_at "x"
    refine x_RefL (SqL.of (eB _ _ hA)) (for_l (xs := ys) (fun j σ H' => ∃ o4 o5 o6, σ = [some (.ref a), some (.ref pr), o2, some (.ref t1), o4, o5, o6, none, none, none, none, none, none, none, none] ∧ Ex HB H') ⟨_, _, _, rfl, Ex.refl _⟩ (fun _ _ _ _ ⟨_, _, _, _, e⟩ => e.l (SqL.of (eB _ _ hA))) ?_ ?_)
    · rintro j x σ HC hx ⟨o4, o5, o6, rfl, eC⟩
      obtain ⟨p', c', t2, hpc', rfl, hs'⟩ := pair_at (rA.mono (eB.trans eC)) hx
      have hq' := pOk hpc'
      have hs := eC.t hs
      walk_at "x"
      refine x_ixT hs (v := .int p) rfl ?_
      walk_at "x"
      refine x_ixT hs (v := .int c) rfl ?_
      walk_at "x"
      refine ⟨p, c, rfl, hq.1, by omega, ?_⟩
      walk_at "x"
      refine x_ixT hs' (v := .int p') rfl ?_
      walk_at "x"
      refine x_ixT hs' (v := .int c') rfl ?_
      walk_at "x"
      refine ⟨p', c', rfl, hq'.1, by omega, ?_⟩
      walk_at "x"
      refine x_ixT hs (v := .int p) rfl ?_
      walk_at "x"
      refine x_ixT hs (v := .int c) rfl ?_
      walk_at "x"
      refine x_note hq.1 hq.2 fun b1 H3 e3 n3 hb1 => ?_
      walk_at "x"
      refine x_ixT (e3.t hs') (v := .int p') rfl ?_
      walk_at "x"
      refine x_ixT (e3.t hs') (v := .int c') rfl ?_
      walk_at "x"
      refine x_note hq'.1 hq'.2 fun b2 H4 e4 n4 hb2 => ?_
      walk_at "x"
      refine ⟨b1, b2, p, c, p', c', rfl, hb1.ex e4, hb2, fun H5 e5 => ?_⟩
      walk_at "x"
      exact ⟨_, _, _, rfl, ((eC.trans e3).trans e4).trans e5⟩
    · rintro σ HC ⟨o4, o5, o6, rfl, eC⟩
      exact ⟨_, _, _, _, rfl, eB.trans eC⟩
  rintro σ HB ⟨o3, o4, o5, o6, rfl, eB⟩
  walk_at "x"
  refine for_r (fun i σ H' => ∃ o7 o8 o9 o10 o11, σ = [some (.ref a), some (.ref pr), o2, o3, o4, o5, o6, o7, o8, o9, o10, o11, none, none, none] ∧ Ex HB H') ⟨_, _, _, _, _, rfl, Ex.refl _⟩ ?_ ?_
  · rintro i σ HC hi ⟨o7, o8, o9, o10, o11, rfl, eC⟩
    rw [Int.zero_add]
    have hi : i < 6 := hi
    walk_at "x"
    refine ⟨a, ns, i, 40, 27720, rfl, ((eA.trans eB).trans eC).l hS, by omega, by omega, hn, by omega, by omega, by omega, by omega, fun pd H2 ds e2 n2 h2 hdl hdb => ?_⟩
    walk_at "x"
    refine x_slL (SqL.of h2) fun p3 H3 n3 e3 h3 => ?_
    rw [show cutV (ds.map V.int) none (some 9) = (ds.take 9).map V.int by rw [List.map_take]; exact cut_to _ 9] at h3
    obtain ⟨N, hN⟩ : ∃ N, N = ds.take 9 := ⟨_, rfl⟩
    have hNl : N.length = 9 := by rw [hN, List.length_take]; omega
    rw [← hN] at h3
    have eAll : Ex HA H3 := ((eB.trans eC).trans e2).trans e3
    refine x_RefL (SqL.of h3) (lcLI (K := K) (fun n => some (dPair (GP n))) (SqL.of h3) (by omega) (fun i n H' hi e' => turn_all fun R k => ⟨rfl, ?_⟩) fun p4 zs H4 e4 n4 h4 r4 => ?_)
    · walk_at "x"
      have rr := rA.mono (eAll.trans e')
      obtain ⟨v, hv, rv⟩ := rr.get (i := (n % 66).toNat) (d := dPair (GP n)) (by rw [List.getElem?_map, GP_at] <;> rfl)
      exact x_ixL (SqL.of ((eAll.trans e') _ _ hA)) (atI_n (by omega) hv) (k _ _ (Ex.refl _) rv)
    obtain ⟨P, hP⟩ : ∃ P, P = N.map GP := ⟨_, rfl⟩
    have hPl : P.length = 9 := by rw [hP, List.length_map, hNl]
    have hPok : ∀ q ∈ P, q.2 ≤ q.1 ∧ q.1 ≤ 10 := fun q hq => by
      rw [hP] at hq
      obtain ⟨n, _, rfl⟩ := List.mem_map.mp hq
      exact GP_ok n
    have r4 : RpL K H4 zs (P.map dPair) := by
      have e : N.filterMap (fun n => some (dPair (GP n))) = P.map dPair := by
        rw [hP, List.filterMap_eq_map', List.map_map] <;> rfl
      rw [← e]
      exact r4
    have l4 := r4.len
    rw [List.length_map, hPl] at l4
    walk_at "x"
    refine x_RefL (SqL.of h4) (lcL (K := K) (fun i => P[i]?.map fun q => dN K q.1 q.2) (SqL.of h4) (by omega) (fun i x H' hi e' => ?_) fun p5 ws H5 e5 n5 h5 r5 => ?_)
    · obtain ⟨p, c, t, hpc, rfl, ht⟩ := pair_at (r4.mono e') hi
      have hq := hPok (p, c) (List.mem_of_getElem? hpc)
      rw [hpc]
      refine turn_all fun R k => ?_
      refine x_gtup2 ht ?_
      refine x_gN ?_
      refine x_gN ?_
      refine ⟨rfl, ?_⟩
      walk_at "x"
      exact x_note hq.1 hq.2 fun b H6 e6 n6 hb => k _ _ e6 hb.rp
    have r5 : RpL K H5 ws (dNs K P) := by
      rw [l4, ← hPl, fm_at (fun q : Nat × Nat => dN K q.1 q.2)] at r5
      exact r5
    have l5 : ws.length = 9 := by
      have := r5.len
      unfold dNs at this
      rw [List.length_map, hPl] at this
      exact this
    walk_at "x"
    refine x_sortN (SqL.of h5) r5 (by omega) fun ws2 ms p6 H6 r6 pm hsrt n6 e6 h6 => ?_
    have hml : ms.length = 9 := by rw [pm.length_eq, hPl]
    have l6 : ws2.length = ms.length := by
      have := r6.len
      unfold dNs at this
      rw [List.length_map] at this
      exact this
    refine x_RefL (SqL.of h6) (lcL (K := K) (fun i => ms[i]?.map fun q => D.int ((lenN q.1 q.2 : Nat) : Int)) (SqL.of h6) (by omega) (fun i x H' hi e' => ?_) fun p7 us H7 e7 n7 h7 r7 => ?_)
    · obtain ⟨p, c, b, hpc, rfl, hb⟩ := note_at (r6.mono e') hi
      rw [hpc]
      refine turn_all fun R k => ⟨rfl, ?_⟩
      walk_at "x"
      obtain ⟨dx, hbI⟩ := id hb
      refine x_Ofc hbI ⟨b, p, c, rfl, hb, ?_⟩
      exact k _ _ (Ex.refl _) (.int _)
    rw [l6, fm_at (fun q : Nat × Nat => D.int ((lenN q.1 q.2 : Nat) : Int))] at r7
    have r7 : RpL K H7 us (dI (lenS ms)) := by
      unfold dI lenS
      rw [List.map_map]
      exact r7
    rw [r7.ints_inv] at h7
    walk_at "x"
    have e47 := (e5.trans e6).trans e7
    refine x_RefL (SqL.of (e47 _ _ h4)) (lcL (K := K) (fun i => P[i]?.map fun q => D.int ((lenN q.1 q.2 : Nat) : Int)) (SqL.of (e47 _ _ h4)) (by omega) (fun i x H' hi e' => ?_) fun p8 us8 H8 e8 n8 h8 r8 => ?_)
    · obtain ⟨p, c, t, hpc, rfl, ht⟩ := pair_at (r4.mono (e47.trans e')) hi
      have hq := hPok (p, c) (List.mem_of_getElem? hpc)
      rw [hpc]
      refine turn_all fun R k => ?_
      refine x_gtup2 ht ?_
      refine x_gN ?_
      refine x_gN ?_
      refine ⟨rfl, ?_⟩
      walk_at "x"
      exact ⟨p, c, rfl, hq.1, by omega, k _ _ (Ex.refl _) (.int _)⟩
    rw [l4, ← hPl, fm_at (fun q : Nat × Nat => D.int ((lenN q.1 q.2 : Nat) : Int))] at r8
    have r8 : RpL K H8 us8 (dI (lenS P)) := by
      unfold dI lenS
      rw [List.map_map]
      exact r8
    rw [r8.ints_inv] at h8
    walk_at "x"
    refine x_sorted (SqL.of h8) fun zs9 p9 H9 hperm hs9 n9 e9 h9 => ?_
    have hz : lenS ms = zs9 := by
      have h1 : (lenS ms).Perm zs9 := (pm.map _).trans hperm.symm
      exact h1.eq_of_pairwise (fun a b _ _ x y => Int.le_antisymm x y) (by unfold lenS; rw [List.pairwise_map]; exact hsrt.imp fun h => by omega) hs9
    rw [← hz] at h9
    refine x_neLI (ns := lenS ms) (ms := lenS ms) (SqL.of ((e8.trans e9) _ _ h7)) (SqL.of h9) ?_
    walk_at "x"
    refine b_f (by simp) ?_
    walk_at "x"
    have e59 : Ex H5 H9 := ((e6.trans e7).trans e8).trans e9
    have h59 := e59 _ _ h5
    obtain ⟨w0, hw0⟩ : ∃ w0, ws[0]? = some w0 := ⟨ws[0]'(by omega), List.getElem?_eq_getElem _⟩
    obtain ⟨p, c, b, hpc, rfl, hb⟩ := note_at (r5.mono e59) hw0
    have hq := hPok (p, c) (List.mem_of_getElem? hpc)
    have hat : atI ws 0 = some (.ref b) := atI_n (by decide) hw0
    obtain ⟨dx, hbI⟩ := id hb
    refine x_ixL (SqL.of h59) hat ?_
    walk_at "x"
    refine x_Ofc hbI ⟨b, p, c, rfl, hb, ?_⟩
    walk_at "x"
    refine x_ixL (SqL.of h59) hat ?_
    walk_at "x"
    refine x_strO hbI ⟨b, p, c, rfl, hq.1, hq.2, hb, _, rfl, ?_⟩
    walk_at "x"
    obtain ⟨z0, hz0⟩ : ∃ z0, zs[0]? = some z0 := ⟨zs[0]'(by omega), List.getElem?_eq_getElem _⟩
    obtain ⟨p', c', t0, _, rfl, ht0⟩ := pair_at (r4.mono (e5.trans e59)) hz0
    refine x_ixL (SqL.of ((e5.trans e59) _ _ h4)) (atI_n (by decide) hz0) ?_
    walk_at "x"
    refine x_ixL (SqL.of h59) hat ?_
    walk_at "x"
    refine x_newT rfl fun p10 H10 n10 e10 h10 _ => ?_
    walk_at "x"
    have e210 : Ex H2 H10 := (((e3.trans e4).trans e5).trans e59).trans e10
    refine x_slL (SqL.of (e210 _ _ h2)) fun p11 H11 n11 e11 h11 => ?_
    rw [show cutV (ds.map V.int) (some 9) none = (ds.drop 9).map V.int by rw [List.map_drop]; exact cut_from _ 9] at h11
    walk_at "x"
    refine ⟨p11, ds.drop 9, 0, rfl, SqL.of h11, rfl, by decide, by rw [List.length_drop]; omega, by rw [List.length_drop]; omega, fun v H12 e12 hv => ?_⟩
    walk_at "x"
    refine x_newT rfl fun p13 H13 n13 e13 h13 _ => ?_
    have e1013 := (e11.trans e12).trans e13
    have e913 := e10.trans e1013
    have h13n := e913 _ _ h59
    refine x_RefT (SqT.of h13) (for_t (xs := [V.int ((lenN p c : Nat) : Int), .str (strN p c), .ref t0, .ref p10, .non, v]) (fun j σ H' => ∃ o11, σ = [some (.ref a), some (.ref pr), o2, o3, o4, o5, o6, some (.int i), some (.ref pd), some (.ref p4), some (.ref p5), o11, none, none, none] ∧ H' = H13) ⟨_, rfl, rfl⟩ (fun _ _ _ _ ⟨_, _, e⟩ => by rw [e]; exact SqT.of h13) ?_ ?_)
    · rintro j u σ H' hj ⟨o11, rfl, rfl⟩
      have hu : AnyV K H' u := by
        have := List.mem_of_getElem? hj
        simp only [List.mem_cons, List.not_mem_nil, or_false] at this
        rcases this with rfl | rfl | rfl | rfl | rfl | rfl
        · exact .i _
        · exact .s _
        · exact .t (e913.t ht0)
        · exact .t (SqT.of (e1013 _ _ h10))
        · exact .n
        · exact hv.ex e13
      walk_at "x"
      refine x_ixL (SqL.of h13n) hat ?_
      walk_at "x"
      refine ⟨b, dx, _, rfl, e913 _ _ hbI, hu, ?_⟩
      walk_at "x"
      refine x_ixL (SqL.of h13n) hat ?_
      walk_at "x"
      refine ⟨b, dx, _, rfl, e913 _ _ hbI, hu, ?_⟩
      walk_at "x"
      exact ⟨_, rfl, rfl⟩
    · rintro σ H' ⟨o11, rfl, rfl⟩
      exact ⟨_, _, _, _, _, rfl, ((eC.trans e2).trans e210).trans e1013⟩
  rintro σ HC ⟨o7, o8, o9, o10, o11, rfl, eC⟩
  walk_at "x"
  refine x_note (p := 2) (c := 1) (by decide) (by decide) fun b1 H1 e1 n1 hb1 => ?_
  walk_at "x"
  refine x_note (p := 2) (c := 2) (by decide) (by decide) fun b2 H2 e2 n2 hb2 => ?_
  obtain ⟨d1, i1⟩ := id (hb1.ex e2)
  obtain ⟨d2, i2⟩ := id hb2
  refine ⟨b1, b2, d1, d2, _, _, rfl, rfl, i1, i2, b1, b2, 2, 1, 2, 2, rfl, hb1.ex e2, hb2, _, rfl, ?_⟩
  walk_at "x"
  first | (refine b_t (by decide +kernel) ?_; walk_at "x") | skip
  refine x_note (p := 2) (c := 0) (by decide) (by decide) fun b3 H3 e3 n3 hb3 => ?_
  walk_at "x"
  refine x_note (p := 1) (c := 1) (by decide) (by decide) fun b4 H4 e4 n4 hb4 => ?_
  obtain ⟨d3, i3⟩ := id (hb3.ex e4)
  obtain ⟨d4, i4⟩ := id hb4
  refine ⟨b3, b4, d3, d4, _, _, rfl, rfl, i3, i4, b4, b3, 1, 1, 2, 0, rfl, hb4, hb3.ex e4, _, rfl, ?_⟩
  walk_at "x"
  first | (refine b_t (by decide +kernel) ?_; walk_at "x") | skip
  refine x_note (p := 2) (c := 1) (by decide) (by decide) fun b5 H5 e5 n5 hb5 => ?_
  obtain ⟨d5, i5⟩ := id hb5
  walk_at "x"
  refine ⟨b5, d5, _, rfl, i5, .i _, ?_⟩
  walk_at "x"
  exact q _
end Xl

/-! the derivations and the end, printed by a program of ours -/
namespace Xl
open PySem PySem.Spec PyProof.Rows L2
def topS (i : Nat) : Stmt := PySem.Challenge.pw_tiednotes_k02_whole_signs_of_notes.main.body.getD i (.Pass ⟨0, 0, 0, 0⟩)
abbrev s_is_integer : Stmt := topS 6
theorem sc_is_integer : FnScope ["value", "low", "high"] ["value", "low", "high"] (defScope s_is_integer) := ⟨rfl, rfl, rfl, by decide +kernel, rfl, by decide +kernel, by decide +kernel⟩
abbrev s_length_of : Stmt := topS 7
theorem sc_length_of : FnScope ["power", "dots"] ["power", "dots"] (defScope s_length_of) := ⟨rfl, rfl, rfl, by decide +kernel, rfl, by decide +kernel, by decide +kernel⟩
abbrev s_Note_length : Stmt := inClass (topS 8) 4
theorem sc_Note_length : FnScope ["self"] ["self"] (defScope s_Note_length) := ⟨rfl, rfl, rfl, by decide +kernel, rfl, by decide +kernel, by decide +kernel⟩
abbrev s_Note__eq : Stmt := inClass (topS 8) 5
theorem sc_Note__eq : FnScope ["self", "other"] ["self", "other"] (defScope s_Note__eq) := ⟨rfl, rfl, rfl, by decide +kernel, rfl, by decide +kernel, by decide +kernel⟩
abbrev s_Note__lt : Stmt := inClass (topS 8) 6
theorem sc_Note__lt : FnScope ["self", "other"] ["self", "other"] (defScope s_Note__lt) := ⟨rfl, rfl, rfl, by decide +kernel, rfl, by decide +kernel, by decide +kernel⟩
abbrev s_Note__le : Stmt := inClass (topS 8) 7
theorem sc_Note__le : FnScope ["self", "other"] ["self", "other"] (defScope s_Note__le) := ⟨rfl, rfl, rfl, by decide +kernel, rfl, by decide +kernel, by decide +kernel⟩
abbrev s_Note__str : Stmt := inClass (topS 8) 8
theorem sc_Note__str : FnScope ["self", "dots"] ["self"] (defScope s_Note__str) := ⟨rfl, rfl, rfl, by decide +kernel, rfl, by decide +kernel, by decide +kernel⟩
abbrev s_law_cell : Stmt := topS 10
theorem sc_law_cell : FnScope ["script", "index"] ["script", "index"] (defScope s_law_cell) := ⟨rfl, rfl, rfl, by decide +kernel, rfl, by decide +kernel, by decide +kernel⟩
abbrev s_law_power : Stmt := topS 13
theorem sc_law_power : FnScope ["exponent", "found", "turn"] ["exponent"] (defScope s_law_power) := ⟨rfl, rfl, rfl, by decide +kernel, rfl, by decide +kernel, by decide +kernel⟩
abbrev s_Note__init : Stmt := inClass (topS 8) 0
theorem sc_Note__init : FnScope ["self", "power", "dots"] ["self", "power", "dots"] (defScope s_Note__init) := ⟨rfl, rfl, rfl, by decide +kernel, rfl, by decide +kernel, by decide +kernel⟩
abbrev s_law_digits : Stmt := topS 11
theorem sc_law_digits : FnScope ["script", "index", "count", "base", "primes", "cell", "rest", "digits", "k", "mixed"] ["script", "index", "count", "base"] (defScope s_law_digits) := ⟨rfl, rfl, rfl, by decide +kernel, rfl, by decide +kernel, by decide +kernel⟩
abbrev s_law_size : Stmt := topS 14
theorem sc_law_size : FnScope ["power", "points", "found", "exponent"] ["power", "points"] (defScope s_law_size) := ⟨rfl, rfl, rfl, by decide +kernel, rfl, by decide +kernel, by decide +kernel⟩
abbrev s_law_signs_right : Stmt := topS 15
theorem sc_law_signs_right : FnScope ["one", "other", "first", "second"] ["one", "other", "first", "second"] (defScope s_law_signs_right) := ⟨rfl, rfl, rfl, by decide +kernel, rfl, by decide +kernel, by decide +kernel⟩
abbrev s_law_any_value : Stmt := topS 12
theorem sc_law_any_value : FnScope ["digits", "depth", "choice", "number", "parts", "k"] ["digits", "depth"] (defScope s_law_any_value) := ⟨rfl, rfl, rfl, by decide +kernel, rfl, by decide +kernel, by decide +kernel⟩
abbrev s_law : Stmt := topS 16
theorem sc_law : FnScope ["script", "pairs", "power", "one", "other", "first", "second", "index", "digits", "some", "notes", "value", "digit", "points", "note"] ["script"] (defScope s_law) := ⟨rfl, rfl, rfl, by decide +kernel, rfl, by decide +kernel, by decide +kernel⟩
def dn_is_integer : He5.DefA := ⟨fun K => He.ga K "is_integer", "is_integer", "is_integer", defArgs s_is_integer, defBody s_is_integer, defScope s_is_integer, [], []⟩
def dn_length_of : He5.DefA := ⟨fun K => He.ga K "length_of", "length_of", "length_of", defArgs s_length_of, defBody s_length_of, defScope s_length_of, [], []⟩
def dn_Note_length : He5.DefA := ⟨fun K => He5.wf K (He.ga K "Note") "property" "length", "length", "Note.length", defArgs s_Note_length, defBody s_Note_length, defScope s_Note_length, [], []⟩
def dn_Note__eq : He5.DefA := ⟨fun K => He.ma K (He.ga K "Note") "__eq__", "__eq__", "Note.__eq__", defArgs s_Note__eq, defBody s_Note__eq, defScope s_Note__eq, [], []⟩
def dn_Note__lt : He5.DefA := ⟨fun K => He.ma K (He.ga K "Note") "__lt__", "__lt__", "Note.__lt__", defArgs s_Note__lt, defBody s_Note__lt, defScope s_Note__lt, [], []⟩
def dn_Note__le : He5.DefA := ⟨fun K => He.ma K (He.ga K "Note") "__le__", "__le__", "Note.__le__", defArgs s_Note__le, defBody s_Note__le, defScope s_Note__le, [], []⟩
def dn_Note__str : He5.DefA := ⟨fun K => He.ma K (He.ga K "Note") "__str__", "__str__", "Note.__str__", defArgs s_Note__str, defBody s_Note__str, defScope s_Note__str, [], []⟩
def dn_law_cell : He5.DefA := ⟨fun K => He.ga K "_law_cell", "_law_cell", "_law_cell", defArgs s_law_cell, defBody s_law_cell, defScope s_law_cell, [], []⟩
def dn_law_power : He5.DefA := ⟨fun K => He.ga K "_law_power", "_law_power", "_law_power", defArgs s_law_power, defBody s_law_power, defScope s_law_power, [], []⟩
def dn_Note__init : He5.DefA := ⟨fun K => He.ma K (He.ga K "Note") "__init__", "__init__", "Note.__init__", defArgs s_Note__init, defBody s_Note__init, defScope s_Note__init, [], []⟩
def dn_law_digits : He5.DefA := ⟨fun K => He.ga K "_law_digits", "_law_digits", "_law_digits", defArgs s_law_digits, defBody s_law_digits, defScope s_law_digits, [], []⟩
def dn_law_size : He5.DefA := ⟨fun K => He.ga K "_law_size", "_law_size", "_law_size", defArgs s_law_size, defBody s_law_size, defScope s_law_size, [], []⟩
def dn_law_signs_right : He5.DefA := ⟨fun K => He.ga K "_law_signs_right", "_law_signs_right", "_law_signs_right", defArgs s_law_signs_right, defBody s_law_signs_right, defScope s_law_signs_right, [], []⟩
def dn_law_any_value : He5.DefA := ⟨fun K => He.ga K "_law_any_value", "_law_any_value", "_law_any_value", defArgs s_law_any_value, defBody s_law_any_value, defScope s_law_any_value, [], []⟩
def dn_law : He5.DefA := ⟨fun K => He.ga K "law", "law", "law", defArgs s_law, defBody s_law, defScope s_law, [], []⟩
structure Tx (K : PySem.W.Frag) (mg : Str → Option Value) : Prop where
  n_isinstance : mg "isinstance" = none
  n_int : mg "int" = none
  n_bool : mg "bool" = none
  n_NotImplemented : mg "NotImplemented" = none
  n_len : mg "len" = none
  n_range : mg "range" = none
  n_tuple : mg "tuple" = none
  n_sorted : mg "sorted" = none
  n_str : mg "str" = none
  g_POWERS : mg "POWERS" = some (.ref (He.ga K "POWERS"))
  g_NoteError : mg "NoteError" = some (.ref (He.ga K "NoteError"))
  g_InvalidNote : mg "InvalidNote" = some (.ref (He.ga K "InvalidNote"))
  t_POWERS : PowT K
  ox_InvalidNote : OwnX K (He.ga K "InvalidNote")
  g_Note : mg "Note" = some (.ref (He.ga K "Note"))
  cl_Note : Cls K (He.ga K "Note")
  na_Note_height : NoAttr K (He.ga K "Note") "height"
  na_Note_points : NoAttr K (He.ga K "Note") "points"
  na_Note_n : NoAttr K (He.ga K "Note") "n"
  nt_Note : NtT K
  ni_Note : NiC K (He.ga K "Note")
  nc_Note : NotC K (He.ga K "Note")
  ne_Note : NeOk K (He.ga K "Note")
  g_is_integer : mg "is_integer" = some (.ref (He.ga K "is_integer"))
  g_length_of : mg "length_of" = some (.ref (He.ga K "length_of"))
  pr_Note_length : PropOf K (He.ga K "Note") "length" (He.ma K (He.ga K "Note") "length") (He5.wf K (He.ga K "Note") "property" "length")
  me_Note__eq : Meth K (He.ga K "Note") "__eq__" (He.ma K (He.ga K "Note") "__eq__")
  me_Note__lt : Meth K (He.ga K "Note") "__lt__" (He.ma K (He.ga K "Note") "__lt__")
  me_Note__le : Meth K (He.ga K "Note") "__le__" (He.ma K (He.ga K "Note") "__le__")
  me_Note__str : Meth K (He.ga K "Note") "__str__" (He.ma K (He.ga K "Note") "__str__")
  g__law_cell : mg "_law_cell" = some (.ref (He.ga K "_law_cell"))
  g__law_power : mg "_law_power" = some (.ref (He.ga K "_law_power"))
  mk_Note : Mk K (He.ga K "Note") (He.ma K (He.ga K "Note") "__init__")
  g__law_digits : mg "_law_digits" = some (.ref (He.ga K "_law_digits"))
  g__law_size : mg "_law_size" = some (.ref (He.ga K "_law_size"))
  g__law_signs_right : mg "_law_signs_right" = some (.ref (He.ga K "_law_signs_right"))
  g__law_any_value : mg "_law_any_value" = some (.ref (He.ga K "_law_any_value"))
  g_law : mg "law" = some (.ref (He.ga K "law"))
  f_is_integer : ∃ fd, FunD K "is_integer" "is_integer" (defArgs s_is_integer) (defBody s_is_integer) (defScope s_is_integer) [] [] (He.ga K "is_integer") fd
  f_length_of : ∃ fd, FunD K "length_of" "length_of" (defArgs s_length_of) (defBody s_length_of) (defScope s_length_of) [] [] (He.ga K "length_of") fd
  f_Note_length : ∃ fd, FunD K "length" "Note.length" (defArgs s_Note_length) (defBody s_Note_length) (defScope s_Note_length) [] [] (He5.wf K (He.ga K "Note") "property" "length") fd
  f_Note__eq : ∃ fd, FunD K "__eq__" "Note.__eq__" (defArgs s_Note__eq) (defBody s_Note__eq) (defScope s_Note__eq) [] [] (He.ma K (He.ga K "Note") "__eq__") fd
  f_Note__lt : ∃ fd, FunD K "__lt__" "Note.__lt__" (defArgs s_Note__lt) (defBody s_Note__lt) (defScope s_Note__lt) [] [] (He.ma K (He.ga K "Note") "__lt__") fd
  f_Note__le : ∃ fd, FunD K "__le__" "Note.__le__" (defArgs s_Note__le) (defBody s_Note__le) (defScope s_Note__le) [] [] (He.ma K (He.ga K "Note") "__le__") fd
  f_Note__str : ∃ fd, FunD K "__str__" "Note.__str__" (defArgs s_Note__str) (defBody s_Note__str) (defScope s_Note__str) [] [] (He.ma K (He.ga K "Note") "__str__") fd
  f_law_cell : ∃ fd, FunD K "_law_cell" "_law_cell" (defArgs s_law_cell) (defBody s_law_cell) (defScope s_law_cell) [] [] (He.ga K "_law_cell") fd
  f_law_power : ∃ fd, FunD K "_law_power" "_law_power" (defArgs s_law_power) (defBody s_law_power) (defScope s_law_power) [] [] (He.ga K "_law_power") fd
  f_Note__init : ∃ fd, FunD K "__init__" "Note.__init__" (defArgs s_Note__init) (defBody s_Note__init) (defScope s_Note__init) [] [] (He.ma K (He.ga K "Note") "__init__") fd
  f_law_digits : ∃ fd, FunD K "_law_digits" "_law_digits" (defArgs s_law_digits) (defBody s_law_digits) (defScope s_law_digits) [] [] (He.ga K "_law_digits") fd
  f_law_size : ∃ fd, FunD K "_law_size" "_law_size" (defArgs s_law_size) (defBody s_law_size) (defScope s_law_size) [] [] (He.ga K "_law_size") fd
  f_law_signs_right : ∃ fd, FunD K "_law_signs_right" "_law_signs_right" (defArgs s_law_signs_right) (defBody s_law_signs_right) (defScope s_law_signs_right) [] [] (He.ga K "_law_signs_right") fd
  f_law_any_value : ∃ fd, FunD K "_law_any_value" "_law_any_value" (defArgs s_law_any_value) (defBody s_law_any_value) (defScope s_law_any_value) [] [] (He.ga K "_law_any_value") fd
  f_law : ∃ fd, FunD K "law" "law" (defArgs s_law) (defBody s_law) (defScope s_law) [] [] (He.ga K "law") fd
section
variable {P : Program} {w : World} {K : PySem.W.Frag} {mg : Str → Option Value} {base : Heap}
theorem fn_is_integer (T : Tx K mg) {fd : FuncData} (F : FunD K "is_integer" "is_integer" (defArgs s_is_integer) (defBody s_is_integer) (defScope s_is_integer) [] [] (He.ga K "is_integer") fd) : FnOk P w K mg base CX0 1 (He.ga K "is_integer") fd ["value", "low", "high"] (sp_is_integer K) :=
  F.ok sc_is_integer len_is_integer (fun cdv A outer s H vs Q E hr h => ⟨t_is_integer K, PSs.nox (pss_one (ps_ret (pe_and (pe_callB call_isi (by rfl) T.n_isinstance (by decide +kernel) (pa_cons (pv 0) (pa_cons (pe_bltn (v := .ty "int") (by rfl) T.n_int (by decide +kernel) rfl) pa_nil))) (pe_and (pe_not (pe_callB call_isi (by rfl) T.n_isinstance (by decide +kernel) (pa_cons (pv 0) (pa_cons (pe_bltn (v := .ty "bool") (by rfl) T.n_bool (by decide +kernel) rfl) pa_nil)))) (pe_one (pe_chain op_le op_le (pv 1) (pv 0) (pv 2))))))), run_is_integer h⟩)
theorem ok_is_integer (T : Tx K mg) : Cal P w K mg base "is_integer" 1 ["value", "low", "high"] (sp_is_integer K) := by
  obtain ⟨fd, F⟩ := T.f_is_integer
  exact ⟨fd, T.g_is_integer, F.kp, F.bindsN (fun _ _ _ _ _ _ us hl => match us, hl with | [_, _, _], _ => rfl), fn_is_integer T F⟩
theorem fn_length_of (T : Tx K mg) {fd : FuncData} (F : FunD K "length_of" "length_of" (defArgs s_length_of) (defBody s_length_of) (defScope s_length_of) [] [] (He.ga K "length_of") fd) : FnOk P w K mg base CX0 1 (He.ga K "length_of") fd ["power", "dots"] (sp_length_of K) :=
  F.ok sc_length_of len_length_of (fun cdv A outer s H vs Q E hr h => ⟨t_length_of K, PSs.nox (pss_one (ps_ret (pe_op op_sub (pe_ix ix_tup (pe_glob (by rfl) T.g_POWERS rfl) (pe_op op_add (pv 0) pe_int) (fun _ _ => rfl)) (pe_ix ix_tup (pe_glob (by rfl) T.g_POWERS rfl) (pe_op op_sub (pv 0) (pv 1)) (fun _ _ => rfl))))), run_length_of (T.t_POWERS) h⟩)
theorem ok_length_of (T : Tx K mg) : Cal P w K mg base "length_of" 1 ["power", "dots"] (sp_length_of K) := by
  obtain ⟨fd, F⟩ := T.f_length_of
  exact ⟨fd, T.g_length_of, F.kp, F.bindsN (fun _ _ _ _ _ _ us hl => match us, hl with | [_, _], _ => rfl), fn_length_of T F⟩
theorem fn_Note_length (T : Tx K mg) {fd : FuncData} (F : FunD K "length" "Note.length" (defArgs s_Note_length) (defBody s_Note_length) (defScope s_Note_length) [] [] (He5.wf K (He.ga K "Note") "property" "length") fd) : FnOk P w K mg base CX0 1 (He5.wf K (He.ga K "Note") "property" "length") fd ["self"] (sp_Note_length K) :=
  F.ok sc_Note_length len_Note_length (fun cdv A outer s H vs Q E hr h => ⟨t_Note_length K, PSs.nox (pss_one (ps_ret (pe_fld (pv 0) (by rfl)))), run_Note_length (T.nt_Note) h⟩)
theorem ok_Note_length (T : Tx K mg) : CalP P w K mg base "Note" "length" 1 ["self"] (sp_Note_length K) := by
  obtain ⟨fd, F⟩ := T.f_Note_length
  exact ⟨_, _, fd, T.cl_Note, T.pr_Note_length, F.bindsN (fun _ _ _ _ _ _ us hl => match us, hl with | [_], _ => rfl), fn_Note_length T F⟩
theorem ok_Note__eq_ni (T : Tx K mg) : CalNI P w K mg base "Note" 1 := by
  obtain ⟨fd, F⟩ := T.f_Note__eq
  exact ⟨_, T.cl_Note, T.me_Note__eq, ni_of (tc := (tNot (tB (tCB (rIsi K) (tCons (tVar 1) (tCons (tC (.ref (He.ga K "Note"))) tNil)))))) F sc_Note__eq (F.bindsN (fun _ _ _ _ _ _ us hl => match us, hl with | [_, _], _ => rfl)) T.n_NotImplemented (fun _ _ _ _ _ => by rfl) (fun cdv A outer s H hr => (pt_not (pt_val (pe_callB call_isi (by rfl) T.n_isinstance (by decide +kernel) (pa_cons (pv 1) (pa_cons (pe_glob (by rfl) T.g_Note rfl) pa_nil)))))) (fun v0 v1 H h => ni_test T.nc_Note v0 v1 H h)⟩
theorem fn_Note__eq (T : Tx K mg) {fd : FuncData} (F : FunD K "__eq__" "Note.__eq__" (defArgs s_Note__eq) (defBody s_Note__eq) (defScope s_Note__eq) [] [] (He.ma K (He.ga K "Note") "__eq__") fd) : FnOk P w K mg base CX0 1 (He.ma K (He.ga K "Note") "__eq__") fd ["self", "other"] (sp_Note__eq K) :=
  F.ok sc_Note__eq len_Note__eq (fun cdv A outer s H vs Q E hr h => ⟨t_Note__eq K, PSs.nox (pss_cons (ps_if (pt_not (pt_val (pe_callB call_isi (by rfl) T.n_isinstance (by decide +kernel) (pa_cons (pv 1) (pa_cons (pe_glob (by rfl) T.g_Note rfl) pa_nil))))) (pss_one ps_no) pss_nil) (pss_one (ps_ret (pe_cmpR op_eq (pe_fld (pv 0) (by rfl)) (pe_fld (pv 1) (by rfl)) (nomark _))))), run_Note__eq (T.nt_Note) h⟩)
theorem ok_Note__eq (T : Tx K mg) : CalT P w K mg base "Note" "__eq__" 1 ["self", "other"] (sp_Note__eq K) := by
  obtain ⟨fd, F⟩ := T.f_Note__eq
  exact ⟨_, fd, T.cl_Note, T.me_Note__eq, F.bindsN (fun _ _ _ _ _ _ us hl => match us, hl with | [_, _], _ => rfl), fn_Note__eq T F⟩
theorem fn_Note__lt (T : Tx K mg) {fd : FuncData} (F : FunD K "__lt__" "Note.__lt__" (defArgs s_Note__lt) (defBody s_Note__lt) (defScope s_Note__lt) [] [] (He.ma K (He.ga K "Note") "__lt__") fd) : FnOk P w K mg base CX0 1 (He.ma K (He.ga K "Note") "__lt__") fd ["self", "other"] (sp_Note__lt K) :=
  F.ok sc_Note__lt len_Note__lt (fun cdv A outer s H vs Q E hr h => ⟨t_Note__lt K, PSs.nox (pss_cons (ps_if (pt_not (pt_val (pe_callB call_isi (by rfl) T.n_isinstance (by decide +kernel) (pa_cons (pv 1) (pa_cons (pe_glob (by rfl) T.g_Note rfl) pa_nil))))) (pss_one ps_no) pss_nil) (pss_one (ps_ret (pe_cmpR op_lt (pe_fld (pv 0) (by rfl)) (pe_fld (pv 1) (by rfl)) (nomark _))))), run_Note__lt (T.nt_Note) h⟩)
theorem ok_Note__lt (T : Tx K mg) : CalT P w K mg base "Note" "__lt__" 1 ["self", "other"] (sp_Note__lt K) := by
  obtain ⟨fd, F⟩ := T.f_Note__lt
  exact ⟨_, fd, T.cl_Note, T.me_Note__lt, F.bindsN (fun _ _ _ _ _ _ us hl => match us, hl with | [_, _], _ => rfl), fn_Note__lt T F⟩
theorem fn_Note__le (T : Tx K mg) {fd : FuncData} (F : FunD K "__le__" "Note.__le__" (defArgs s_Note__le) (defBody s_Note__le) (defScope s_Note__le) [] [] (He.ma K (He.ga K "Note") "__le__") fd) : FnOk P w K mg base CX0 1 (He.ma K (He.ga K "Note") "__le__") fd ["self", "other"] (sp_Note__le K) :=
  F.ok sc_Note__le len_Note__le (fun cdv A outer s H vs Q E hr h => ⟨t_Note__le K, PSs.nox (pss_cons (ps_if (pt_not (pt_val (pe_callB call_isi (by rfl) T.n_isinstance (by decide +kernel) (pa_cons (pv 1) (pa_cons (pe_glob (by rfl) T.g_Note rfl) pa_nil))))) (pss_one ps_no) pss_nil) (pss_one (ps_ret (pe_cmpR op_le (pe_fld (pv 0) (by rfl)) (pe_fld (pv 1) (by rfl)) (nomark _))))), run_Note__le (T.nt_Note) h⟩)
theorem ok_Note__le (T : Tx K mg) : CalT P w K mg base "Note" "__le__" 1 ["self", "other"] (sp_Note__le K) := by
  obtain ⟨fd, F⟩ := T.f_Note__le
  exact ⟨_, fd, T.cl_Note, T.me_Note__le, F.bindsN (fun _ _ _ _ _ _ us hl => match us, hl with | [_, _], _ => rfl), fn_Note__le T F⟩
theorem fn_Note__str (T : Tx K mg) {fd : FuncData} (F : FunD K "__str__" "Note.__str__" (defArgs s_Note__str) (defBody s_Note__str) (defScope s_Note__str) [] [] (He.ma K (He.ga K "Note") "__str__") fd) : FnOk P w K mg base CX0 1 (He.ma K (He.ga K "Note") "__str__") fd ["self"] (sp_Note__str K) :=
  F.ok sc_Note__str len_Note__str (fun cdv A outer s H vs Q E hr h => ⟨t_Note__str K, PSs.nox (pss_cons (ps_set (i := 1) sc_Note__str.nd rfl (Or.inl rfl) (pe_op op_repS pe_str (pe_fld (pv 0) (by rfl)))) (pss_one (ps_ret (pe_joined (PJ.cons (pe_fmtD (pe_fld (pv 0) (by rfl))) (PJ.cons (pe_fmt (pv 1)) PJ.nil)))))), run_Note__str (T.nt_Note) h⟩)
theorem ok_Note__str (T : Tx K mg) : CalT P w K mg base "Note" "__str__" 1 ["self"] (sp_Note__str K) := by
  obtain ⟨fd, F⟩ := T.f_Note__str
  exact ⟨_, fd, T.cl_Note, T.me_Note__str, F.bindsN (fun _ _ _ _ _ _ us hl => match us, hl with | [_], _ => rfl), fn_Note__str T F⟩
theorem fn_law_cell (T : Tx K mg) {fd : FuncData} (F : FunD K "_law_cell" "_law_cell" (defArgs s_law_cell) (defBody s_law_cell) (defScope s_law_cell) [] [] (He.ga K "_law_cell") fd) : FnOk P w K mg base CX0 1 (He.ga K "_law_cell") fd ["script", "index"] (sp_law_cell K) :=
  F.ok sc_law_cell len_law_cell (fun cdv A outer s H vs Q E hr h => ⟨t_law_cell K, PSs.nox (pss_cons (ps_if (pt_cmpR op_lt (pv 1) (pe_callB call_len_seq (by rfl) T.n_len (by decide +kernel) (pa_cons (pv 0) pa_nil)) (nomark _)) (pss_one (ps_ret (pe_ix ix_list (pv 0) (pv 1) (fun _ _ => rfl)))) pss_nil) (pss_cons (ps_if (pt_cmpR op_eq (pe_callB call_len_seq (by rfl) T.n_len (by decide +kernel) (pa_cons (pv 0) pa_nil)) pe_int (nomark _)) (pss_one (ps_ret (pe_op op_add (pe_op op_mul pe_int (pv 1)) pe_int))) pss_nil) (pss_one (ps_ret (pe_op op_add (pe_op op_mod (pe_ix ix_list (pv 0) (pe_op op_mod (pv 1) (pe_callB call_len_seq (by rfl) T.n_len (by decide +kernel) (pa_cons (pv 0) pa_nil))) (fun _ _ => rfl)) pe_int) (pe_op op_mul pe_int (pv 1))))))), run_law_cell h⟩)
theorem ok_law_cell (T : Tx K mg) : Cal P w K mg base "_law_cell" 1 ["script", "index"] (sp_law_cell K) := by
  obtain ⟨fd, F⟩ := T.f_law_cell
  exact ⟨fd, T.g__law_cell, F.kp, F.bindsN (fun _ _ _ _ _ _ us hl => match us, hl with | [_, _], _ => rfl), fn_law_cell T F⟩
theorem fn_law_power (T : Tx K mg) {fd : FuncData} (F : FunD K "_law_power" "_law_power" (defArgs s_law_power) (defBody s_law_power) (defScope s_law_power) [] [] (He.ga K "_law_power") fd) : FnOk P w K mg base CX0 1 (He.ga K "_law_power") fd ["exponent"] (sp_law_power K) :=
  F.ok sc_law_power len_law_power (fun cdv A outer s H vs Q E hr h => ⟨t_law_power K, PSs.nox (pss_cons (ps_set (i := 1) sc_law_power.nd rfl (Or.inl rfl) pe_int) (pss_cons (ps_for PassesOwn.never rfl (pi_range1 (by rfl) T.n_range (pa_cons (pv 0) pa_nil)) (pg_name (i := 2) sc_law_power.nd rfl (Or.inl rfl)) (pss_one (ps_set (i := 1) sc_law_power.nd rfl (Or.inl rfl) (pe_op op_mul pe_int (pv 1))))) (pss_one (ps_ret (pv 1))))), run_law_power h⟩)
theorem ok_law_power (T : Tx K mg) : Cal P w K mg base "_law_power" 1 ["exponent"] (sp_law_power K) := by
  obtain ⟨fd, F⟩ := T.f_law_power
  exact ⟨fd, T.g__law_power, F.kp, F.bindsN (fun _ _ _ _ _ _ us hl => match us, hl with | [_], _ => rfl), fn_law_power T F⟩
theorem fn_Note__init (T : Tx K mg) (c_is_integer : Cal P w K mg base "is_integer" 1 ["value", "low", "high"] (sp_is_integer K)) (c_length_of : Cal P w K mg base "length_of" 1 ["power", "dots"] (sp_length_of K)) {fd : FuncData} (F : FunD K "__init__" "Note.__init__" (defArgs s_Note__init) (defBody s_Note__init) (defScope s_Note__init) [] [] (He.ma K (He.ga K "Note") "__init__") fd) : FnOk P w K mg base (L2N.CX P w) 2 (He.ma K (He.ga K "Note") "__init__") fd ["self", "power", "dots"] (sp_Note__init K) :=
  F.ok sc_Note__init len_Note__init (fun cdv A outer s H vs Q E hr h => ⟨t_Note__init K E, (pss_cons (ps_if (PT.nox (PW.pt (pw_or (pt_not (pt_val (pe_cal c_is_integer hr (by rfl) (pa_cons (pv 1) (pa_cons pe_int (pa_cons pe_int pa_nil)))))) (pw_or1 (pt_not (pt_val (pe_cal c_is_integer hr (by rfl) (pa_cons (pv 2) (pa_cons pe_int (pa_cons (pv 1) pa_nil)))))))))) (pss_one (ps_rais rfl takesN T.ox_InvalidNote T.g_InvalidNote (by rfl))) pss_nil) (pss_cons (ps_nox (ps_fld (pv 0) (pv 1) (by rfl))) (pss_cons (ps_nox (ps_fld (pv 0) (pv 2) (by rfl))) (pss_one (ps_nox (ps_fld (pv 0) (pe_cal c_length_of hr (by rfl) (pa_cons (pv 1) (pa_cons (pv 2) pa_nil))) (by rfl))))))), run_Note__init (T.nt_Note) h⟩)
theorem ok_Note__init (T : Tx K mg) (c_is_integer : Cal P w K mg base "is_integer" 1 ["value", "low", "high"] (sp_is_integer K)) (c_length_of : Cal P w K mg base "length_of" 1 ["power", "dots"] (sp_length_of K)) : CalMX P w K mg base "Note" 2 ["self", "power", "dots"] (sp_Note__init K) := by
  obtain ⟨fd, F⟩ := T.f_Note__init
  exact ⟨_, fd, T.g_Note, T.mk_Note, F.bindsN (fun _ _ _ _ _ _ us hl => match us, hl with | [_, _, _], _ => rfl), fn_Note__init T c_is_integer c_length_of F⟩
theorem fn_law_digits (T : Tx K mg) (c_law_cell : Cal P w K mg base "_law_cell" 1 ["script", "index"] (sp_law_cell K)) {fd : FuncData} (F : FunD K "_law_digits" "_law_digits" (defArgs s_law_digits) (defBody s_law_digits) (defScope s_law_digits) [] [] (He.ga K "_law_digits") fd) : FnOk P w K mg base CX0 2 (He.ga K "_law_digits") fd ["script", "index", "count", "base"] (sp_law_digits K) :=
  F.ok sc_law_digits len_law_digits (fun cdv A outer s H vs Q E hr h => ⟨t_law_digits K, PSs.nox (pss_cons (ps_set (i := 4) sc_law_digits.nd rfl (Or.inl rfl) (pe_tup (pa_cons pe_int (pa_cons pe_int (pa_cons pe_int (pa_cons pe_int (pa_cons pe_int (pa_cons pe_int (pa_cons pe_int (pa_cons pe_int pa_nil)))))))))) (pss_cons (ps_set (i := 5) sc_law_digits.nd rfl (Or.inl rfl) (pe_cal c_law_cell hr (by rfl) (pa_cons (pv 0) (pa_cons (pv 1) pa_nil)))) (pss_cons (ps_set (i := 6) sc_law_digits.nd rfl (Or.inl rfl) (pe_ifExp (pt_cmpR op_ge (pv 5) (pe_op op_pow pe_int pe_int) (nomark _)) (pv 5) pe_int)) (pss_cons (ps_set (i := 7) sc_law_digits.nd rfl (Or.inl rfl) (pe_lst pa_nil)) (pss_cons (ps_for PassesOwn.never rfl (pi_range1 (by rfl) T.n_range (pa_cons (pv 2) pa_nil)) (pg_name (i := 8) sc_law_digits.nd rfl (Or.inl rfl)) (pss_cons (ps_set (i := 9) sc_law_digits.nd rfl (Or.inl rfl) (pe_op op_mul (pe_op op_mod (pv 5) (pe_ix ix_tup (pv 4) (pe_op op_mod (pv 8) pe_int) (fun _ _ => rfl))) (pe_op op_add pe_int (pe_op op_mul (pe_op op_mul pe_int (pv 8)) (pv 8))))) (pss_cons (ps_set (i := 9) sc_law_digits.nd rfl (Or.inl rfl) (pe_op op_add (pe_op op_add (pv 9) (pe_op op_mul (pe_op op_mul pe_int (pe_op op_add (pv 8) pe_int)) (pe_op op_add (pv 8) pe_int))) (pe_op op_mul pe_int (pv 1)))) (pss_cons (ps_set (i := 9) sc_law_digits.nd rfl (Or.inl rfl) (pe_op op_mod (pv 9) (pe_ix ix_tup (pv 4) (pe_op op_mod (pe_op op_add (pe_op op_mul pe_int (pv 8)) (pv 1)) pe_int) (fun _ _ => rfl)))) (pss_cons (ps_set (i := 9) sc_law_digits.nd rfl (Or.inl rfl) (pe_op op_mod (pe_op op_mul (pe_op op_mul (pv 9) (pv 9)) (pv 9)) (pe_ix ix_tup (pv 4) (pe_op op_mod (pe_op op_add (pv 8) pe_int) pe_int) (fun _ _ => rfl)))) (pss_cons (ps_if (pt_cmpR op_gt (pv 6) pe_int (nomark _)) (pss_one (ps_set (i := 9) sc_law_digits.nd rfl (Or.inl rfl) (pv 6))) pss_nil) (pss_cons (ps_expr (pe_bm PySem.F.plainAttrs_list PySem.F.slot_list_append PySem.F.type_list_append mt_append (pv 7) (pa_cons (pe_op op_mod (pv 9) (pv 3)) pa_nil))) (pss_one (ps_set (i := 6) sc_law_digits.nd rfl (Or.inl rfl) (pe_op op_fdiv (pv 6) (pv 3))))))))))) (pss_one (ps_ret (pv 7)))))))), run_law_digits h⟩)
theorem ok_law_digits (T : Tx K mg) (c_law_cell : Cal P w K mg base "_law_cell" 1 ["script", "index"] (sp_law_cell K)) : Cal P w K mg base "_law_digits" 2 ["script", "index", "count", "base"] (sp_law_digits K) := by
  obtain ⟨fd, F⟩ := T.f_law_digits
  exact ⟨fd, T.g__law_digits, F.kp, F.bindsN (fun _ _ _ _ _ _ us hl => match us, hl with | [_, _, _, _], _ => rfl), fn_law_digits T c_law_cell F⟩
theorem fn_law_size (T : Tx K mg) (c_law_power : Cal P w K mg base "_law_power" 1 ["exponent"] (sp_law_power K)) {fd : FuncData} (F : FunD K "_law_size" "_law_size" (defArgs s_law_size) (defBody s_law_size) (defScope s_law_size) [] [] (He.ga K "_law_size") fd) : FnOk P w K mg base CX0 2 (He.ga K "_law_size") fd ["power", "points"] (sp_law_size K) :=
  F.ok sc_law_size len_law_size (fun cdv A outer s H vs Q E hr h => ⟨t_law_size K, PSs.nox (pss_cons (ps_set (i := 2) sc_law_size.nd rfl (Or.inl rfl) pe_int) (pss_cons (ps_for PassesOwn.never rfl (pi_range2 (by rfl) T.n_range (pa_cons (pe_op op_sub (pv 0) (pv 1)) (pa_cons (pe_op op_add (pv 0) pe_int) pa_nil))) (pg_name (i := 3) sc_law_size.nd rfl (Or.inl rfl)) (pss_one (ps_set (i := 2) sc_law_size.nd rfl (Or.inl rfl) (pe_op op_add (pv 2) (pe_cal c_law_power hr (by rfl) (pa_cons (pv 3) pa_nil)))))) (pss_one (ps_ret (pv 2))))), run_law_size h⟩)
theorem ok_law_size (T : Tx K mg) (c_law_power : Cal P w K mg base "_law_power" 1 ["exponent"] (sp_law_power K)) : Cal P w K mg base "_law_size" 2 ["power", "points"] (sp_law_size K) := by
  obtain ⟨fd, F⟩ := T.f_law_size
  exact ⟨fd, T.g__law_size, F.kp, F.bindsN (fun _ _ _ _ _ _ us hl => match us, hl with | [_, _], _ => rfl), fn_law_size T c_law_power F⟩
theorem fn_law_signs_right (T : Tx K mg) (c_Note__eq : CalT P w K mg base "Note" "__eq__" 1 ["self", "other"] (sp_Note__eq K)) (c_Note__lt : CalT P w K mg base "Note" "__lt__" 1 ["self", "other"] (sp_Note__lt K)) (c_Note__le : CalT P w K mg base "Note" "__le__" 1 ["self", "other"] (sp_Note__le K)) {fd : FuncData} (F : FunD K "_law_signs_right" "_law_signs_right" (defArgs s_law_signs_right) (defBody s_law_signs_right) (defScope s_law_signs_right) [] [] (He.ga K "_law_signs_right") fd) : FnOk P w K mg base CX0 3 (He.ga K "_law_signs_right") fd ["one", "other", "first", "second"] (sp_law_signs_right K) :=
  F.ok sc_law_signs_right len_law_signs_right (fun cdv A outer s H vs Q E hr h => ⟨t_law_signs_right K, PSs.nox (pss_cons (ps_if (pt_cmpR (op_neD hr.units) (pe_lst (pa_cons (pe_cmpR (op_own2 c_Note__eq (hr.mono (by decide)) (fun _ _ => rfl) rfl) (pv 0) (pv 1) (nomark _)) (pa_cons (pe_cmpR (op_neOwn c_Note__eq T.ne_Note hr) (pv 0) (pv 1) (nomark _)) (pa_cons (pe_cmpR (op_own2 c_Note__lt (hr.mono (by decide)) (fun _ _ => rfl) rfl) (pv 0) (pv 1) (nomark _)) pa_nil)))) (pe_lst (pa_cons (pe_cmpR op_eq (pv 2) (pv 3) (nomark _)) (pa_cons (pe_cmpR op_ne (pv 2) (pv 3) (nomark _)) (pa_cons (pe_cmpR op_lt (pv 2) (pv 3) (nomark _)) pa_nil)))) (nomark _)) (pss_one (ps_ret pe_bl)) pss_nil) (pss_one (ps_ret (pe_cmpR (op_eqD hr.units) (pe_lst (pa_cons (pe_cmpR (op_own2 c_Note__le (hr.mono (by decide)) (fun _ _ => rfl) rfl) (pv 0) (pv 1) (nomark _)) (pa_cons (pe_cmpR (op_gtOwn c_Note__lt T.ni_Note (hr.mono (by decide))) (pv 0) (pv 1) (nomark _)) (pa_cons (pe_cmpR (op_geOwn c_Note__le T.ni_Note (hr.mono (by decide))) (pv 0) (pv 1) (nomark _)) pa_nil)))) (pe_lst (pa_cons (pe_cmpR op_le (pv 2) (pv 3) (nomark _)) (pa_cons (pe_cmpR op_gt (pv 2) (pv 3) (nomark _)) (pa_cons (pe_cmpR op_ge (pv 2) (pv 3) (nomark _)) pa_nil)))) (nomark _))))), run_law_signs_right h⟩)
theorem ok_law_signs_right (T : Tx K mg) (c_Note__eq : CalT P w K mg base "Note" "__eq__" 1 ["self", "other"] (sp_Note__eq K)) (c_Note__lt : CalT P w K mg base "Note" "__lt__" 1 ["self", "other"] (sp_Note__lt K)) (c_Note__le : CalT P w K mg base "Note" "__le__" 1 ["self", "other"] (sp_Note__le K)) : Cal P w K mg base "_law_signs_right" 3 ["one", "other", "first", "second"] (sp_law_signs_right K) := by
  obtain ⟨fd, F⟩ := T.f_law_signs_right
  exact ⟨fd, T.g__law_signs_right, F.kp, F.bindsN (fun _ _ _ _ _ _ us hl => match us, hl with | [_, _, _, _], _ => rfl), fn_law_signs_right T c_Note__eq c_Note__lt c_Note__le F⟩
theorem fn_law_any_value (T : Tx K mg) {fd : FuncData} (F : FunD K "_law_any_value" "_law_any_value" (defArgs s_law_any_value) (defBody s_law_any_value) (defScope s_law_any_value) [] [] (He.ga K "_law_any_value") fd) : ∀ n, FnOk P w K mg base CX0 n (He.ga K "_law_any_value") fd ["digits", "depth"] (sp_any n K)
  | 0 => ⟨fun _ _ _ _ h => h.elim, fun _ _ _ _ _ _ _ _ _ _ _ _ _ h => h.elim⟩
  | n + 1 => by
    have c_rec : Cal P w K mg base "_law_any_value" n ["digits", "depth"] (sp_any n K) := ⟨fd, T.g__law_any_value, F.kp, F.bindsN (fun _ _ _ _ _ _ us hl => match us, hl with | [_, _], _ => rfl), fn_law_any_value T F n⟩
    exact F.ok sc_law_any_value (len_any (n + 1)) (fun cdv A outer s H vs Q E hr h => ⟨t_law_any_value K n, PSs.nox (pss_cons (ps_set (i := 2) sc_law_any_value.nd rfl (Or.inl rfl) (pe_op op_mod (pe_ix ix_list (pv 0) (pv 1) (fun _ _ => rfl)) pe_int)) (pss_cons (ps_set (i := 3) sc_law_any_value.nd rfl (Or.inl rfl) (pe_ix ix_list (pe_lst (pa_cons (pe_op op_sub (pe_op op_mod (pe_ix ix_list (pv 0) (pe_op op_add (pv 1) pe_int) (fun _ _ => rfl)) pe_int) pe_int) (pa_cons (pe_op op_sub pe_int (pe_op op_pow pe_int pe_int)) (pa_cons (pe_op op_pow pe_int pe_int) pa_nil)))) (pe_op op_mod (pe_ix ix_list (pv 0) (pe_op op_add (pv 1) pe_int) (fun _ _ => rfl)) pe_int) (fun _ _ => rfl))) (pss_cons (ps_if (PW.pt (pw_or (pt_cmpR op_lt (pv 2) pe_int (nomark _)) (pw_or1 (pt_cmpR op_gt (pv 1) pe_int (nomark _))))) (pss_one (ps_ret (pv 3))) pss_nil) (pss_cons (ps_if (pt_cmpR op_lt (pv 2) pe_int (nomark _)) (pss_one (ps_ret (pe_ix ix_list (pe_lst (pa_cons pe_bl (pa_cons pe_bl (pa_cons pe_non pa_nil)))) (pe_op op_sub (pv 2) pe_int) (fun _ _ => rfl)))) pss_nil) (pss_cons (ps_if (pt_cmpR op_lt (pv 2) pe_int (nomark _)) (pss_one (ps_ret (pe_ix ix_list (pe_lst (pa_cons pe_str (pa_cons pe_str (pa_cons pe_str (pa_cons pe_str (pa_cons pe_str (pa_cons pe_str (pa_cons pe_str (pa_cons pe_str pa_nil))))))))) (pe_op op_mod (pe_ix ix_list (pv 0) (pe_op op_add (pv 1) pe_int) (fun _ _ => rfl)) pe_int) (fun _ _ => rfl)))) pss_nil) (pss_cons (ps_setLc (i := 4) (own := [("k", 5)]) rfl sc_law_any_value.nd rfl rfl (sw_true rfl rfl rfl (by decide +kernel)) (pi_range1 (by rfl) T.n_range (pa_cons (pe_op op_mod (pe_ix ix_list (pv 0) (pe_op op_add (pv 1) pe_int) (fun _ _ => rfl)) pe_int) pa_nil)) (blkOk_by (own := [("k", 5)]) (N := ["digits", "depth", "choice", "number", "parts", "k"]) (sc := defScope s_law_any_value) (by decide +kernel)) (fun _ _ _ _ _ => (pg_name (i := 5) sc_law_any_value.nd rfl (Or.inl rfl))) (fun _ _ _ _ _ => pts_nil) (fun _ _ _ _ _ => (pe_cal c_rec hr (by rfl) (pa_cons (pe_op op_cat (pe_slice sl_list (pv 0) (po_some (pv 5)) po_none) (pe_slice sl_list (pv 0) po_none (po_some (pv 5)))) (pa_cons (pe_op op_add (pv 1) pe_int) pa_nil))))) (pss_one (ps_ret (pe_ifExp (pt_cmpR op_eq (pv 2) pe_int (nomark _)) (pv 4) (pe_callTy call_tuple_of (by rfl) T.n_tuple (by decide +kernel) (pa_cons (pv 4) pa_nil))))))))))), run_law_any_value h⟩)
theorem ok_law_any_value (T : Tx K mg) : Cal P w K mg base "_law_any_value" 5 ["digits", "depth"] (sp_law_any_value K) := by
  obtain ⟨fd, F⟩ := T.f_law_any_value
  exact ⟨fd, T.g__law_any_value, F.kp, F.bindsN (fun _ _ _ _ _ _ us hl => match us, hl with | [_, _], _ => rfl), fn_law_any_value T F 5⟩
theorem fn_law (T : Tx K mg) (c_law_size : Cal P w K mg base "_law_size" 2 ["power", "points"] (sp_law_size K)) (c_Note__init : CalMX P w K mg base "Note" 2 ["self", "power", "dots"] (sp_Note__init K)) (c_law_signs_right : Cal P w K mg base "_law_signs_right" 3 ["one", "other", "first", "second"] (sp_law_signs_right K)) (c_law_digits : Cal P w K mg base "_law_digits" 2 ["script", "index", "count", "base"] (sp_law_digits K)) (c_Note__lt : CalT P w K mg base "Note" "__lt__" 1 ["self", "other"] (sp_Note__lt K)) (c_Note_length : CalP P w K mg base "Note" "length" 1 ["self"] (sp_Note_length K)) (c_Note__str : CalT P w K mg base "Note" "__str__" 1 ["self"] (sp_Note__str K)) (c_law_any_value : Cal P w K mg base "_law_any_value" 5 ["digits", "depth"] (sp_law_any_value K)) (c_Note__eq_ni : CalNI P w K mg base "Note" 1) {fd : FuncData} (F : FunD K "law" "law" (defArgs s_law) (defBody s_law) (defScope s_law) [] [] (He.ga K "law") fd) : FnOk P w K mg base CX0 6 (He.ga K "law") fd ["script"] (sp_law K) :=
  F.ok sc_law len_law (fun cdv A outer s H vs Q E hr h => ⟨t_law K, PSs.nox (pss_cons (ps_set (i := 1) sc_law.nd rfl (Or.inr rfl) (pe_lst pa_nil)) (pss_cons (ps_for PassesOwn.never rfl (pi_range1 (by rfl) T.n_range (pa_cons pe_int pa_nil)) (pg_name (i := 2) sc_law.nd rfl (Or.inr rfl)) (pss_one (ps_set (i := 1) sc_law.nd rfl (Or.inr rfl) (pe_op op_cat (pv 1) (pe_lc (own := [("points", 13)]) rfl sc_law.nd (pi_range1 (by rfl) T.n_range (pa_cons (pe_op op_add (pv 2) pe_int) pa_nil)) (blkOk_by (own := [("points", 13)]) (N := ["script", "pairs", "power", "one", "other", "first", "second", "index", "digits", "some", "notes", "value", "digit", "points", "note"]) (sc := defScope s_law) (by decide +kernel)) (fun _ _ _ _ _ => (pg_name (i := 13) sc_law.nd rfl (Or.inl rfl))) (fun _ _ _ _ _ => pts_nil) (fun _ _ _ _ _ => (pe_tup (pa_cons (pv 2) (pa_cons (pv 13) pa_nil))))))))) (pss_cons (ps_for PassesOwn.never rfl (pi_list (pv 1)) (pg_name (i := 3) sc_law.nd rfl (Or.inl rfl)) (pss_one (ps_for PassesOwn.never rfl (pi_list (pv 1)) (pg_name (i := 4) sc_law.nd rfl (Or.inl rfl)) (pss_cons (ps_par (i := 5) (j := 6) rfl sc_law.nd rfl rfl (by decide) rfl rfl (pa_cons (pe_cal c_law_size (hr.mono (by decide)) (by rfl) (pa_cons (pe_ix ix_tup (pv 3) pe_int (fun _ _ => rfl)) (pa_cons (pe_ix ix_tup (pv 3) pe_int (fun _ _ => rfl)) pa_nil))) (pa_cons (pe_cal c_law_size (hr.mono (by decide)) (by rfl) (pa_cons (pe_ix ix_tup (pv 4) pe_int (fun _ _ => rfl)) (pa_cons (pe_ix ix_tup (pv 4) pe_int (fun _ _ => rfl)) pa_nil))) pa_nil)) (by rfl)) (pss_one (ps_if (pt_not (pt_val (pe_cal c_law_signs_right (hr.mono (by decide)) (by rfl) (pa_cons (pe_calMX c_Note__init (hr.mono (by decide)) (by rfl) passN0 (pa_cons (pe_ix ix_tup (pv 3) pe_int (fun _ _ => rfl)) (pa_cons (pe_ix ix_tup (pv 3) pe_int (fun _ _ => rfl)) pa_nil))) (pa_cons (pe_calMX c_Note__init (hr.mono (by decide)) (by rfl) passN0 (pa_cons (pe_ix ix_tup (pv 4) pe_int (fun _ _ => rfl)) (pa_cons (pe_ix ix_tup (pv 4) pe_int (fun _ _ => rfl)) pa_nil))) (pa_cons (pv 5) (pa_cons (pv 6) pa_nil))))))) (pss_one (ps_ret pe_bl)) pss_nil)))))) (pss_cons (ps_for PassesOwn.never rfl (pi_range1 (by rfl) T.n_range (pa_cons pe_int pa_nil)) (pg_name (i := 7) sc_law.nd rfl (Or.inl rfl)) (pss_cons (ps_set (i := 8) sc_law.nd rfl (Or.inl rfl) (pe_cal c_law_digits (hr.mono (by decide)) (by rfl) (pa_cons (pv 0) (pa_cons (pv 7) (pa_cons pe_int (pa_cons pe_int pa_nil)))))) (pss_cons (ps_setLc (i := 9) (own := [("digit", 12)]) rfl sc_law.nd rfl rfl (sw_true rfl rfl rfl (by decide +kernel)) (pi_list (pe_slice sl_list (pv 8) po_none (po_some pe_int))) (blkOk_by (own := [("digit", 12)]) (N := ["script", "pairs", "power", "one", "other", "first", "second", "index", "digits", "some", "notes", "value", "digit", "points", "note"]) (sc := defScope s_law) (by decide +kernel)) (fun _ _ _ _ _ => (pg_name (i := 12) sc_law.nd rfl (Or.inl rfl))) (fun _ _ _ _ _ => pts_nil) (fun _ _ _ _ _ => (pe_ix ix_list (pv 1) (pe_op op_mod (pv 12) pe_int) (fun _ _ => rfl)))) (pss_cons (ps_setLc (i := 10) (own := [("power", 2), ("points", 13)]) rfl sc_law.nd rfl rfl (sw_true rfl rfl rfl (by decide +kernel)) (pi_list (pv 9)) (blkOk_by (own := [("power", 2), ("points", 13)]) (N := ["script", "pairs", "power", "one", "other", "first", "second", "index", "digits", "some", "notes", "value", "digit", "points", "note"]) (sc := defScope s_law) (by decide +kernel)) (fun _ _ _ _ _ => (pg_tup rfl (pgs_cons (pg_name (i := 2) sc_law.nd rfl (Or.inl rfl)) (pgs_cons (pg_name (i := 13) sc_law.nd rfl (Or.inl rfl)) pgs_nil)))) (fun _ _ _ _ _ => pts_nil) (fun _ _ _ _ _ => (pe_calMX c_Note__init (hr.mono (by decide)) (by rfl) passN0 (pa_cons (pv 2) (pa_cons (pv 13) pa_nil))))) (pss_cons (ps_if (pt_cmpR (op_neD hr.units) (pe_lc (own := [("note", 14)]) rfl sc_law.nd (pi_list (pe_callB (cr_sortO c_Note__lt (hr.mono (by decide))) (by rfl) T.n_sorted (by decide +kernel) (pa_cons (pv 10) pa_nil))) (blkOk_by (own := [("note", 14)]) (N := ["script", "pairs", "power", "one", "other", "first", "second", "index", "digits", "some", "notes", "value", "digit", "points", "note"]) (sc := defScope s_law) (by decide +kernel)) (fun _ _ _ _ _ => (pg_name (i := 14) sc_law.nd rfl (Or.inl rfl))) (fun _ _ _ _ _ => pts_nil) (fun _ _ _ _ _ => (pe_calP c_Note_length (hr.mono (by decide)) (pv 14)))) (pe_callB cr_sortedI (by rfl) T.n_sorted (by decide +kernel) (pa_cons (pe_lc (own := [("power", 2), ("points", 13)]) rfl sc_law.nd (pi_list (pv 9)) (blkOk_by (own := [("power", 2), ("points", 13)]) (N := ["script", "pairs", "power", "one", "other", "first", "second", "index", "digits", "some", "notes", "value", "digit", "points", "note"]) (sc := defScope s_law) (by decide +kernel)) (fun _ _ _ _ _ => (pg_tup rfl (pgs_cons (pg_name (i := 2) sc_law.nd rfl (Or.inl rfl)) (pgs_cons (pg_name (i := 13) sc_law.nd rfl (Or.inl rfl)) pgs_nil)))) (fun _ _ _ _ _ => pts_nil) (fun _ _ _ _ _ => (pe_cal c_law_size (hr.mono (by decide)) (by rfl) (pa_cons (pv 2) (pa_cons (pv 13) pa_nil))))) pa_nil)) (nomark _)) (pss_one (ps_ret pe_bl)) pss_nil) (pss_one (ps_for PassesOwn.never rfl (pi_tup (pe_tup (pa_cons (pe_calP c_Note_length (hr.mono (by decide)) (pe_ix ix_list (pv 10) pe_int (fun _ _ => rfl))) (pa_cons (pe_callTy (call_strOwn c_Note__str (hr.mono (by decide))) (by rfl) T.n_str (by decide +kernel) (pa_cons (pe_ix ix_list (pv 10) pe_int (fun _ _ => rfl)) pa_nil)) (pa_cons (pe_ix ix_list (pv 9) pe_int (fun _ _ => rfl)) (pa_cons (pe_tup (pa_cons (pe_ix ix_list (pv 10) pe_int (fun _ _ => rfl)) pa_nil)) (pa_cons pe_non (pa_cons (pe_cal c_law_any_value hr (by rfl) (pa_cons (pe_slice sl_list (pv 8) (po_some pe_int) po_none) (pa_cons pe_int pa_nil))) pa_nil)))))))) (pg_name (i := 11) sc_law.nd rfl (Or.inl rfl)) (pss_one (ps_if (PW.pt (pw_or (pt_cmpR (op_eqNI c_Note__eq_ni T.ni_Note (hr.mono (by decide))) (pe_ix ix_list (pv 10) pe_int (fun _ _ => rfl)) (pv 11) (nomark _)) (pw_or1 (pt_not (pt_cmpR (op_neNI c_Note__eq_ni T.ni_Note (hr.mono (by decide))) (pe_ix ix_list (pv 10) pe_int (fun _ _ => rfl)) (pv 11) (nomark _)))))) (pss_one (ps_ret pe_bl)) pss_nil))))))))) (pss_one (ps_ret (pe_and (pe_cmpR (op_own2 c_Note__lt (hr.mono (by decide)) (fun _ _ => rfl) rfl) (pe_calMX c_Note__init (hr.mono (by decide)) (by rfl) passN0 (pa_cons pe_int (pa_cons pe_int pa_nil))) (pe_calMX c_Note__init (hr.mono (by decide)) (by rfl) passN0 (pa_cons pe_int (pa_cons pe_int pa_nil))) (nomark _)) (pe_and (pe_cmpR (op_gtOwn c_Note__lt T.ni_Note (hr.mono (by decide))) (pe_calMX c_Note__init (hr.mono (by decide)) (by rfl) passN0 (pa_cons pe_int (pa_cons pe_int pa_nil))) (pe_calMX c_Note__init (hr.mono (by decide)) (by rfl) passN0 (pa_cons pe_int (pa_cons pe_int pa_nil))) (nomark _)) (pe_one (pe_not (pe_cmpR (op_eqNI c_Note__eq_ni T.ni_Note (hr.mono (by decide))) (pe_calMX c_Note__init (hr.mono (by decide)) (by rfl) passN0 (pa_cons pe_int (pa_cons pe_int pa_nil))) pe_int (nomark _)))))))))))), run_law h⟩)
theorem ok_all (T : Tx K mg) {fd : FuncData} (F : FunD K "law" "law" (defArgs s_law) (defBody s_law) (defScope s_law) [] [] (He.ga K "law") fd) : FnOk P w K mg base CX0 6 (He.ga K "law") fd ["script"] (sp_law K) := by
  have c_law_power : Cal P w K mg base "_law_power" 1 ["exponent"] (sp_law_power K) := ok_law_power T
  have c_law_size : Cal P w K mg base "_law_size" 2 ["power", "points"] (sp_law_size K) := ok_law_size T c_law_power
  have c_is_integer : Cal P w K mg base "is_integer" 1 ["value", "low", "high"] (sp_is_integer K) := ok_is_integer T
  have c_length_of : Cal P w K mg base "length_of" 1 ["power", "dots"] (sp_length_of K) := ok_length_of T
  have c_Note__init : CalMX P w K mg base "Note" 2 ["self", "power", "dots"] (sp_Note__init K) := ok_Note__init T c_is_integer c_length_of
  have c_Note__eq : CalT P w K mg base "Note" "__eq__" 1 ["self", "other"] (sp_Note__eq K) := ok_Note__eq T
  have c_Note__lt : CalT P w K mg base "Note" "__lt__" 1 ["self", "other"] (sp_Note__lt K) := ok_Note__lt T
  have c_Note__le : CalT P w K mg base "Note" "__le__" 1 ["self", "other"] (sp_Note__le K) := ok_Note__le T
  have c_law_signs_right : Cal P w K mg base "_law_signs_right" 3 ["one", "other", "first", "second"] (sp_law_signs_right K) := ok_law_signs_right T c_Note__eq c_Note__lt c_Note__le
  have c_law_cell : Cal P w K mg base "_law_cell" 1 ["script", "index"] (sp_law_cell K) := ok_law_cell T
  have c_law_digits : Cal P w K mg base "_law_digits" 2 ["script", "index", "count", "base"] (sp_law_digits K) := ok_law_digits T c_law_cell
  have c_Note_length : CalP P w K mg base "Note" "length" 1 ["self"] (sp_Note_length K) := ok_Note_length T
  have c_Note__str : CalT P w K mg base "Note" "__str__" 1 ["self"] (sp_Note__str K) := ok_Note__str T
  have c_law_any_value : Cal P w K mg base "_law_any_value" 5 ["digits", "depth"] (sp_law_any_value K) := ok_law_any_value T
  have c_Note__eq_ni : CalNI P w K mg base "Note" 1 := ok_Note__eq_ni T
  exact fn_law T c_law_size c_Note__init c_law_signs_right c_law_digits c_Note__lt c_Note_length c_Note__str c_law_any_value c_Note__eq_ni F
end
def fa : List He.Fa := [.free "isinstance", .free "int", .free "bool", .free "NotImplemented", .free "len", .free "range", .free "tuple", .free "sorted", .free "str", .glo "POWERS", .glo "NoteError", .glo "InvalidNote", .glo "Note", .cls "Note", .noat "Note" "height", .noat "Note" "points", .noat "Note" "n", .cls "Note", .noat "Note" "height", .noat "Note" "points", .noat "Note" "n", .glo "is_integer", .glo "length_of", .meth "Note" "__eq__", .meth "Note" "__lt__", .meth "Note" "__le__", .meth "Note" "__str__", .glo "_law_cell", .glo "_law_power", .mkr "Note", .glo "_law_digits", .glo "_law_size", .glo "_law_signs_right", .glo "_law_any_value", .glo "law"]
def fn : List He5.DefA := [dn_is_integer, dn_length_of, dn_Note_length, dn_Note__eq, dn_Note__lt, dn_Note__le, dn_Note__str, dn_law_cell, dn_law_power, dn_Note__init, dn_law_digits, dn_law_size, dn_law_signs_right, dn_law_any_value, dn_law]
def ex (K : PySem.W.Frag) : Bool := He.tupB K "POWERS" [.int 1, .int 2, .int 4, .int 8, .int 16, .int 32, .int 64, .int 128, .int 256, .int 512, .int 1024, .int 2048] && (ownB K (He.ga K "InvalidNote") && (insB K (He.ga K "Note") && (nicB K (He.ga K "Note") && (notB K (He.ga K "Note") && (neB K (He.ga K "Note") && (propB K (He.ga K "Note") "length"))))))
abbrev R : PySem.W.OpenRow := PySem.W.OpenLaw.row PySem.Challenge.rw_tiednotes_k02_whole_signs_of_notes
abbrev hk : PySem.W.Hook := hookB 6 fa fn ex
def ob (s : PySem.W.SharedT) : AlB := obsBG 6 fa fn ex (HandSHeadRun.getT s)
theorem ob_eq (s : PySem.W.SharedT) : ob s = hk.obs s.abs := obsBG_eq (HandSHeadRun.getT_eq s)
def names : List PySem.Str := ["POWERS", "_wall", "is_integer", "length_of", "_law_cell", "_law_digits", "_law_any_value", "_law_power", "_law_size", "_law_signs_right", "NoteError", "InvalidNote", "Note"]
theorem run (w : World) : HandSHeadRun.RunEq R (PySem.W.view R.prog [16]) hk ob 20000 names w := by
  intro os
  kernel_rfl
theorem tx_of {K : PySem.W.Frag} {h : Heap} {mg : Str → Option Value} (X : K.In h) (G : h.Ns mainGlobals mg) (c : SaysB fa fn ex K) : Tx K mg := by
  have hx : ex K = true := c.x
  obtain ⟨hx0, hx⟩ := He.ba hx
  obtain ⟨hx1, hx⟩ := He.ba hx
  obtain ⟨hx2, hx⟩ := He.ba hx
  obtain ⟨hx3, hx⟩ := He.ba hx
  obtain ⟨hx4, hx⟩ := He.ba hx
  obtain ⟨hx5, hx⟩ := He.ba hx
  have hx6 := hx
  exact {
    n_isinstance := He.free_ok X G (c.a.fact 0 (f := .free "isinstance") rfl)
    n_int := He.free_ok X G (c.a.fact 1 (f := .free "int") rfl)
    n_bool := He.free_ok X G (c.a.fact 2 (f := .free "bool") rfl)
    n_NotImplemented := He.free_ok X G (c.a.fact 3 (f := .free "NotImplemented") rfl)
    n_len := He.free_ok X G (c.a.fact 4 (f := .free "len") rfl)
    n_range := He.free_ok X G (c.a.fact 5 (f := .free "range") rfl)
    n_tuple := He.free_ok X G (c.a.fact 6 (f := .free "tuple") rfl)
    n_sorted := He.free_ok X G (c.a.fact 7 (f := .free "sorted") rfl)
    n_str := He.free_ok X G (c.a.fact 8 (f := .free "str") rfl)
    g_POWERS := He.glo_ok X G (c.a.fact 9 (f := .glo "POWERS") rfl)
    g_NoteError := He.glo_ok X G (c.a.fact 10 (f := .glo "NoteError") rfl)
    g_InvalidNote := He.glo_ok X G (c.a.fact 11 (f := .glo "InvalidNote") rfl)
    t_POWERS := fun H => He.tupB_ok (vs := [.int 1, .int 2, .int 4, .int 8, .int 16, .int 32, .int 64, .int 128, .int 256, .int 512, .int 1024, .int 2048]) hx0 H
    ox_InvalidNote := ownB_ok hx1
    g_Note := He.glo_ok X G (c.a.fact 12 (f := .glo "Note") rfl)
    cl_Note := He.cls_ok (c.a.fact 13 (f := .cls "Note") rfl)
    na_Note_height := He.noat_ok (c.a.fact 14 (f := .noat "Note" "height") rfl)
    na_Note_points := He.noat_ok (c.a.fact 15 (f := .noat "Note" "points") rfl)
    na_Note_n := He.noat_ok (c.a.fact 16 (f := .noat "Note" "n") rfl)
    nt_Note := ⟨(He.cls_ok (c.a.fact 17 (f := .cls "Note") rfl)), (He.noat_ok (c.a.fact 18 (f := .noat "Note" "height") rfl)), (He.noat_ok (c.a.fact 19 (f := .noat "Note" "points") rfl)), (He.noat_ok (c.a.fact 20 (f := .noat "Note" "n") rfl)), insB_ok hx2 (He.cls_ok (c.a.fact 17 (f := .cls "Note") rfl))⟩
    ni_Note := nicB_ok hx3
    nc_Note := notB_ok hx4
    ne_Note := neB_ok hx5
    g_is_integer := He.glo_ok X G (c.a.fact 21 (f := .glo "is_integer") rfl)
    g_length_of := He.glo_ok X G (c.a.fact 22 (f := .glo "length_of") rfl)
    pr_Note_length := propB_ok hx6
    me_Note__eq := He.meth_ok (c.a.fact 23 (f := .meth "Note" "__eq__") rfl)
    me_Note__lt := He.meth_ok (c.a.fact 24 (f := .meth "Note" "__lt__") rfl)
    me_Note__le := He.meth_ok (c.a.fact 25 (f := .meth "Note" "__le__") rfl)
    me_Note__str := He.meth_ok (c.a.fact 26 (f := .meth "Note" "__str__") rfl)
    g__law_cell := He.glo_ok X G (c.a.fact 27 (f := .glo "_law_cell") rfl)
    g__law_power := He.glo_ok X G (c.a.fact 28 (f := .glo "_law_power") rfl)
    mk_Note := He.mkr_ok (c.a.fact 29 (f := .mkr "Note") rfl)
    g__law_digits := He.glo_ok X G (c.a.fact 30 (f := .glo "_law_digits") rfl)
    g__law_size := He.glo_ok X G (c.a.fact 31 (f := .glo "_law_size") rfl)
    g__law_signs_right := He.glo_ok X G (c.a.fact 32 (f := .glo "_law_signs_right") rfl)
    g__law_any_value := He.glo_ok X G (c.a.fact 33 (f := .glo "_law_any_value") rfl)
    g_law := He.glo_ok X G (c.a.fact 34 (f := .glo "law") rfl)
    f_is_integer := c.a.def_ 0 (d := dn_is_integer) rfl
    f_length_of := c.a.def_ 1 (d := dn_length_of) rfl
    f_Note_length := c.a.def_ 2 (d := dn_Note_length) rfl
    f_Note__eq := c.a.def_ 3 (d := dn_Note__eq) rfl
    f_Note__lt := c.a.def_ 4 (d := dn_Note__lt) rfl
    f_Note__le := c.a.def_ 5 (d := dn_Note__le) rfl
    f_Note__str := c.a.def_ 6 (d := dn_Note__str) rfl
    f_law_cell := c.a.def_ 7 (d := dn_law_cell) rfl
    f_law_power := c.a.def_ 8 (d := dn_law_power) rfl
    f_Note__init := c.a.def_ 9 (d := dn_Note__init) rfl
    f_law_digits := c.a.def_ 10 (d := dn_law_digits) rfl
    f_law_size := c.a.def_ 11 (d := dn_law_size) rfl
    f_law_signs_right := c.a.def_ 12 (d := dn_law_signs_right) rfl
    f_law_any_value := c.a.def_ 13 (d := dn_law_any_value) rfl
    f_law := c.a.def_ 14 (d := dn_law) rfl
  }
theorem facts {P : Program} {w : World} {K : PySem.W.Frag} {h : Heap} {mg : Str → Option Value} {f : Addr} (X : K.In h) (G : h.Ns mainGlobals mg) (hfa : mg ("law" : Str) = some (.ref f)) (c : SaysB fa fn ex K) :
    ∃ fd : FuncData, (∀ (s : Shared) (v : Value), BindsTo s fd ⟨[v], []⟩ [("script", v)]) ∧ ∀ base : Heap, K.In base → base.Ns mainGlobals mg → FnOk P w K mg base CX0 6 f fd ["script"] (sp_law K) := by
  have T := tx_of X G c
  obtain ⟨fd, F⟩ := T.f_law
  have e := hfa.symm.trans T.g_law
  cases e
  have b := FunD.bindsA (ps := ["script"]) F fun _ _ _ _ _ _ us hl => match us, hl with | [_], _ => rfl
  exact ⟨fd, fun s v => b s [v] rfl, fun base _ _ => ok_all T F⟩
end Xl
open PySem PySem.W PySem.Calls PyProof.Rows
theorem PySem.Challenge.cw_tiednotes_k02_whole_signs_of_notes_holds : PySem.Challenge.rw_tiednotes_k02_whole_signs_of_notes.Holds := by
  w_on; o_law
  refine HandSHeadRun.head_any (r := OpenLaw.row PySem.Challenge.rw_tiednotes_k02_whole_signs_of_notes) (q := view (OpenLaw.row PySem.Challenge.rw_tiednotes_k02_whole_signs_of_notes).prog [16]) (H := Xl.hk) (ob := Xl.ob) (M := 20000) (loose := Xl.names) (d := HandSHeadRun.topDef (OpenLaw.row PySem.Challenge.rw_tiednotes_k02_whole_signs_of_notes).prog 16) (kwd := []) Xl.ob_eq
    (by kernel_rfl) (fun s => by kernel_rfl) Xl.run (by kernel_rfl) (by kernel_rfl) (by kernel_rfl) (by rfl) (by first | assumption | decide +kernel) (by decide +kernel) ⟨rfl, rfl, rfl, rfl, rfl, by decide +kernel⟩ ?hw ?hc
  case hw => w_witness2
  case hc =>
    refine L2.walk_ofE (l := PySem.Challenge.rw_tiednotes_k02_whole_signs_of_notes) (n := 63) (k := 6) (x := "script") (CX := L2.CX0) rfl (by decide) (by kernel_rfl) ⟨rfl, by decide, by decide⟩ ?F (fun _ _ _ _ z => z)
    intro w mg fa h Y G hmg0
    obtain ⟨K, KX, c⟩ := Y
    have hmg : mg ("law" : PySem.Str) = some (.ref fa) := by
      have e : (HandSHeadRun.topDef (OpenLaw.row PySem.Challenge.rw_tiednotes_k02_whole_signs_of_notes).prog 16).name = ("law" : PySem.Str) := by kernel_rfl
      rw [← e]
      exact hmg0
    obtain ⟨fd, hb, hF⟩ := Xl.facts (P := (PySem.Challenge.rw_tiednotes_k02_whole_signs_of_notes).prog) (w := w) KX G hmg c
    exact ⟨K, fd, Xl.sp_law K, KX, hb, fun H a ns hl _ hS => ⟨a, ns, rfl, hS, hl, fun _ => rfl⟩, hF⟩
#print axioms PySem.Challenge.cw_tiednotes_k02_whole_signs_of_notes_holds

