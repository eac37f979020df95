import PyProof.Rows.All
import Wide.All
import OpenK.AllK
import Wide.FinOn
import PyProof.EqAt
import PyProof.EqKinds
import PyProof.TupleCall
import Open.SpecLaws
import KE.OsGo
import HandS.ForSpec
import HandS.Comp
import HandS.Iter
import HandS.Zip
import HandS.TupAny
import HandS.Walk
import HandS.Evl
import PySem.Challenge.RW_partscore_s01_answers
set_option Elab.async false
set_option linter.all false
set_option maxRecDepth 100000
set_option maxHeartbeats 4000000
namespace Ps
open PySem PySem.Spec PyProof.Rows L2 Evl

/-! ### what a value stands for -/
abbrev Rl := (Addr → Prop) → Hp → V → Prop
def New (H : Hp) : Addr → Prop := fun a => H a = none
def Any : Addr → Prop := fun _ => True
/-- the tuples stay, and the lists of F -/
structure Tr (F : Addr → Prop) (H H' : Hp) : Prop where
  tup : ∀ a xs, H a = some (.tup xs) → H' a = some (.tup xs)
  lst : ∀ a xs, F a → H a = some (.lst xs) → H' a = some (.lst xs)
def St (r : Rl) : Prop := ∀ (F F' : Addr → Prop) (H H' : Hp) (v : V), (∀ a, F a → F' a) → Tr F H H' → r F H v → r F' H' v
/-- no list within -/
def Fl (r : Rl) : Prop := ∀ (F F' : Addr → Prop) (H H' : Hp) (v : V), (∀ a xs, H a = some (.tup xs) → H' a = some (.tup xs)) → r F H v → r F' H' v
/-- stays where all stays -/
def Mo (r : Rl) : Prop := ∀ (H H' : Hp) (v : V), Ex H H' → r Any H v → r Any H' v
theorem Tr.ex {F : Addr → Prop} {H H' : Hp} (e : Ex H H') : Tr F H H' := ⟨fun a xs h => e a _ h, fun a xs _ h => e a _ h⟩
theorem Tr.rf {F : Addr → Prop} {H : Hp} : Tr F H H := Tr.ex (Ex.refl H)
theorem Fl.st {r : Rl} (f : Fl r) : St r := fun F F' H H' v _ t h => f F F' H H' v t.tup h
theorem St.mo {r : Rl} (f : St r) : Mo r := fun H H' v e h => f Any Any H H' v (fun _ z => z) (Tr.ex e) h
theorem Fl.mo {r : Rl} (f : Fl r) : Mo r := f.st.mo
theorem St.any {r : Rl} (f : St r) {F : Addr → Prop} {H : Hp} {v : V} (h : r F H v) : r Any H v := f F Any H H v (fun _ _ => trivial) Tr.rf h
theorem Fl.any {r : Rl} (f : Fl r) {F F' : Addr → Prop} {H : Hp} {v : V} (h : r F H v) : r F' H v := f F F' H H v (fun _ _ z => z) h
theorem St.ex {r : Rl} (f : St r) {F : Addr → Prop} {H H' : Hp} {v : V} (e : Ex H H') (h : r F H v) : r F H' v := f F F H H' v (fun _ z => z) (Tr.ex e) h
theorem Fl.ex {r : Rl} (f : Fl r) {F F' : Addr → Prop} {H H' : Hp} {v : V} (e : Ex H H') (h : r F H v) : r F' H' v := f F F' H H' v (fun a xs z => e a _ z) h
theorem New.back {H H' : Hp} (e : Ex H H') : ∀ a, New H' a → New H a := fun _ h => fresh_back e h
theorem St.back {r : Rl} (f : St r) {H0 H1 H2 : Hp} {v : V} (e : Ex H0 H1) (h : r (New H1) H2 v) : r (New H0) H2 v := f _ _ H2 H2 v (New.back e) Tr.rf h

/-! ### two lists, place by place -/
def All2 {α β : Type} (R : α → β → Prop) (xs : List α) (ys : List β) : Prop := xs.length = ys.length ∧ ∀ (i : Nat) (x : α) (y : β), xs[i]? = some x → ys[i]? = some y → R x y
section
variable {α β γ : Type} {R S : α → β → Prop} {xs : List α} {ys : List β}
theorem All2.nil : All2 R [] [] := ⟨rfl, fun i x y h => by simp at h⟩
theorem All2.cons {x : α} {y : β} (h : R x y) (t : All2 R xs ys) : All2 R (x :: xs) (y :: ys) := by
  refine ⟨by simp [t.1], fun i a b h1 h2 => ?_⟩
  cases i with
  | zero =>
    simp at h1 h2
    subst h1; subst h2
    exact h
  | succ i => exact t.2 i a b (by simpa using h1) (by simpa using h2)
theorem All2.un {x : α} {y : β} (h : All2 R (x :: xs) (y :: ys)) : R x y ∧ All2 R xs ys :=
  ⟨h.2 0 x y rfl rfl, by simpa using h.1, fun i a b h1 h2 => h.2 (i + 1) a b (by simpa using h1) (by simpa using h2)⟩
theorem All2.un_nil {xs : List α} (h : All2 R xs ([] : List β)) : xs = [] := List.eq_nil_of_length_eq_zero h.1
theorem All2.un_cons {y : β} (h : All2 R xs (y :: ys)) : ∃ x r, xs = x :: r ∧ R x y ∧ All2 R r ys := by
  cases xs with
  | nil => exact absurd h.1 (by simp)
  | cons x r => exact ⟨x, r, rfl, h.un.1, h.un.2⟩
theorem All2.mono (h : All2 R xs ys) (k : ∀ x y, y ∈ ys → R x y → S x y) : All2 S xs ys := ⟨h.1, fun i x y h1 h2 => k x y (List.mem_of_getElem? h2) (h.2 i x y h1 h2)⟩
theorem All2.snoc {x : α} {y : β} (t : All2 R xs ys) (h : R x y) : All2 R (xs ++ [x]) (ys ++ [y]) := by
  refine ⟨by simp [t.1], fun i a b h1 h2 => ?_⟩
  by_cases hi : i < xs.length
  · rw [List.getElem?_append_left hi] at h1
    rw [List.getElem?_append_left (by rw [← t.1]; exact hi)] at h2
    exact t.2 i a b h1 h2
  · rw [List.getElem?_append_right (by omega)] at h1
    rw [List.getElem?_append_right (by rw [← t.1]; omega)] at h2
    have e : i - xs.length = 0 := by
      have := (List.getElem?_eq_some_iff.mp h1).1
      simp at this
      omega
    rw [e] at h1
    rw [← t.1, e] at h2
    simp at h1 h2
    subst h1; subst h2
    exact h
theorem All2.append {xs2 : List α} {ys2 : List β} (t : All2 R xs ys) (t2 : All2 R xs2 ys2) : All2 R (xs ++ xs2) (ys ++ ys2) := by
  refine ⟨by simp [t.1, t2.1], fun i a b h1 h2 => ?_⟩
  by_cases hi : i < xs.length
  · rw [List.getElem?_append_left hi] at h1
    rw [List.getElem?_append_left (by rw [← t.1]; exact hi)] at h2
    exact t.2 i a b h1 h2
  · rw [List.getElem?_append_right (by omega)] at h1
    rw [List.getElem?_append_right (by rw [← t.1]; omega), ← t.1] at h2
    exact t2.2 _ a b h1 h2
theorem All2.get {i : Nat} {y : β} (h : All2 R xs ys) (hy : ys[i]? = some y) : ∃ x, xs[i]? = some x ∧ R x y := by
  have hl : i < xs.length := by rw [h.1]; exact (List.getElem?_eq_some_iff.mp hy).1
  exact ⟨xs[i], List.getElem?_eq_getElem hl, h.2 i _ y (List.getElem?_eq_getElem hl) hy⟩
theorem All2.get' {i : Nat} {x : α} (h : All2 R xs ys) (hx : xs[i]? = some x) : ∃ y, ys[i]? = some y ∧ R x y := by
  have hl : i < ys.length := by rw [← h.1]; exact (List.getElem?_eq_some_iff.mp hx).1
  exact ⟨ys[i], List.getElem?_eq_getElem hl, h.2 i x _ hx (List.getElem?_eq_getElem hl)⟩
theorem all2_map {f : γ → β} {xs : List α} {zs : List γ} : All2 R xs (zs.map f) ↔ All2 (fun x z => R x (f z)) xs zs := by
  constructor
  · rintro ⟨h1, h2⟩
    exact ⟨by simpa using h1, fun i x z hx hz => h2 i x (f z) hx (by simp [hz])⟩
  · rintro ⟨h1, h2⟩
    refine ⟨by simpa using h1, fun i x y hx hy => ?_⟩
    rw [List.getElem?_map] at hy
    cases e : zs[i]? with
    | none => rw [e] at hy; cases hy
    | some z =>
      rw [e] at hy
      cases hy
      exact h2 i x z hx e
theorem all2_eq {f : β → α} : All2 (fun x y => x = f y) xs ys ↔ xs = ys.map f := by
  constructor
  · rintro ⟨h1, h2⟩
    apply List.ext_getElem? 
    intro i
    rw [List.getElem?_map]
    cases e : xs[i]? with
    | none =>
      have : ys[i]? = none := by
        rw [List.getElem?_eq_none_iff] at e ⊢
        omega
      rw [this]; rfl
    | some x =>
      have hl : i < ys.length := by rw [← h1]; exact (List.getElem?_eq_some_iff.mp e).1
      rw [List.getElem?_eq_getElem hl]
      exact congrArg some (h2 i x _ e (List.getElem?_eq_getElem hl))
  · rintro rfl
    refine ⟨by simp, fun i x y hx hy => ?_⟩
    rw [List.getElem?_map, hy] at hx
    exact (Option.some.inj hx).symm
end

/-! ### relations -/
def rV (w : V) : Rl := fun _ _ v => v = w
abbrev rI (n : Int) : Rl := rV (.int n)
abbrev rN (n : Nat) : Rl := rV (.int (n : Int))
abbrev rB (b : Bool) : Rl := rV (.bl b)
def rT (rs : List Rl) : Rl := fun F H v => ∃ a vs, v = .ref a ∧ H a = some (.tup vs) ∧ All2 (fun v r => r F H v) vs rs
def rL (rs : List Rl) : Rl := fun F H v => ∃ a vs, v = .ref a ∧ F a ∧ H a = some (.lst vs) ∧ All2 (fun v r => r F H v) vs rs
theorem fl_V {w : V} : Fl (rV w) := fun _ _ _ _ _ _ h => h
theorem st_V {w : V} : St (rV w) := fl_V.st
theorem fl_T {rs : List Rl} (h : ∀ r ∈ rs, Fl r) : Fl (rT rs) := by
  rintro F F' H H' v t ⟨a, vs, rfl, e, al⟩
  exact ⟨a, vs, rfl, t a _ e, al.mono fun x r hr q => h r hr F F' H H' x t q⟩
theorem st_T {rs : List Rl} (h : ∀ r ∈ rs, St r) : St (rT rs) := by
  rintro F F' H H' v w t ⟨a, vs, rfl, e, al⟩
  exact ⟨a, vs, rfl, t.tup a _ e, al.mono fun x r hr q => h r hr F F' H H' x w t q⟩
theorem st_L {rs : List Rl} (h : ∀ r ∈ rs, St r) : St (rL rs) := by
  rintro F F' H H' v w t ⟨a, vs, rfl, f, e, al⟩
  exact ⟨a, vs, rfl, w a f, t.lst a _ f e, al.mono fun x r hr q => h r hr F F' H H' x w t q⟩
theorem fl_map {α : Type} {f : α → Rl} {l : List α} (h : ∀ x, Fl (f x)) : ∀ r ∈ l.map f, Fl r := by
  intro r hr
  obtain ⟨x, _, rfl⟩ := List.mem_map.mp hr
  exact h x
theorem st_map {α : Type} {f : α → Rl} {l : List α} (h : ∀ x, St (f x)) : ∀ r ∈ l.map f, St r := by
  intro r hr
  obtain ⟨x, _, rfl⟩ := List.mem_map.mp hr
  exact h x
theorem mo_T {rs : List Rl} (h : ∀ r ∈ rs, Mo r) : Mo (rT rs) := by
  rintro H H' v e ⟨a, vs, rfl, e1, al⟩
  exact ⟨a, vs, rfl, e a _ e1, al.mono fun x r hr q => h r hr H H' x e q⟩
theorem mo_L {rs : List Rl} (h : ∀ r ∈ rs, Mo r) : Mo (rL rs) := by
  rintro H H' v e ⟨a, vs, rfl, f, e1, al⟩
  exact ⟨a, vs, rfl, f, e a _ e1, al.mono fun x r hr q => h r hr H H' x e q⟩
/-- numbers -/
def nV (n : Nat) : V := .int (n : Int)
theorem ints_of {F : Addr → Prop} {H : Hp} {vs : List V} {ns : List Nat} : All2 (fun v (r : Rl) => r F H v) vs (ns.map fun n => rN n) ↔ vs = ns.map nV := by
  rw [all2_map]
  exact all2_eq (f := nV)
theorem bools_of {F : Addr → Prop} {H : Hp} {vs : List V} {bs : List Bool} : All2 (fun v (r : Rl) => r F H v) vs (bs.map fun b => rB b) ↔ vs = bs.map V.bl := by
  rw [all2_map]
  exact all2_eq (f := V.bl)

/-! ### evaluates to -/
/-- to something new (its lists are) -/
def EvR (te : TE) (σ : L2.St) (H : Hp) (r : Rl) : Prop := ∀ H1, Ex H H1 → ∀ Q : VK, (∀ v H2, Ex H1 H2 → r (New H1) H2 v → Q v H2) → te σ H1 Q
/-- to something that stands -/
def EvX (te : TE) (σ : L2.St) (H : Hp) (r : Rl) : Prop := ∀ H1, Ex H H1 → ∀ Q : VK, (∀ v H2, Ex H1 H2 → r Any H2 v → Q v H2) → te σ H1 Q
def EvXA (ta : TA) (σ : L2.St) (H : Hp) (rs : List Rl) : Prop := ∀ H1, Ex H H1 → ∀ Q : List V → Hp → Prop, (∀ vs H2, Ex H1 H2 → All2 (fun v (r : Rl) => r Any H2 v) vs rs → Q vs H2) → ta σ H1 Q
def EvRA (ta : TA) (σ : L2.St) (H : Hp) (rs : List Rl) : Prop := ∀ H1, Ex H H1 → ∀ Q : List V → Hp → Prop, (∀ vs H2, Ex H1 H2 → All2 (fun v (r : Rl) => r (New H1) H2 v) vs rs → Q vs H2) → ta σ H1 Q
section
variable {K : PySem.W.Frag} {σ : L2.St} {H H' : Hp} {ta tb te : TE} {t u : TT} {x y z v : V} {r r' : Rl} {rs : List Rl}
theorem EvR.mono (e : Ex H H') (h : EvR te σ H r) : EvR te σ H' r := fun H1 a Q q => h H1 (e.trans a) Q q
theorem EvX.mono (e : Ex H H') (h : EvX te σ H r) : EvX te σ H' r := fun H1 a Q q => h H1 (e.trans a) Q q
theorem EvXA.mono {ta : TA} (e : Ex H H') (h : EvXA ta σ H rs) : EvXA ta σ H' rs := fun H1 a Q q => h H1 (e.trans a) Q q
theorem EvR.is (h : EvR te σ H r) (e : r = r') : EvR te σ H r' := e ▸ h
theorem EvX.is (h : EvX te σ H r) (e : r = r') : EvX te σ H r' := e ▸ h
theorem EvR.tx (h : EvR te σ H r) (s : St r) : EvX te σ H r := fun H1 e Q q => h H1 e Q fun v H2 e2 hr => q v H2 e2 (s.any hr)
theorem EvX.tr (h : EvX te σ H r) (f : Fl r) : EvR te σ H r := fun H1 e Q q => h H1 e Q fun v H2 e2 hr => q v H2 e2 (f.any hr)
theorem EvR.txV {w : V} (h : EvR te σ H (rV w)) : EvX te σ H (rV w) := h.tx st_V
theorem EvX.trV {w : V} (h : EvX te σ H (rV w)) : EvR te σ H (rV w) := h.tr fl_V
theorem evx_var {i : Nat} (h : σ[i]? = some (some v)) (m : Mo r) (hr : r Any H v) : EvX (tVar i) σ H r := fun H1 e Q q => ⟨v, h, q v H1 (Ex.refl H1) (m H H1 v e hr)⟩
theorem evv_var {i : Nat} (h : σ[i]? = some (some v)) : EvX (tVar i) σ H (rV v) := fun H1 _ Q q => ⟨v, h, q v H1 (Ex.refl H1) rfl⟩
theorem evr_c {w : V} : EvR (tC w) σ H (rV w) := fun H1 _ Q q => q w H1 (Ex.refl H1) rfl
theorem evx_c {w : V} : EvX (tC w) σ H (rV w) := evr_c.txV
theorem evx_I0 {g : Int → Int → V} {i j : Int} (ha : EvX ta σ H (rI i)) (hb : EvX tb σ H (rI j)) : EvX (tOp (rI0 g) ta tb) σ H (rV (g i j)) := fun H1 e Q q =>
  ha H1 e _ fun x H2 e2 hx => hb H2 (e.trans e2) _ fun y H3 e3 hy => ⟨i, j, hx, hy, q _ H3 (e2.trans e3) rfl⟩
theorem evx_eq (ha : EvX ta σ H (rV x)) (hb : EvX tb σ H (rV y)) (hs : scal x y = true) : EvX (tOp rEq ta tb) σ H (rB (decide (x = y))) := fun H1 e Q q =>
  ha H1 e _ fun x' H2 e2 hx => hb H2 (e.trans e2) _ fun y' H3 e3 hy => by
    subst hx; subst hy
    exact ⟨hs, q _ H3 (e2.trans e3) rfl⟩
theorem evx_ne (ha : EvX ta σ H (rV x)) (hb : EvX tb σ H (rV y)) (hs : scal x y = true) : EvX (tOp rNe ta tb) σ H (rB (!decide (x = y))) := fun H1 e Q q =>
  ha H1 e _ fun x' H2 e2 hx => hb H2 (e.trans e2) _ fun y' H3 e3 hy => by
    subst hx; subst hy
    exact ⟨hs, q _ H3 (e2.trans e3) rfl⟩
theorem evx_isN (ha : EvX ta σ H (rV x)) : EvX (tOp (fun x y H Q => y = .non ∧ Q (.bl (decide (x = .non))) H) ta (tC .non)) σ H (rB (decide (x = .non))) := fun H1 e Q q =>
  ha H1 e _ fun x' H2 e2 hx => by
    cases hx
    exact ⟨rfl, q _ H2 e2 rfl⟩
/-! #### len, all, any, sum, tuple, list -/
abbrev rLen (K : PySem.W.Frag) : List V → Hp → VK → Prop := fun xs H Q => ∃ p ys, xs = [.ref p] ∧ (SqL K H p ys ∨ SqT K H p ys) ∧ Q (.int ys.length) H
theorem evx_lenL (ha : EvX ta σ H (rL rs)) : EvX (tCB (rLen K) (tCons ta tNil)) σ H (rN rs.length) := fun H1 e Q q =>
  ha H1 e _ fun x H2 e2 ⟨a, vs, ex, _, ea, al⟩ => by
    subst ex
    exact ⟨a, vs, rfl, .inl (SqL.of ea), q _ H2 e2 (by rw [al.1]; rfl)⟩
theorem evx_lenT (ha : EvX ta σ H (rT rs)) : EvX (tCB (rLen K) (tCons ta tNil)) σ H (rN rs.length) := fun H1 e Q q =>
  ha H1 e _ fun x H2 e2 ⟨a, vs, ex, ea, al⟩ => by
    subst ex
    exact ⟨a, vs, rfl, .inr (SqT.of ea), q _ H2 e2 (by rw [al.1]; rfl)⟩
theorem evx_all {bs : List Bool} (ha : EvX ta σ H (rL (bs.map fun b => rB b))) : EvX (tCB (rAll K) (tCons ta tNil)) σ H (rB (bs.all id)) := fun H1 e Q q =>
  ha H1 e _ fun x H2 e2 ⟨a, vs, ex, _, ea, al⟩ => by
    subst ex
    cases bools_of.mp al
    exact ⟨a, bs, rfl, SqL.of ea, q _ H2 e2 rfl⟩
theorem evx_any {bs : List Bool} (ha : EvX ta σ H (rL (bs.map fun b => rB b))) : EvX (tCB (rAny K) (tCons ta tNil)) σ H (rB (bs.any id)) := fun H1 e Q q =>
  ha H1 e _ fun x H2 e2 ⟨a, vs, ex, _, ea, al⟩ => by
    subst ex
    cases bools_of.mp al
    exact ⟨a, bs, rfl, SqL.of ea, q _ H2 e2 rfl⟩
theorem sum_cast : ∀ ns : List Nat, (ns.map fun (n : Nat) => (n : Int)).sum = ((ns.sum : Nat) : Int)
  | [] => rfl
  | n :: r => by
    rw [List.map_cons, List.sum_cons, List.sum_cons, sum_cast r]
    omega
theorem evx_sum {ns : List Nat} (ha : EvX ta σ H (rL (ns.map fun n => rN n))) : EvX (tCB (rSum K) (tCons ta tNil)) σ H (rN ns.sum) := fun H1 e Q q =>
  ha H1 e _ fun x H2 e2 ⟨a, vs, ex, _, ea, al⟩ => by
    subst ex
    cases ints_of.mp al
    refine ⟨a, ns.map (fun (n : Nat) => (n : Int)), rfl, SqL.of (by rw [ea, List.map_map]; rfl), q _ H2 e2 ?_⟩
    show V.int _ = V.int _
    rw [sum_cast]
abbrev rTupOf (K : PySem.W.Frag) : List V → Hp → VK → Prop := fun xs H Q => ∃ p ys, xs = [.ref p] ∧ ((SqL K H p ys ∧ ∀ l, H l = none → Q (.ref l) (upd H l (.tup ys))) ∨ (SqT K H p ys ∧ Q (.ref p) H))
theorem evr_tuple (ha : EvR ta σ H (rL rs)) (hs : ∀ r ∈ rs, St r) : EvR (tCB (rTupOf K) (tCons ta tNil)) σ H (rT rs) := fun H1 e Q q =>
  ha H1 e _ fun x H2 e2 ⟨a, vs, ex, _, ea, al⟩ => by
    subst ex
    refine ⟨a, vs, rfl, .inl ⟨SqL.of ea, fun l hl => q _ _ (e2.trans (Ex.new hl)) ⟨l, vs, rfl, upd_same, al.mono fun x r hr h => (hs r hr).ex (Ex.new hl) h⟩⟩⟩
abbrev rListOf (K : PySem.W.Frag) : List V → Hp → VK → Prop := fun xs H Q => ∃ p ys, xs = [.ref p] ∧ (SqL K H p ys ∨ SqT K H p ys) ∧ ∀ l, H l = none → Q (.ref l) (upd H l (.lst ys))
theorem evr_listT (ha : EvX ta σ H (rT rs)) (hs : ∀ r ∈ rs, Fl r) : EvR (tCB (rListOf K) (tCons ta tNil)) σ H (rL rs) := fun H1 e Q q =>
  ha H1 e _ fun x H2 e2 ⟨a, vs, ex, ea, al⟩ => by
    subst ex
    refine ⟨a, vs, rfl, .inr (SqT.of ea), fun l hl => q _ _ (e2.trans (Ex.new hl)) ⟨l, vs, rfl, fresh_back e2 hl, upd_same, al.mono fun x r hr h => (hs r hr).ex (Ex.new hl) h⟩⟩
/-! #### subscripts -/
theorem ixN_of {n j : Nat} {i : Int} (hi : i = (j : Int)) (hj : j < n) : ixN n i = some j := by
  subst hi
  exact ixN_nat hj
theorem atI_of {α : Type} {xs : List α} {i : Int} {j : Nat} {v : α} (hi : i = (j : Int)) (hv : xs[j]? = some v) : atI xs i = some v := by
  unfold atI
  rw [ixN_of hi (List.getElem?_eq_some_iff.mp hv).1]
  exact hv
theorem evx_ixL {i : Int} {j : Nat} (ha : EvX ta σ H (rL rs)) (hb : EvX tb σ H (rI i)) (hi : i = (j : Int)) (hr : rs[j]? = some r) (hm : ∀ r ∈ rs, Mo r) : EvX (tOp (rIxL K) ta tb) σ H r := fun H1 e Q q =>
  ha H1 e _ fun x H2 e2 ⟨a, vs, ex, _, ea, al⟩ => hb H2 (e.trans e2) _ fun y H3 e3 hy => by
    subst ex; cases hy
    obtain ⟨v, hv, h⟩ := al.get hr
    exact ⟨a, vs, i, v, rfl, rfl, SqL.of (e3 a _ ea), atI_of hi hv, q v H3 (e2.trans e3) (hm r (List.mem_of_getElem? hr) H2 H3 v e3 h)⟩
theorem evx_ixT {i : Int} {j : Nat} (ha : EvX ta σ H (rT rs)) (hb : EvX tb σ H (rI i)) (hi : i = (j : Int)) (hr : rs[j]? = some r) (hm : ∀ r ∈ rs, Mo r) : EvX (tOp (rIxT K) ta tb) σ H r := fun H1 e Q q =>
  ha H1 e _ fun x H2 e2 ⟨a, vs, ex, ea, al⟩ => hb H2 (e.trans e2) _ fun y H3 e3 hy => by
    subst ex; cases hy
    obtain ⟨v, hv, h⟩ := al.get hr
    exact ⟨a, vs, i, v, rfl, rfl, SqT.of (e3 a _ ea), atI_of hi hv, q v H3 (e2.trans e3) (hm r (List.mem_of_getElem? hr) H2 H3 v e3 h)⟩
/-! #### arguments, displays -/
theorem xa_nil : EvXA tNil σ H [] := fun H1 _ Q q => q [] H1 (Ex.refl H1) All2.nil
theorem xa_cons {tr : TA} (h : EvX te σ H r) (m : Mo r) (hr : EvXA tr σ H rs) : EvXA (tCons te tr) σ H (r :: rs) := fun H1 e Q q =>
  h H1 e _ fun x H2 e2 hx => hr H2 (e.trans e2) _ fun vs H3 e3 al => q _ H3 (e2.trans e3) (.cons (m H2 H3 x e3 hx) al)
theorem ra_nil : EvRA tNil σ H [] := fun H1 _ Q q => q [] H1 (Ex.refl H1) All2.nil
theorem ra_cons {tr : TA} (h : EvR te σ H r) (m : St r) (hr : EvRA tr σ H rs) (hs : ∀ r ∈ rs, St r) : EvRA (tCons te tr) σ H (r :: rs) := fun H1 e Q q =>
  h H1 e _ fun x H2 e2 hx => hr H2 (e.trans e2) _ fun vs H3 e3 al => q _ H3 (e2.trans e3) (.cons (m.ex e3 hx) (al.mono fun x r hr h => (hs r hr).back e2 h))
theorem evr_tup {tr : TA} (h : EvRA tr σ H rs) (hs : ∀ r ∈ rs, St r) (hl : rs.length ≤ 100000 := by first | (show _ ≤ _; decide) | simp) : EvR (tTup tr) σ H (rT rs) := fun H1 e Q q =>
  h H1 e _ fun vs H2 e2 al => ⟨by rw [al.1]; exact sz_of hl, fun p hp => q _ _ (e2.trans (Ex.new hp)) ⟨p, vs, rfl, upd_same, al.mono fun x r hr h => (hs r hr).ex (Ex.new hp) h⟩⟩
theorem evr_lst {tr : TA} (h : EvRA tr σ H rs) (hs : ∀ r ∈ rs, St r) (hl : rs.length ≤ 100000 := by first | (show _ ≤ _; decide) | simp) : EvR (tLst tr) σ H (rL rs) := fun H1 e Q q =>
  h H1 e _ fun vs H2 e2 al => ⟨by rw [al.1]; exact sz_of hl, fun p hp => q _ _ (e2.trans (Ex.new hp)) ⟨p, vs, rfl, fresh_back e2 hp, upd_same, al.mono fun x r hr h => (hs r hr).ex (Ex.new hp) h⟩⟩
/-! #### list + list, list * n -/
theorem evr_cat {rs2 : List Rl} (ha : EvR ta σ H (rL rs)) (hb : EvR tb σ H (rL rs2)) (hs : ∀ r ∈ rs, St r) (hs2 : ∀ r ∈ rs2, St r) (hl : rs.length + rs2.length ≤ sizeLine) : EvR (tOp rCat ta tb) σ H (rL (rs ++ rs2)) := fun H1 e Q q =>
  ha H1 e _ fun x H2 e2 ⟨a, vs, ex, fa, ea, al⟩ => hb H2 (e.trans e2) _ fun y H3 e3 ⟨b, ws, ey, fb, eb, bl⟩ => by
    subst ex; subst ey
    refine ⟨a, b, vs, ws, rfl, rfl, e3 a _ ea, eb, by rw [al.1, bl.1]; exact hl, fun p hp => q _ _ ((e2.trans e3).trans (Ex.new hp)) ⟨p, vs ++ ws, rfl, fresh_back (e2.trans e3) hp, upd_same, ?_⟩⟩
    exact (al.mono fun x r hr h => (hs r hr).ex (e3.trans (Ex.new hp)) h).append (bl.mono fun x r hr h => (hs2 r hr).back e2 ((hs2 r hr).ex (Ex.new hp) h))
/-! #### tests -/
theorem ett {b : Bool} (h : EvX te σ H (rB b)) : EvT (tTest te) σ H b := fun H1 e _ q => h H1 e _ fun v H2 e2 hv => ⟨b, hv, q H2 e2⟩
theorem etb {b : Bool} (h : EvX te σ H (rB b)) : EvT (tB te) σ H b := fun H1 e _ q => h H1 e _ fun v H2 e2 hv => ⟨b, hv, q H2 e2⟩
theorem evx_andV {a b : Bool} (h1 : EvX ta σ H (rB a)) (h2 : a = true → EvX tb σ H (rB b)) : EvX (tAndV ta tb) σ H (rB (a && b)) := fun H1 e Q q => h1 H1 e _ fun v H2 e2 hv => ⟨a, hv, by
  cases a with
  | true =>
    show tb σ H2 Q
    exact h2 rfl H2 (e.trans e2) Q fun w H3 e3 hw => q w H3 (e2.trans e3) hw
  | false =>
    show Q (.bl false) H2
    exact q _ H2 e2 rfl⟩
theorem evx_orV {a b : Bool} (h1 : EvX ta σ H (rB a)) (h2 : a = false → EvX tb σ H (rB b)) : EvX (tOrV ta tb) σ H (rB (a || b)) := fun H1 e Q q => h1 H1 e _ fun v H2 e2 hv => ⟨a, hv, by
  cases a with
  | true =>
    show Q (.bl true) H2
    exact q _ H2 e2 rfl
  | false =>
    show tb σ H2 Q
    exact h2 rfl H2 (e.trans e2) Q fun w H3 e3 hw => q w H3 (e2.trans e3) hw⟩
theorem evx_notV {a : Bool} (h1 : EvX ta σ H (rB a)) : EvX (tNotV ta) σ H (rB (!a)) := fun H1 e Q q => h1 H1 e _ fun v H2 e2 hv => ⟨a, hv, q _ H2 e2 rfl⟩
end

/-! ### comprehensions -/
section
variable {J : It} {n : Nat} {G : Hp → Prop} {Y : Nat → Hp → V → Hp → Prop}
theorem lc_new (w : Walk J n G Y) {g : TG} {te : TE} {vs : List Nat} {σ : L2.St} {H1 : Hp} {D : Addr} {Q : VK} (hD : H1 D = none) (hG : ∀ H, Ex H1 H → G H) (rs : List Rl) (hn : rs.length = n) (hz : n ≤ 100000) (hst : ∀ r ∈ rs, St r)
    (hs : ∀ i r x H H', rs[i]? = some r → Ex H1 H → Y i H x H' → ∃ σ2 H2, (∀ q : L2.St → Hp → Prop, q σ2 H2 → g x (wipe σ vs) H' q) ∧ wipe σ2 vs = wipe σ vs ∧ Ex H H2 ∧ EvR te σ2 H2 r)
    (hd : ∀ H', Ex H1 H' → rL rs (New H1) H' (.ref D) → Q (.ref D) H') :
    ∃ W : Nat → Nat → Hp → Prop, (∃ m, W 0 m (upd H1 D (.lst []))) ∧ ∀ i m H, W i m H →
      (J.stop i H ∧ Q (.ref D) H) ∨ (J.go i H ∧ ∃ Nx : Hp → Prop, (∀ H', Nx H' → ∃ m', m' < m ∧ W (i + 1) m' H') ∧ ∀ x H', J.yld i H x H' → g x (wipe σ vs) H' fun σ2 H2 => wipe σ2 vs = wipe σ vs ∧ tYes σ2 H2 fun b H3 =>
        if b = true then te σ2 H3 fun y H4 => ∃ acc, H4 D = some (.lst acc) ∧ acc.length < sizeLine ∧ Nx (upd H4 D (.lst (acc ++ [y]))) else Nx H3) := by
  refine lc_it w (tt := tYes) (Qd := fun H => Q (.ref D) H) (fun i H => Ex H1 H ∧ ∃ ys, H D = some (.lst ys) ∧ All2 (fun v (r : Rl) => r (fun a => H1 a = none ∧ a ≠ D) H v) ys (rs.take i)) ?_ (fun i H _ p => hG H p.1) ?_ ?_
  · exact ⟨Ex.new hD, [], upd_same, by rw [List.take_zero]; exact All2.nil⟩
  · rintro i x H H' hi ⟨e, ys, hy, al⟩ yl
    have hir : i < rs.length := by omega
    have hr : rs[i]? = some rs[i] := List.getElem?_eq_getElem hir
    obtain ⟨σ2, H2, hg, hw, e2, ev⟩ := hs i rs[i] x H H' hr e yl
    refine hg _ ⟨hw, ?_⟩
    show te σ2 H2 _
    refine ev H2 (Ex.refl H2) _ fun y H4 e4 hy4 => ?_
    have eD : H4 D = some (.lst ys) := e4 D _ (e2 D _ hy)
    have hlen : ys.length = i := by rw [al.1, List.length_take]; omega
    refine ⟨ys, eD, sz_lt (by omega), Ex.mut ((e.trans e2).trans e4) hD, ys ++ [y], upd_same, ?_⟩
    have tr : ∀ r : Rl, St r → ∀ v, r (fun a => H1 a = none ∧ a ≠ D) H4 v → r (fun a => H1 a = none ∧ a ≠ D) (upd H4 D (.lst (ys ++ [y]))) v := fun r s v h => by
      refine s _ _ H4 _ v (fun a z => z) ⟨fun a xs h => ?_, fun a xs f h => ?_⟩ h
      · rw [upd_ne (ne_of h eD (by intro z; cases z))]
        exact h
      · rw [upd_ne f.2]
        exact h
    rw [List.take_add_one, hr]
    refine All2.snoc (al.mono fun v r hm h => tr r (hst r (List.mem_of_mem_take hm)) v ((hst r (List.mem_of_mem_take hm)).ex (e2.trans e4) h)) ?_
    have s := hst _ (List.mem_of_getElem? hr)
    refine tr _ s y (s _ _ H4 H4 y (fun a ha => ⟨fresh_back (e.trans e2) ha, fun z => ?_⟩) Tr.rf hy4)
    subst z
    have : H2 a = none := ha
    rw [e2 a _ hy] at this
    cases this
  · rintro H ⟨e, ys, hy, al⟩
    refine hd H e ⟨D, ys, rfl, hD, hy, ?_⟩
    rw [List.take_of_length_le (by omega)] at al
    exact al.mono fun v r hm h => hst r hm _ _ H H v (fun a ha => ha.1) Tr.rf h
end
section
variable {K : PySem.W.Frag} {σ : L2.St} {H : Hp} {tl te : TE} {vs : List Nat} {g : TG} {rs qs : List Rl}
/-- over a list -/
theorem evr_lcL {g : TG} (hl : EvX tl σ H (rL qs)) (hm : ∀ r ∈ qs, Mo r) (hn : rs.length = qs.length) (hz : rs.length ≤ 100000) (hst : ∀ r ∈ rs, St r)
    (hs : ∀ (i : Nat) (q r : Rl) (x : V) (H1 : Hp), qs[i]? = some q → rs[i]? = some r → Ex H H1 → q Any H1 x → ∃ σ2 H2, (∀ k : L2.St → Hp → Prop, k σ2 H2 → g x (wipe σ vs) H1 k) ∧ wipe σ2 vs = wipe σ vs ∧ Ex H1 H2 ∧ EvR te σ2 H2 r) :
    EvR (tLc (iList K tl) g tYes te vs) σ H (rL rs) := fun H0 e Q q =>
  hl H0 e _ fun x H1 e1 ⟨a, ws, ex, _, ea, al⟩ => by
    refine ⟨a, ex, ⟨ws, SqL.of ea⟩, fun D hD => ?_⟩
    refine lc_new (walk_list (K := K) (a := a) (xs := ws)) hD (fun H' e' => SqL.of (e' a _ ea)) rs (by rw [hn, al.1]) (by rw [al.1, ← hn]; exact hz) hst (fun i r x Ha Hb hr eh y => ?_) fun H' e' hr => q _ H' (e1.trans e') ((st_L hst).back e1 hr)
    obtain ⟨rfl, hx⟩ := y
    obtain ⟨qi, hq, h⟩ := al.get' hx
    exact hs i qi r x _ hq hr ((e.trans e1).trans eh) (hm qi (List.mem_of_getElem? hq) _ _ x eh h)
/-- over a tuple -/
theorem evr_lcT {g : TG} (hl : EvX tl σ H (rT qs)) (hm : ∀ r ∈ qs, Mo r) (hn : rs.length = qs.length) (hz : rs.length ≤ 100000) (hst : ∀ r ∈ rs, St r)
    (hs : ∀ (i : Nat) (q r : Rl) (x : V) (H1 : Hp), qs[i]? = some q → rs[i]? = some r → Ex H H1 → q Any H1 x → ∃ σ2 H2, (∀ k : L2.St → Hp → Prop, k σ2 H2 → g x (wipe σ vs) H1 k) ∧ wipe σ2 vs = wipe σ vs ∧ Ex H1 H2 ∧ EvR te σ2 H2 r) :
    EvR (tLc (iTup K tl) g tYes te vs) σ H (rL rs) := fun H0 e Q q =>
  hl H0 e _ fun x H1 e1 ⟨a, ws, ex, ea, al⟩ => by
    refine ⟨a, ex, ⟨ws, SqT.of ea⟩, fun D hD => ?_⟩
    refine lc_new (walk_tup (K := K) (a := a) (xs := ws)) hD (fun H' e' => SqT.of (e' a _ ea)) rs (by rw [hn, al.1]) (by rw [al.1, ← hn]; exact hz) hst (fun i r x Ha Hb hr eh y => ?_) fun H' e' hr => q _ H' (e1.trans e') ((st_L hst).back e1 hr)
    obtain ⟨rfl, hx⟩ := y
    obtain ⟨qi, hq, h⟩ := al.get' hx
    exact hs i qi r x _ hq hr ((e.trans e1).trans eh) (hm qi (List.mem_of_getElem? hq) _ _ x eh h)
/-- over range(n) -/
theorem evr_lcR {g : TG} {ta : TA} {m : Int} (hl : EvXA ta σ H [rI m]) (hb : -(2 ^ 62) ≤ m ∧ m ≤ 100000) (hn : rs.length = m.toNat) (hst : ∀ r ∈ rs, St r)
    (hs : ∀ (i : Nat) (r : Rl) (H1 : Hp), rs[i]? = some r → Ex H H1 → ∃ σ2 H2, (∀ k : L2.St → Hp → Prop, k σ2 H2 → g (.int (i : Int)) (wipe σ vs) H1 k) ∧ wipe σ2 vs = wipe σ vs ∧ Ex H1 H2 ∧ EvR te σ2 H2 r) :
    EvR (tLc (iRng1 ta) g tYes te vs) σ H (rL rs) := fun H0 e Q q =>
  hl H0 e _ fun xs H1 e1 al => by
    obtain ⟨x, r, rfl, hx, hr⟩ := al.un_cons
    cases hr.un_nil
    cases hx
    refine ⟨m, rfl, hb.1, by omega, fun D hD => ?_⟩
    refine lc_new (walk_range (lo := 0) (n := m.toNat)) hD (fun H' e' => trivial) rs hn (by omega) hst (fun i r x Ha Hb hr eh y => ?_) fun H' e' hr => q _ H' (e1.trans e') ((st_L hst).back e1 hr)
    obtain ⟨rfl, rfl⟩ := y
    have := hs i r _ hr ((e.trans e1).trans eh)
    show ∃ σ2 H2, (∀ k : L2.St → Hp → Prop, k σ2 H2 → g (.int (0 + (i : Int))) (wipe σ vs) _ k) ∧ wipe σ2 vs = wipe σ vs ∧ Ex _ H2 ∧ EvR te σ2 H2 r
    rw [Int.zero_add]
    exact this
/-- over range(lo, hi) -/
theorem evr_lcR2 {g : TG} {ta : TA} {lo hi : Int} (hl : EvXA ta σ H [rI lo, rI hi]) (hb : -(2 ^ 62) ≤ lo ∧ lo < 2 ^ 62 ∧ -(2 ^ 62) ≤ hi ∧ hi < 2 ^ 62 ∧ hi - lo ≤ 100000) (hn : rs.length = (hi - lo).toNat) (hst : ∀ r ∈ rs, St r)
    (hs : ∀ (i : Nat) (r : Rl) (H1 : Hp), rs[i]? = some r → Ex H H1 → ∃ σ2 H2, (∀ k : L2.St → Hp → Prop, k σ2 H2 → g (.int (lo + (i : Int))) (wipe σ vs) H1 k) ∧ wipe σ2 vs = wipe σ vs ∧ Ex H1 H2 ∧ EvR te σ2 H2 r) :
    EvR (tLc (iRng2 ta) g tYes te vs) σ H (rL rs) := fun H0 e Q q =>
  hl H0 e _ fun xs H1 e1 al => by
    obtain ⟨x, r, rfl, hx, hr⟩ := al.un_cons
    obtain ⟨x2, r2, rfl, hx2, hr2⟩ := hr.un_cons
    cases hr2.un_nil
    cases hx
    cases hx2
    refine ⟨lo, hi, rfl, ⟨hb.1, hb.2.1, hb.2.2.1, hb.2.2.2.1⟩, fun D hD => ?_⟩
    refine lc_new (walk_range (lo := lo) (n := (hi - lo).toNat)) hD (fun H' e' => trivial) rs hn (by omega) hst (fun i r x Ha Hb hr eh y => ?_) fun H' e' hr => q _ H' (e1.trans e') ((st_L hst).back e1 hr)
    obtain ⟨rfl, rfl⟩ := y
    exact hs i r _ hr ((e.trans e1).trans eh)
/-- over zip of two lists -/
theorem evr_lcZ {ta tb : TE} {ps : List Rl} (ha : EvX ta σ H (rL ps)) (hb : EvX tb σ H (rL qs)) (hmp : ∀ r ∈ ps, Mo r) (hm : ∀ r ∈ qs, Mo r) (hn : rs.length = min ps.length qs.length) (hz : rs.length ≤ 100000) (hst : ∀ r ∈ rs, St r)
    (hs : ∀ (i : Nat) (p q r : Rl) (x y : V) (T : Addr) (H1 H2 : Hp), ps[i]? = some p → qs[i]? = some q → rs[i]? = some r → Ex H H1 → Ex H1 H2 → H2 T = some (.tup [x, y]) → p Any H2 x → q Any H2 y → ∃ σ2 H3, (∀ k : L2.St → Hp → Prop, k σ2 H3 → g (.ref T) (wipe σ vs) H2 k) ∧ wipe σ2 vs = wipe σ vs ∧ Ex H2 H3 ∧ EvR te σ2 H3 r) :
    EvR (tLc (iZip K (tCons ta (tCons tb tNil))) g tYes te vs) σ H (rL rs) := fun H0 e Q q =>
  ha H0 e _ fun x H1 e1 ⟨a, ws, ex, _, ea, al⟩ => hb H1 (e.trans e1) _ fun y H2 e2 ⟨b, us, ey, _, eb, bl⟩ => by
    have al2 : All2 (fun v (r : Rl) => r Any H2 v) ws ps := al.mono fun v r hr h => hmp r hr _ _ v e2 h
    refine ⟨a, b, ws, us, by rw [ex, ey], SqL.of (e2 a _ ea), SqL.of eb, fun D hD => ?_⟩
    refine lc_new (walk_zip (K := K) (a := a) (b := b) (xs := ws) (ys := us) rfl) hD (fun H' e' => ⟨SqL.of (e' a _ (e2 a _ ea)), SqL.of (e' b _ eb)⟩) rs (by rw [hn, al.1, bl.1]) (by rw [al.1, bl.1, ← hn]; exact hz) hst (fun i r x Ha Hb hr eh y => ?_) fun H' e' hr => q _ H' ((e1.trans e2).trans e') ((st_L hst).back (e1.trans e2) hr)
    obtain ⟨T, x', y', rfl, hT, rfl, hx, hy⟩ := y
    obtain ⟨p, hp, h1⟩ := al2.get' hx
    obtain ⟨q', hq, h2⟩ := bl.get' hy
    have en : Ex Ha (upd Ha T (.tup [x', y'])) := Ex.new hT
    obtain ⟨σ2, H3, k1, k2, k3, k4⟩ := hs i p q' r x' y' T Ha _ hp hq hr (((e.trans e1).trans e2).trans eh) en upd_same (hmp p (List.mem_of_getElem? hp) _ _ x' (eh.trans en) h1) (hm q' (List.mem_of_getElem? hq) _ _ y' (eh.trans en) h2)
    exact ⟨σ2, H3, k1, k2, en.trans k3, k4⟩
theorem walk_zipT {a b : Addr} {xs ys : List V} {n : Nat} (hn : n = min xs.length ys.length) : Walk (RZ.ItzT K a b) n (fun H => SqT K H a xs ∧ SqT K H b ys) (YPair (fun i => xs[i]?) (fun i => ys[i]?)) := by
  subst hn
  refine ⟨fun i _ hi q => ?_, fun _ q => ⟨xs, ys, q.1, q.2, by omega⟩, fun i H v H' _ q y => ?_⟩
  · exact ⟨xs, ys, xs[i]'(by omega), ys[i]'(by omega), q.1, q.2, List.getElem?_eq_getElem (by omega), List.getElem?_eq_getElem (by omega)⟩
  · obtain ⟨T, x, z, h1, h2, h3, h4, h5⟩ := y
    exact ⟨T, x, z, h1, h2, h3, h4 xs q.1, h5 ys q.2⟩
/-- over zip of two tuples -/
theorem evr_lcZT {ta tb : TE} {ps : List Rl} (ha : EvX ta σ H (rT ps)) (hb : EvX tb σ H (rT qs)) (hmp : ∀ r ∈ ps, Mo r) (hm : ∀ r ∈ qs, Mo r) (hn : rs.length = min ps.length qs.length) (hz : rs.length ≤ 100000) (hst : ∀ r ∈ rs, St r)
    (hs : ∀ (i : Nat) (p q r : Rl) (x y : V) (T : Addr) (H1 H2 : Hp), ps[i]? = some p → qs[i]? = some q → rs[i]? = some r → Ex H H1 → Ex H1 H2 → H2 T = some (.tup [x, y]) → p Any H2 x → q Any H2 y → ∃ σ2 H3, (∀ k : L2.St → Hp → Prop, k σ2 H3 → g (.ref T) (wipe σ vs) H2 k) ∧ wipe σ2 vs = wipe σ vs ∧ Ex H2 H3 ∧ EvR te σ2 H3 r) :
    EvR (tLc (RZ.iZipA K (tCons ta (tCons tb tNil))) g tYes te vs) σ H (rL rs) := fun H0 e Q q =>
  ha H0 e _ fun x H1 e1 ⟨a, ws, ex, ea, al⟩ => hb H1 (e.trans e1) _ fun y H2 e2 ⟨b, us, ey, eb, bl⟩ => by
    have al2 : All2 (fun v (r : Rl) => r Any H2 v) ws ps := al.mono fun v r hr h => hmp r hr _ _ v e2 h
    refine ⟨a, b, ws, us, by rw [ex, ey], .inr ⟨SqT.of (e2 a _ ea), SqT.of eb, fun D hD => ?_⟩⟩
    refine lc_new (walk_zipT (K := K) (a := a) (b := b) (xs := ws) (ys := us) rfl) hD (fun H' e' => ⟨SqT.of (e' a _ (e2 a _ ea)), SqT.of (e' b _ eb)⟩) rs (by rw [hn, al.1, bl.1]) (by rw [al.1, bl.1, ← hn]; exact hz) hst (fun i r x Ha Hb hr eh y => ?_) fun H' e' hr => q _ H' ((e1.trans e2).trans e') ((st_L hst).back (e1.trans e2) hr)
    obtain ⟨T, x', y', rfl, hT, rfl, hx, hy⟩ := y
    obtain ⟨p, hp, h1⟩ := al2.get' hx
    obtain ⟨q', hq, h2⟩ := bl.get' hy
    have en : Ex Ha (upd Ha T (.tup [x', y'])) := Ex.new hT
    obtain ⟨σ2, H3, k1, k2, k3, k4⟩ := hs i p q' r x' y' T Ha _ hp hq hr (((e.trans e1).trans e2).trans eh) en upd_same (hmp p (List.mem_of_getElem? hp) _ _ x' (eh.trans en) h1) (hm q' (List.mem_of_getElem? hq) _ _ y' (eh.trans en) h2)
    exact ⟨σ2, H3, k1, k2, en.trans k3, k4⟩
/-- a pair as a target -/
theorem g_pair {i j : Nat} {T : Addr} {x y : V} {σ : L2.St} {H : Hp} (hT : SqT K H T [x, y]) : ∀ k : L2.St → Hp → Prop, k ((σ.set i (some x)).set j (some y)) H → gTup K 2 (gCons (gName i) (gCons (gName j) gNil)) (.ref T) σ H k :=
  fun k h => ⟨T, [x, y], rfl, hT, rfl, x, [y], rfl, y, [], rfl, rfl, h⟩
end

/-! ### promises of defs that change nothing -/
def spP {α : Type} (ar : α → List Rl) (pre : α → Prop) (out : α → Rl) : Sp := fun vs H Q _ => ∃ x : α, All2 (fun v (r : Rl) => r Any H v) vs (ar x) ∧ pre x ∧ ∀ v H', Ex H H' → out x (New H) H' v → Q v H'
section
variable {σ : L2.St} {H : Hp} {te to_ : TE} {ta : TA} {E : XK} {α : Type} {ar : α → List Rl} {pre : α → Prop} {out : α → Rl} {r : Rl} {rs : List Rl}
theorem evr_call (x : α) (hp : pre x) (hs : St (out x)) (h : EvXA ta σ H (ar x)) : EvR (tCall (spP ar pre out) [] E ta) σ H (out x) := fun H1 e Q q =>
  h H1 e _ fun vs H2 e2 al => ⟨x, by rw [List.append_nil]; exact al, hp, fun v H3 e3 hv => q v H3 (e2.trans e3) (hs.back e2 hv)⟩
/-- an instance whose attributes hide no method m -/
def Obj (C : Addr) (m : Str) (r : Rl) : Prop := ∀ H v, r Any H v → ∃ a dx fs, v = .ref a ∧ H a = some (.ins C dx fs) ∧ fs.lookup m = none
theorem evr_meth {C : Addr} {m : Str} (x : α) (hp : pre x) (hs : St (out x)) (ho : Obj C m r) (hm : Mo r) (h : EvX to_ σ H r) (ha : EvXA ta σ H rs) (hx : ar x = r :: rs) : EvR (tMeth C m (spP ar pre out) [] E to_ ta) σ H (out x) := fun H1 e Q q =>
  h H1 e _ fun v H2 e2 hv => by
    obtain ⟨a, dx, fs, rfl, hi, hl⟩ := ho H2 v hv
    refine ⟨a, dx, fs, rfl, hi, hl, ?_⟩
    refine ha H2 (e.trans e2) _ fun vs H3 e3 al => ⟨x, ?_, hp, fun v H4 e4 hr => q v H4 ((e2.trans e3).trans e4) (hs.back (e2.trans e3) hr)⟩
    rw [List.append_nil, hx]
    exact .cons (hm H2 H3 _ e3 hv) al
end
/-! ### statements -/
section
variable {σ : L2.St} {H : Hp} {te : TE} {D : Ends} {tz : TS} {r : Rl}
theorem s_retR (h : EvR te σ H r) (k : ∀ v H1, Ex H H1 → r (New H) H1 v → D.rt v H1) : tRet te D σ H := h H (Ex.refl H) _ fun v H1 e hr => k v H1 e hr
theorem s_retX (h : EvX te σ H r) (k : ∀ v H1, Ex H H1 → r Any H1 v → D.rt v H1) : tRet te D σ H := h H (Ex.refl H) _ fun v H1 e hr => k v H1 e hr
theorem s_asgR {i : Nat} (h : EvR te σ H r) (k : ∀ v H1, Ex H H1 → r (New H) H1 v → D.nx (σ.set i (some v)) H1) : tAsg te (gName i) D σ H := h H (Ex.refl H) _ fun v H1 e hr => k v H1 e hr
theorem s_asgX {i : Nat} (h : EvX te σ H r) (k : ∀ v H1, Ex H H1 → r Any H1 v → D.nx (σ.set i (some v)) H1) : tAsg te (gName i) D σ H := h H (Ex.refl H) _ fun v H1 e hr => k v H1 e hr
theorem q_asgR {i : Nat} (h : EvR te σ H r) (k : ∀ v H1, Ex H H1 → r (New H) H1 v → tz D (σ.set i (some v)) H1) : tSeq (tAsg te (gName i)) tz D σ H := h H (Ex.refl H) _ fun v H1 e hr => k v H1 e hr
theorem q_asgX {i : Nat} (h : EvX te σ H r) (k : ∀ v H1, Ex H H1 → r Any H1 v → tz D (σ.set i (some v)) H1) : tSeq (tAsg te (gName i)) tz D σ H := h H (Ex.refl H) _ fun v H1 e hr => k v H1 e hr
end
/-! ### rules with the written part named: for use within a comprehension -/
section
variable {X : Cx}
theorem ixL (K : PySem.W.Frag) (hK : X.K = K := by rfl) : IxR X (rIxL K) := hK ▸ ix_list
theorem ixT (K : PySem.W.Frag) (hK : X.K = K := by rfl) : IxR X (rIxT K) := hK ▸ ix_tup
theorem lenS (K : PySem.W.Frag) (hK : X.K = K := by rfl) : CallR X (.builtin "len") (rLen K) := hK ▸ call_len_seq
theorem allS (K : PySem.W.Frag) (hc : X.calm = true) (hK : X.K = K := by rfl) : CallR X (.builtin "all") (rAll K) := hK ▸ cr_all hc
theorem anyS (K : PySem.W.Frag) (hc : X.calm = true) (hK : X.K = K := by rfl) : CallR X (.builtin "any") (rAny K) := hK ▸ cr_any hc
theorem sumS (K : PySem.W.Frag) (hc : X.calm = true) (hK : X.K = K := by rfl) : CallR X (.builtin "sum") (rSum K) := hK ▸ cr_sum hc
theorem tupleOf (K : PySem.W.Frag) (hK : X.K = K := by rfl) : CallR X (.type "tuple") (rTupOf K) := hK ▸ call_tuple_of
theorem listOf (K : PySem.W.Frag) (hK : X.K = K := by rfl) : CallR X (.type "list") (rListOf K) := hK ▸ call_list_of
theorem eqD (K : PySem.W.Frag) (hu : X.A.units + 64 < cLine) (hK : X.K = K := by rfl) : OpR X (compareOp .Eq) (rEqD K) := hK ▸ op_eqD hu
theorem inS (K : PySem.W.Frag) (hK : X.K = K := by rfl) : OpR X (compareOp .In) (rIn K false) := hK ▸ op_in_seq
theorem ninS (K : PySem.W.Frag) (hK : X.K = K := by rfl) : OpR X (compareOp .NotIn) (rIn K true) := hK ▸ op_notIn_seq
theorem catA (K : PySem.W.Frag) (hK : X.K = K := by rfl) : OpR X (binaryOp .Add) (rCatA K) := hK ▸ op_catA
theorem slL (K : PySem.W.Frag) (hK : X.K = K := by rfl) : SlR X (rSlL K) := hK ▸ sl_list
theorem slT (K : PySem.W.Frag) (hK : X.K = K := by rfl) : SlR X (rSlA K) := hK ▸ sl_tupA
theorem piL (K : PySem.W.Frag) {tg l : Expr} {tl : TE} (hl : PE X l tl) (hK : X.K = K := by rfl) : PI X tg l (iList K tl) := hK ▸ pi_list hl
theorem piT (K : PySem.W.Frag) {tg l : Expr} {tl : TE} (hl : PE X l tl) (hK : X.K = K := by rfl) : PI X tg l (iTup K tl) := hK ▸ pi_tup hl
theorem fldS (K : PySem.W.Frag) {e : Expr} {f : Str} {pos : Pos} {ta : TE} (he : PE X e ta) (hb : attributeBase e f X.env (eval e X.env) = eval e X.env) (hK : X.K = K := by rfl) : PE X (.Attribute e f pos) (tFld K ta f) := hK ▸ pe_fld he hb
end
end Ps

namespace Ps
open PySem PySem.Spec PyProof.Rows L2 Evl

/-! ### the text by places -/
def topS (i : Nat) : Stmt := PySem.Challenge.pw_partscore_s01_answers.main.body.getD i (.Pass ⟨0, 0, 0, 0⟩)
abbrev s_Reader___init__ : Stmt := inClass (topS 4) 0
abbrev N_Reader___init__ : List Str := ["self", "row"]
theorem sc_Reader___init__ : FnScope N_Reader___init__ ["self", "row"] (defScope s_Reader___init__) := ⟨rfl, rfl, rfl, by decide +kernel, rfl, by decide +kernel, by decide +kernel⟩
abbrev s_Reader_number : Stmt := inClass (topS 4) 1
abbrev N_Reader_number : List Str := ["self"]
theorem sc_Reader_number : FnScope N_Reader_number ["self"] (defScope s_Reader_number) := ⟨rfl, rfl, rfl, by decide +kernel, rfl, by decide +kernel, by decide +kernel⟩
abbrev s_Reader_item : Stmt := inClass (topS 4) 2
abbrev N_Reader_item : List Str := ["self", "length", "many", "k"]
theorem sc_Reader_item : FnScope N_Reader_item ["self"] (defScope s_Reader_item) := ⟨rfl, rfl, rfl, by decide +kernel, rfl, by decide +kernel, by decide +kernel⟩
abbrev s_Reader_bar : Stmt := inClass (topS 4) 3
abbrev N_Reader_bar : List Str := ["self", "many", "k"]
theorem sc_Reader_bar : FnScope N_Reader_bar ["self"] (defScope s_Reader_bar) := ⟨rfl, rfl, rfl, by decide +kernel, rfl, by decide +kernel, by decide +kernel⟩
abbrev s_Reader_bars : Stmt := inClass (topS 4) 4
abbrev N_Reader_bars : List Str := ["self", "many", "k"]
theorem sc_Reader_bars : FnScope N_Reader_bars ["self"] (defScope s_Reader_bars) := ⟨rfl, rfl, rfl, by decide +kernel, rfl, by decide +kernel, by decide +kernel⟩
abbrev s_is_item : Stmt := topS 5
abbrev N_is_item : List Str := ["item", "length", "pitches", "pitch", "k"]
theorem sc_is_item : FnScope N_is_item ["item"] (defScope s_is_item) := ⟨rfl, rfl, rfl, by decide +kernel, rfl, by decide +kernel, by decide +kernel⟩
abbrev s_is_bar : Stmt := topS 6
abbrev N_is_bar : List Str := ["bar", "length", "item"]
theorem sc_is_bar : FnScope N_is_bar ["bar", "length"] (defScope s_is_bar) := ⟨rfl, rfl, rfl, by decide +kernel, rfl, by decide +kernel, by decide +kernel⟩
abbrev s_does_rest : Stmt := topS 7
abbrev N_does_rest : List Str := ["bar", "item"]
theorem sc_does_rest : FnScope N_does_rest ["bar"] (defScope s_does_rest) := ⟨rfl, rfl, rfl, by decide +kernel, rfl, by decide +kernel, by decide +kernel⟩
abbrev s_rest_of : Stmt := topS 8
abbrev N_rest_of : List Str := ["length"]
theorem sc_rest_of : FnScope N_rest_of ["length"] (defScope s_rest_of) := ⟨rfl, rfl, rfl, by decide +kernel, rfl, by decide +kernel, by decide +kernel⟩
abbrev s_as_staff_has : Stmt := topS 9
abbrev N_as_staff_has : List Str := ["bar", "length"]
theorem sc_as_staff_has : FnScope N_as_staff_has ["bar", "length"] (defScope s_as_staff_has) := ⟨rfl, rfl, rfl, by decide +kernel, rfl, by decide +kernel, by decide +kernel⟩
abbrev s_told : Stmt := topS 10
abbrev N_told : List Str := ["bar", "found", "length", "pitches"]
theorem sc_told : FnScope N_told ["bar"] (defScope s_told) := ⟨rfl, rfl, rfl, by decide +kernel, rfl, by decide +kernel, by decide +kernel⟩
abbrev s_all_told : Stmt := topS 11
abbrev N_all_told : List Str := ["bars", "found", "bar"]
theorem sc_all_told : FnScope N_all_told ["bars"] (defScope s_all_told) := ⟨rfl, rfl, rfl, by decide +kernel, rfl, by decide +kernel, by decide +kernel⟩
abbrev s_with_count : Stmt := topS 12
abbrev N_with_count : List Str := ["row"]
theorem sc_with_count : FnScope N_with_count ["row"] (defScope s_with_count) := ⟨rfl, rfl, rfl, by decide +kernel, rfl, by decide +kernel, by decide +kernel⟩
abbrev s_is_chord_pair : Stmt := topS 20
abbrev N_is_chord_pair : List Str := ["one", "other"]
theorem sc_is_chord_pair : FnScope N_is_chord_pair ["one", "other"] (defScope s_is_chord_pair) := ⟨rfl, rfl, rfl, by decide +kernel, rfl, by decide +kernel, by decide +kernel⟩
abbrev s_mode_of : Stmt := topS 21
abbrev N_mode_of : List Str := ["one", "other", "item", "beside"]
theorem sc_mode_of : FnScope N_mode_of ["one", "other"] (defScope s_mode_of) := ⟨rfl, rfl, rfl, by decide +kernel, rfl, by decide +kernel, by decide +kernel⟩
abbrev s_lines_of : Stmt := topS 22
abbrev N_lines_of : List Str := ["mode", "one", "other", "item", "beside"]
theorem sc_lines_of : FnScope N_lines_of ["mode", "one", "other"] (defScope s_lines_of) := ⟨rfl, rfl, rfl, by decide +kernel, rfl, by decide +kernel, by decide +kernel⟩
abbrev s_put_on_one : Stmt := topS 23
abbrev N_put_on_one : List Str := ["ones", "others", "found", "in_force", "one", "other", "mode", "label"]
theorem sc_put_on_one : FnScope N_put_on_one ["ones", "others"] (defScope s_put_on_one) := ⟨rfl, rfl, rfl, by decide +kernel, rfl, by decide +kernel, by decide +kernel⟩
abbrev s_is_for_two : Stmt := topS 24
abbrev N_is_for_two : List Str := ["line", "item"]
theorem sc_is_for_two : FnScope N_is_for_two ["line"] (defScope s_is_for_two) := ⟨rfl, rfl, rfl, by decide +kernel, rfl, by decide +kernel, by decide +kernel⟩
abbrev s_is_right_bar : Stmt := topS 25
abbrev N_is_right_bar : List Str := ["label", "lines", "in_force", "length", "line"]
theorem sc_is_right_bar : FnScope N_is_right_bar ["label", "lines", "in_force", "length"] (defScope s_is_right_bar) := ⟨rfl, rfl, rfl, by decide +kernel, rfl, by decide +kernel, by decide +kernel⟩
abbrev s_voice_of : Stmt := topS 26
abbrev N_voice_of : List Str := ["line", "voice", "item"]
theorem sc_voice_of : FnScope N_voice_of ["line", "voice"] (defScope s_voice_of) := ⟨rfl, rfl, rfl, by decide +kernel, rfl, by decide +kernel, by decide +kernel⟩
abbrev s_two_of_line : Stmt := topS 27
abbrev N_two_of_line : List Str := ["line", "in_force", "length"]
theorem sc_two_of_line : FnScope N_two_of_line ["line", "in_force", "length"] (defScope s_two_of_line) := ⟨rfl, rfl, rfl, by decide +kernel, rfl, by decide +kernel, by decide +kernel⟩
abbrev s_two_of : Stmt := topS 28
abbrev N_two_of : List Str := ["lines", "in_force", "length"]
theorem sc_two_of : FnScope N_two_of ["lines", "in_force", "length"] (defScope s_two_of) := ⟨rfl, rfl, rfl, by decide +kernel, rfl, by decide +kernel, by decide +kernel⟩
abbrev s_parted : Stmt := topS 29
abbrev N_parted : List Str := ["bars", "lengths", "found", "in_force", "label", "lines", "length"]
theorem sc_parted : FnScope N_parted ["bars", "lengths"] (defScope s_parted) := ⟨rfl, rfl, rfl, by decide +kernel, rfl, by decide +kernel, by decide +kernel⟩
abbrev s_Score___init__ : Stmt := inClass (topS 35) 0
abbrev N_Score___init__ : List Str := ["self", "lengths", "breaks"]
theorem sc_Score___init__ : FnScope N_Score___init__ ["self", "lengths", "breaks"] (defScope s_Score___init__) := ⟨rfl, rfl, rfl, by decide +kernel, rfl, by decide +kernel, by decide +kernel⟩
abbrev s_Score_many : Stmt := inClass (topS 35) 1
abbrev N_Score_many : List Str := ["self"]
theorem sc_Score_many : FnScope N_Score_many ["self"] (defScope s_Score_many) := ⟨rfl, rfl, rfl, by decide +kernel, rfl, by decide +kernel, by decide +kernel⟩
abbrev s_Score_are_bars : Stmt := inClass (topS 35) 2
abbrev N_Score_are_bars : List Str := ["self", "bars", "bar", "length"]
theorem sc_Score_are_bars : FnScope N_Score_are_bars ["self", "bars"] (defScope s_Score_are_bars) := ⟨rfl, rfl, rfl, by decide +kernel, rfl, by decide +kernel, by decide +kernel⟩
abbrev s_Score_add : Stmt := inClass (topS 35) 3
abbrev N_Score_add : List Str := ["self", "bars", "bar", "length"]
theorem sc_Score_add : FnScope N_Score_add ["self", "bars"] (defScope s_Score_add) := ⟨rfl, rfl, rfl, by decide +kernel, rfl, by decide +kernel, by decide +kernel⟩
abbrev s_Score_bars_at : Stmt := inClass (topS 35) 4
abbrev N_Score_bars_at : List Str := ["self", "part", "at", "k"]
theorem sc_Score_bars_at : FnScope N_Score_bars_at ["self", "part", "at"] (defScope s_Score_bars_at) := ⟨rfl, rfl, rfl, by decide +kernel, rfl, by decide +kernel, by decide +kernel⟩
abbrev s_Score_do_rest : Stmt := inClass (topS 35) 5
abbrev N_Score_do_rest : List Str := ["self", "part", "at", "bar"]
theorem sc_Score_do_rest : FnScope N_Score_do_rest ["self", "part", "at"] (defScope s_Score_do_rest) := ⟨rfl, rfl, rfl, by decide +kernel, rfl, by decide +kernel, by decide +kernel⟩
abbrev s_Score_rest_end : Stmt := inClass (topS 35) 6
abbrev N_Score_rest_end : List Str := ["self", "part", "at", "end"]
theorem sc_Score_rest_end : FnScope N_Score_rest_end ["self", "part", "at"] (defScope s_Score_rest_end) := ⟨rfl, rfl, rfl, by decide +kernel, rfl, by decide +kernel, by decide +kernel⟩
abbrev s_Score_cue_staff : Stmt := inClass (topS 35) 7
abbrev N_Score_cue_staff : List Str := ["self", "part", "at", "some", "k"]
theorem sc_Score_cue_staff : FnScope N_Score_cue_staff ["self", "part", "at"] (defScope s_Score_cue_staff) := ⟨rfl, rfl, rfl, by decide +kernel, rfl, by decide +kernel, by decide +kernel⟩
abbrev s_Score_rest_pieces : Stmt := inClass (topS 35) 8
abbrev N_Score_rest_pieces : List Str := ["self", "part", "at", "end", "least", "staff", "ahead"]
theorem sc_Score_rest_pieces : FnScope N_Score_rest_pieces ["self", "part", "at", "end", "least"] (defScope s_Score_rest_pieces) := ⟨rfl, rfl, rfl, by decide +kernel, rfl, by decide +kernel, by decide +kernel⟩
abbrev s_Score_drawn : Stmt := inClass (topS 35) 9
abbrev N_Score_drawn : List Str := ["self", "part", "least", "found", "at", "end"]
theorem sc_Score_drawn : FnScope N_Score_drawn ["self", "part", "least"] (defScope s_Score_drawn) := ⟨rfl, rfl, rfl, by decide +kernel, rfl, by decide +kernel, by decide +kernel⟩
abbrev s_Score_is_rest : Stmt := inClass (topS 35) 10
abbrev N_Score_is_rest : List Str := ["self", "at", "many", "k"]
theorem sc_Score_is_rest : FnScope N_Score_is_rest ["self", "at", "many"] (defScope s_Score_is_rest) := ⟨rfl, rfl, rfl, by decide +kernel, rfl, by decide +kernel, by decide +kernel⟩
abbrev s_Score_is_full : Stmt := inClass (topS 35) 11
abbrev N_Score_is_full : List Str := ["self", "at", "m", "bars", "bar"]
theorem sc_Score_is_full : FnScope N_Score_is_full ["self", "at", "m", "bars"] (defScope s_Score_is_full) := ⟨rfl, rfl, rfl, by decide +kernel, rfl, by decide +kernel, by decide +kernel⟩
abbrev s_Score_columns_of : Stmt := inClass (topS 35) 12
abbrev N_Score_columns_of : List Str := ["self", "at", "m", "piece", "length", "bar"]
theorem sc_Score_columns_of : FnScope N_Score_columns_of ["self", "at", "m", "piece"] (defScope s_Score_columns_of) := ⟨rfl, rfl, rfl, by decide +kernel, rfl, by decide +kernel, by decide +kernel⟩
abbrev s_Score_put_back : Stmt := inClass (topS 35) 13
abbrev N_Score_put_back : List Str := ["self", "m", "pieces", "columns", "piece", "some", "k", "column"]
theorem sc_Score_put_back : FnScope N_Score_put_back ["self", "m", "pieces"] (defScope s_Score_put_back) := ⟨rfl, rfl, rfl, by decide +kernel, rfl, by decide +kernel, by decide +kernel⟩
abbrev s_is_score : Stmt := topS 45
abbrev N_is_score : List Str := ["lengths", "breaks", "length", "place"]
theorem sc_is_score : FnScope N_is_score ["lengths", "breaks"] (defScope s_is_score) := ⟨rfl, rfl, rfl, by decide +kernel, rfl, by decide +kernel, by decide +kernel⟩
abbrev s_add_staff : Stmt := topS 46
abbrev N_add_staff : List Str := ["score", "row", "bars"]
theorem sc_add_staff : FnScope N_add_staff ["score", "row"] (defScope s_add_staff) := ⟨rfl, rfl, rfl, by decide +kernel, rfl, by decide +kernel, by decide +kernel⟩
abbrev s_staff_told : Stmt := topS 47
abbrev N_staff_told : List Str := ["score", "k"]
theorem sc_staff_told : FnScope N_staff_told ["score", "k"] (defScope s_staff_told) := ⟨rfl, rfl, rfl, by decide +kernel, rfl, by decide +kernel, by decide +kernel⟩
abbrev s_piece_told : Stmt := topS 48
abbrev N_piece_told : List Str := ["piece"]
theorem sc_piece_told : FnScope N_piece_told ["piece"] (defScope s_piece_told) := ⟨rfl, rfl, rfl, by decide +kernel, rfl, by decide +kernel, by decide +kernel⟩
abbrev s_lists_told : Stmt := topS 49
abbrev N_lists_told : List Str := ["rows", "found", "row"]
theorem sc_lists_told : FnScope N_lists_told ["rows"] (defScope s_lists_told) := ⟨rfl, rfl, rfl, by decide +kernel, rfl, by decide +kernel, by decide +kernel⟩
abbrev s_draw : Stmt := topS 50
abbrev N_draw : List Str := ["score", "least", "part", "k", "piece"]
theorem sc_draw : FnScope N_draw ["score", "least", "part"] (defScope s_draw) := ⟨rfl, rfl, rfl, by decide +kernel, rfl, by decide +kernel, by decide +kernel⟩
abbrev s_read_piece : Stmt := topS 51
abbrev N_read_piece : List Str := ["reader", "sort", "staff"]
theorem sc_read_piece : FnScope N_read_piece ["reader"] (defScope s_read_piece) := ⟨rfl, rfl, rfl, by decide +kernel, rfl, by decide +kernel, by decide +kernel⟩
abbrev s_read_pieces : Stmt := topS 52
abbrev N_read_pieces : List Str := ["row", "reader", "many", "k"]
theorem sc_read_pieces : FnScope N_read_pieces ["row"] (defScope s_read_pieces) := ⟨rfl, rfl, rfl, by decide +kernel, rfl, by decide +kernel, by decide +kernel⟩
abbrev s_put_back : Stmt := topS 53
abbrev N_put_back : List Str := ["score", "m", "row", "staves", "bars"]
theorem sc_put_back : FnScope N_put_back ["score", "m", "row"] (defScope s_put_back) := ⟨rfl, rfl, rfl, by decide +kernel, rfl, by decide +kernel, by decide +kernel⟩
abbrev s_two : Stmt := topS 54
abbrev N_two : List Str := ["score", "a", "b", "bars", "label", "lines"]
theorem sc_two : FnScope N_two ["score", "a", "b"] (defScope s_two) := ⟨rfl, rfl, rfl, by decide +kernel, rfl, by decide +kernel, by decide +kernel⟩
abbrev s_read_labelled : Stmt := topS 55
abbrev N_read_labelled : List Str := ["reader", "label"]
theorem sc_read_labelled : FnScope N_read_labelled ["reader"] (defScope s_read_labelled) := ⟨rfl, rfl, rfl, by decide +kernel, rfl, by decide +kernel, by decide +kernel⟩
abbrev s_parted_told : Stmt := topS 56
abbrev N_parted_told : List Str := ["score", "row", "reader", "many", "bars", "found", "staves", "k", "pair"]
theorem sc_parted_told : FnScope N_parted_told ["score", "row"] (defScope s_parted_told) := ⟨rfl, rfl, rfl, by decide +kernel, rfl, by decide +kernel, by decide +kernel⟩
abbrev s_answer : Stmt := topS 57
abbrev N_answer : List Str := ["score", "call", "some", "rows"]
theorem sc_answer : FnScope N_answer ["score", "call", "some", "rows"] (defScope s_answer) := ⟨rfl, rfl, rfl, by decide +kernel, rfl, by decide +kernel, by decide +kernel⟩
abbrev s_begun : Stmt := topS 58
abbrev N_begun : List Str := ["score", "lengths", "breaks"]
theorem sc_begun : FnScope N_begun ["score", "lengths", "breaks"] (defScope s_begun) := ⟨rfl, rfl, rfl, by decide +kernel, rfl, by decide +kernel, by decide +kernel⟩
abbrev s_rows_at : Stmt := topS 59
abbrev N_rows_at : List Str := ["calls", "at", "many", "rows", "k", "behind"]
theorem sc_rows_at : FnScope N_rows_at ["calls", "at", "many"] (defScope s_rows_at) := ⟨rfl, rfl, rfl, by decide +kernel, rfl, by decide +kernel, by decide +kernel⟩
abbrev s_answers : Stmt := topS 60
abbrev N_answers : List Str := ["calls", "found", "score", "at", "call", "begin", "end", "rows", "answered"]
theorem sc_answers : FnScope N_answers ["calls"] (defScope s_answers) := ⟨rfl, rfl, rfl, by decide +kernel, rfl, by decide +kernel, by decide +kernel⟩

/-! ### what the top has written -/
def Cn (mg : Str → Option Value) (x : Str) (n : Int) : Prop := ∃ t, mg x = some (.int n t)
theorem pe_cn {X : Cx} {x : Str} {n : Int} {pos : Pos} (h : Cn X.mg x n) (hg : Gl X x := by rfl) (hd : (x == ("__debug__" : Str)) = false := by decide) : PE X (.Name x pos) (tC (.int n)) := by
  obtain ⟨t, h⟩ := h
  exact pe_glob hg h ⟨t, rfl⟩ hd
/-- a constant tuple of whole numbers -/
def Ct (K : PySem.W.Frag) (mg : Str → Option Value) (x : Str) (ns : List Int) : Prop := ∃ a : Addr, mg x = some (.ref a) ∧ ∀ H : Hp, SqT K H a (ns.map V.int)
structure Tx (K : PySem.W.Frag) (mg : Str → Option Value) (CR CS : Addr) : Prop where
  len : mg "len" = none
  all : mg "all" = none
  any : mg "any" = none
  sum : mg "sum" = none
  range : mg "range" = none
  tuple : mg "tuple" = none
  list : mg "list" = none
  zip : mg "zip" = none
  set : mg "set" = none
  int : mg "int" = none
  c_MOST_ITEMS : Cn mg "MOST_ITEMS" 20
  c_MOST_KEYS : Cn mg "MOST_KEYS" 6
  c_MOST_KEY : Cn mg "MOST_KEY" 127
  c_BOTH_REST : Cn mg "BOTH_REST" 0
  c_FIRST_ALONE : Cn mg "FIRST_ALONE" 1
  c_SECOND_ALONE : Cn mg "SECOND_ALONE" 2
  c_SAME : Cn mg "SAME" 3
  c_CHORDS : Cn mg "CHORDS" 4
  c_APART : Cn mg "APART" 5
  c_REST : Cn mg "REST" 0
  c_BAR : Cn mg "BAR" 1
  c_CUE : Cn mg "CUE" 2
  c_MOST_STAVES : Cn mg "MOST_STAVES" 8
  c_MOST_BARS : Cn mg "MOST_BARS" 40
  c_MOST_LENGTH : Cn mg "MOST_LENGTH" 64
  c_MOST_BREAKS : Cn mg "MOST_BREAKS" 40
  c_BAD : Cn mg "BAD" (-1)
  c_NO_STAFF : Cn mg "NO_STAFF" (-2)
  c_FULL : Cn mg "FULL" (-5)
  t_numbers : Ct K mg "MANY_NUMBERS" [0, 0, 1, 1, 1, 2, 0]
  t_rows : Ct K mg "MANY_ROWS" [2, 1, 0, 1, 1, 0, 1]
  g_reader : mg "Reader" = some (.ref CR)
  g_score : mg "Score" = some (.ref CS)
  cl_reader : Cls K CR
  cl_score : Cls K CS
  n_row : NoAttr K CR "row"
  n_at : NoAttr K CR "at"
  n_lengths : NoAttr K CS "lengths"
  n_breaks : NoAttr K CS "breaks"
  n_staves : NoAttr K CS "staves"
def Dfn (P : Program) (w : World) (K : PySem.W.Frag) (mg : Str → Option Value) (base : Heap) (x : Str) (k : Nat) (ps : List Str) (sp : Sp) : Prop :=
  ∃ (f : Addr) (fd : FuncData), mg x = some (.ref f) ∧ PySem.W.keepIn K (.ref f) = true ∧ Binds K fd ps [] ∧ FnOk P w K mg base CX0 k f fd ps sp
def Mtd (P : Program) (w : World) (K : PySem.W.Frag) (mg : Str → Option Value) (base : Heap) (C : Addr) (m : Str) (k : Nat) (ps : List Str) (sp : Sp) : Prop :=
  ∃ (f : Addr) (fd : FuncData), Meth K C m f ∧ Binds K fd ps [] ∧ FnOk P w K mg base CX0 k f fd ps sp
def Mki (P : Program) (w : World) (K : PySem.W.Frag) (mg : Str → Option Value) (base : Heap) (C : Addr) (k : Nat) (ps : List Str) (sp : Sp) : Prop :=
  ∃ (f : Addr) (fd : FuncData), Mk K C f ∧ Binds K fd ps [] ∧ FnOk P w K mg base CX0 k f fd ps sp
def FunAt (K : PySem.W.Frag) (mg : Str → Option Value) (x : Str) (st : Stmt) (ps : List Str) : Prop := ∃ (f : Addr) (fd : FuncData), mg x = some (.ref f) ∧ Fun K x x st f fd ∧ Binds K fd ps []
def FunM (K : PySem.W.Frag) (C : Addr) (m qual : Str) (st : Stmt) (ps : List Str) : Prop := ∃ (f : Addr) (fd : FuncData), Meth K C m f ∧ Fun K m qual st f fd ∧ Binds K fd ps []
def FunI (K : PySem.W.Frag) (C : Addr) (qual : Str) (st : Stmt) (ps : List Str) : Prop := ∃ (f : Addr) (fd : FuncData), Mk K C f ∧ Fun K "__init__" qual st f fd ∧ Binds K fd ps []

/-! ### data -/
def rKeys (ks : List Nat) : Rl := rT (ks.map fun n => rN n)
def rItem (x : Sw71.Item) : Rl := rT [rN x.long, rKeys x.keys]
def rBar (b : Sw71.Bar) : Rl := rT (b.map rItem)
def rBars (l : List Sw71.Bar) : Rl := rL (l.map rBar)
def rNs (ns : List Nat) : Rl := rL (ns.map fun n => rN n)
theorem fl_keys (ks : List Nat) : Fl (rKeys ks) := fl_T (fl_map fun _ => fl_V)
theorem fl_two {a b : Rl} (h1 : Fl a) (h2 : Fl b) : ∀ r ∈ [a, b], Fl r := by
  intro r hr
  rcases List.mem_cons.mp hr with rfl | hr
  · exact h1
  · rcases List.mem_cons.mp hr with rfl | hr
    · exact h2
    · cases hr
theorem st_two {a b : Rl} (h1 : St a) (h2 : St b) : ∀ r ∈ [a, b], St r := by
  intro r hr
  rcases List.mem_cons.mp hr with rfl | hr
  · exact h1
  · rcases List.mem_cons.mp hr with rfl | hr
    · exact h2
    · cases hr
theorem fl_item (x : Sw71.Item) : Fl (rItem x) := fl_T (fl_two fl_V (fl_keys _))
theorem fl_bar (b : Sw71.Bar) : Fl (rBar b) := fl_T (fl_map fl_item)
theorem st_bars (l : List Sw71.Bar) : St (rBars l) := st_L (st_map fun b => (fl_bar b).st)
theorem st_ns (ns : List Nat) : St (rNs ns) := st_L (st_map fun _ => st_V)
theorem mo_two {a b : Rl} (h1 : Mo a) (h2 : Mo b) : ∀ r ∈ [a, b], Mo r := by
  intro r hr
  rcases List.mem_cons.mp hr with rfl | hr
  · exact h1
  · rcases List.mem_cons.mp hr with rfl | hr
    · exact h2
    · cases hr
theorem mo_map {α : Type} {f : α → Rl} {l : List α} (h : ∀ x, Mo (f x)) : ∀ r ∈ l.map f, Mo r := by
  intro r hr
  obtain ⟨x, _, rfl⟩ := List.mem_map.mp hr
  exact h x
def Cap (b : Sw71.Bar) : Prop := b.length ≤ 60 ∧ ∀ x ∈ b, x.keys.length ≤ 120
def CapL (l : List Sw71.Bar) : Prop := l.length ≤ 60 ∧ ∀ b ∈ l, Cap b

/-! ### comprehensions over data -/
section
variable {K : PySem.W.Frag} {σ : L2.St} {H : Hp} {tl te : TE} {vs : List Nat} {α : Type}
theorem lcT {j : Nat} (l : List α) (fq fr : α → Rl) (hl : EvX tl σ H (rT (l.map fq))) (hm : ∀ a, Mo (fq a)) (hz : l.length ≤ 100000) (hst : ∀ a, St (fr a)) (hw : ∀ x, wipe ((wipe σ vs).set j (some x)) vs = wipe σ vs)
    (hs : ∀ a x H1, a ∈ l → Ex H H1 → fq a Any H1 x → EvR te ((wipe σ vs).set j (some x)) H1 (fr a)) : EvR (tLc (iTup K tl) (gName j) tYes te vs) σ H (rL (l.map fr)) := by
  refine evr_lcT hl (mo_map hm) (by simp) (by simpa using hz) (st_map hst) fun i q r x H1 hq hr e hx => ?_
  rw [List.getElem?_map] at hq hr
  cases ea : l[i]? with
  | none => rw [ea] at hq; cases hq
  | some a =>
    rw [ea] at hq hr
    cases hq; cases hr
    exact ⟨_, H1, fun k hk => hk, hw x, Ex.refl H1, hs a x H1 (List.mem_of_getElem? ea) e hx⟩
theorem lcL {j : Nat} (l : List α) (fq fr : α → Rl) (hl : EvX tl σ H (rL (l.map fq))) (hm : ∀ a, Mo (fq a)) (hz : l.length ≤ 100000) (hst : ∀ a, St (fr a)) (hw : ∀ x, wipe ((wipe σ vs).set j (some x)) vs = wipe σ vs)
    (hs : ∀ a x H1, a ∈ l → Ex H H1 → fq a Any H1 x → EvR te ((wipe σ vs).set j (some x)) H1 (fr a)) : EvR (tLc (iList K tl) (gName j) tYes te vs) σ H (rL (l.map fr)) := by
  refine evr_lcL hl (mo_map hm) (by simp) (by simpa using hz) (st_map hst) fun i q r x H1 hq hr e hx => ?_
  rw [List.getElem?_map] at hq hr
  cases ea : l[i]? with
  | none => rw [ea] at hq; cases hq
  | some a =>
    rw [ea] at hq hr
    cases hq; cases hr
    exact ⟨_, H1, fun k hk => hk, hw x, Ex.refl H1, hs a x H1 (List.mem_of_getElem? ea) e hx⟩
theorem lcR {j : Nat} {ta : TA} {m : Int} (n : Nat) (fr : Nat → Rl) (hl : EvXA ta σ H [rI m]) (hb : -(2 ^ 62) ≤ m ∧ m ≤ 100000) (hn : m.toNat = n) (hst : ∀ a, St (fr a)) (hw : ∀ x, wipe ((wipe σ vs).set j (some x)) vs = wipe σ vs)
    (hs : ∀ (i : Nat) H1, i < n → Ex H H1 → EvR te ((wipe σ vs).set j (some (.int (i : Int)))) H1 (fr i)) : EvR (tLc (iRng1 ta) (gName j) tYes te vs) σ H (rL ((List.range n).map fr)) := by
  refine evr_lcR hl hb (by simp [hn]) (st_map hst) fun i r H1 hr e => ?_
  rw [List.getElem?_map] at hr
  cases ea : (List.range n)[i]? with
  | none => rw [ea] at hr; cases hr
  | some a =>
    rw [ea] at hr
    cases hr
    obtain ⟨h1, h2⟩ := List.getElem?_eq_some_iff.mp ea
    rw [List.getElem_range] at h2
    subst h2
    exact ⟨_, H1, fun k hk => hk, hw _, Ex.refl H1, hs i H1 (by simpa using h1) e⟩
theorem lcR2 {j : Nat} {ta : TA} {lo hi : Int} (n : Nat) (fr : Nat → Rl) (hl : EvXA ta σ H [rI lo, rI hi]) (hb : -(2 ^ 62) ≤ lo ∧ lo < 2 ^ 62 ∧ -(2 ^ 62) ≤ hi ∧ hi < 2 ^ 62 ∧ hi - lo ≤ 100000) (hn : (hi - lo).toNat = n) (hst : ∀ a, St (fr a)) (hw : ∀ x, wipe ((wipe σ vs).set j (some x)) vs = wipe σ vs)
    (hs : ∀ (i : Nat) H1, i < n → Ex H H1 → EvR te ((wipe σ vs).set j (some (.int (lo + (i : Int))))) H1 (fr i)) : EvR (tLc (iRng2 ta) (gName j) tYes te vs) σ H (rL ((List.range n).map fr)) := by
  refine evr_lcR2 hl hb (by simp [hn]) (st_map hst) fun i r H1 hr e => ?_
  rw [List.getElem?_map] at hr
  cases ea : (List.range n)[i]? with
  | none => rw [ea] at hr; cases hr
  | some a =>
    rw [ea] at hr
    cases hr
    obtain ⟨h1, h2⟩ := List.getElem?_eq_some_iff.mp ea
    rw [List.getElem_range] at h2
    subst h2
    exact ⟨_, H1, fun k hk => hk, hw _, Ex.refl H1, hs i H1 (by simpa using h1) e⟩
variable {β : Type}
theorem zip_get {l : List α} {m : List β} {fp : α → Rl} {fq : β → Rl} {fr : α × β → Rl} {i : Nat} {p q r : Rl} (hp : (l.map fp)[i]? = some p) (hq : (m.map fq)[i]? = some q) (hr : ((l.zip m).map fr)[i]? = some r) :
    ∃ a b, (a, b) ∈ l.zip m ∧ p = fp a ∧ q = fq b ∧ r = fr (a, b) := by
  rw [List.getElem?_map] at hp hq hr
  cases ea : l[i]? with
  | none => rw [ea] at hp; cases hp
  | some a =>
    cases eb : m[i]? with
    | none => rw [eb] at hq; cases hq
    | some b =>
      have ez : (l.zip m)[i]? = some (a, b) := by rw [List.getElem?_zip_eq_some]; exact ⟨ea, eb⟩
      rw [ea] at hp; rw [eb] at hq; rw [ez] at hr
      cases hp; cases hq; cases hr
      exact ⟨a, b, List.mem_of_getElem? ez, rfl, rfl, rfl⟩
theorem lcZ {ta tb : TE} {j1 j2 : Nat} (l : List α) (m : List β) (fp : α → Rl) (fq : β → Rl) (fr : α × β → Rl) (ha : EvX ta σ H (rL (l.map fp))) (hb : EvX tb σ H (rL (m.map fq))) (hmp : ∀ a, Mo (fp a)) (hmq : ∀ a, Mo (fq a)) (hz : l.length ≤ 100000) (hst : ∀ a, St (fr a))
    (hw : ∀ x y, wipe (((wipe σ vs).set j1 (some x)).set j2 (some y)) vs = wipe σ vs)
    (hs : ∀ a b x y H1, (a, b) ∈ l.zip m → Ex H H1 → fp a Any H1 x → fq b Any H1 y → EvR te (((wipe σ vs).set j1 (some x)).set j2 (some y)) H1 (fr (a, b))) :
    EvR (tLc (iZip K (tCons ta (tCons tb tNil))) (gTup K 2 (gCons (gName j1) (gCons (gName j2) gNil))) tYes te vs) σ H (rL ((l.zip m).map fr)) := by
  refine evr_lcZ ha hb (mo_map hmp) (mo_map hmq) (by simp) (by simp; omega) (st_map hst) fun i p q r x y T H1 H2 hp hq hr e e2 hT hx hy => ?_
  obtain ⟨a, b, hab, rfl, rfl, rfl⟩ := zip_get hp hq hr
  exact ⟨_, H2, g_pair (SqT.of hT), hw x y, Ex.refl H2, hs a b x y H2 hab (e.trans e2) hx hy⟩
theorem lcZT {ta tb : TE} {j1 j2 : Nat} (l : List α) (m : List β) (fp : α → Rl) (fq : β → Rl) (fr : α × β → Rl) (ha : EvX ta σ H (rT (l.map fp))) (hb : EvX tb σ H (rT (m.map fq))) (hmp : ∀ a, Mo (fp a)) (hmq : ∀ a, Mo (fq a)) (hz : l.length ≤ 100000) (hst : ∀ a, St (fr a))
    (hw : ∀ x y, wipe (((wipe σ vs).set j1 (some x)).set j2 (some y)) vs = wipe σ vs)
    (hs : ∀ a b x y H1, (a, b) ∈ l.zip m → Ex H H1 → fp a Any H1 x → fq b Any H1 y → EvR te (((wipe σ vs).set j1 (some x)).set j2 (some y)) H1 (fr (a, b))) :
    EvR (tLc (RZ.iZipA K (tCons ta (tCons tb tNil))) (gTup K 2 (gCons (gName j1) (gCons (gName j2) gNil))) tYes te vs) σ H (rL ((l.zip m).map fr)) := by
  refine evr_lcZT ha hb (mo_map hmp) (mo_map hmq) (by simp) (by simp; omega) (st_map hst) fun i p q r x y T H1 H2 hp hq hr e e2 hT hx hy => ?_
  obtain ⟨a, b, hab, rfl, rfl, rfl⟩ := zip_get hp hq hr
  exact ⟨_, H2, g_pair (SqT.of hT), hw x y, Ex.refl H2, hs a b x y H2 hab (e.trans e2) hx hy⟩
theorem evx_allM {ta : TE} {l : List α} {f : α → Bool} (ha : EvX ta σ H (rL (l.map fun a => rB (f a)))) : EvX (tCB (rAll K) (tCons ta tNil)) σ H (rB (l.all f)) := by
  have h := evx_all (K := K) (bs := l.map f) (ha.is (by rw [List.map_map]; rfl))
  rw [List.all_map] at h
  exact h
theorem evx_anyM {ta : TE} {l : List α} {f : α → Bool} (ha : EvX ta σ H (rL (l.map fun a => rB (f a)))) : EvX (tCB (rAny K) (tCons ta tNil)) σ H (rB (l.any f)) := by
  have h := evx_any (K := K) (bs := l.map f) (ha.is (by rw [List.map_map]; rfl))
  rw [List.any_map] at h
  exact h
theorem evx_sumM {ta : TE} {l : List α} {f : α → Nat} (ha : EvX ta σ H (rL (l.map fun a => rN (f a)))) : EvX (tCB (rSum K) (tCons ta tNil)) σ H (rN (l.map f).sum) :=
  evx_sum (K := K) (ns := l.map f) (ha.is (by rw [List.map_map]; rfl))
end
section
variable {K : PySem.W.Frag} {σ : L2.St} {H : Hp} {te : TE} {D : Ends} {tz : TS} {r1 r2 : Rl}
theorem q_asgP {i j : Nat} (h : EvX te σ H (rT [r1, r2])) (k : ∀ x y H1, Ex H H1 → r1 Any H1 x → r2 Any H1 y → tz D ((σ.set i (some x)).set j (some y)) H1) :
    tSeq (tAsg te (gTup K 2 (gCons (gName i) (gCons (gName j) gNil)))) tz D σ H := h H (Ex.refl H) _ fun v H1 e hv => by
  obtain ⟨a, vs, rfl, ha, al⟩ := hv
  obtain ⟨x, _, rfl, hx, al⟩ := al.un_cons
  obtain ⟨y, _, rfl, hy, al⟩ := al.un_cons
  cases al.un_nil
  exact ⟨a, [x, y], rfl, SqT.of ha, rfl, x, [y], rfl, y, [], rfl, rfl, k x y H1 e hx hy⟩
end
end Ps

namespace Ps
open PySem PySem.Spec PyProof.Rows L2 Evl

/-! ### plain laws -/
theorem rising_range : ∀ ks : List Nat, Sw71.rising ks = (List.range (ks.length - 1)).all fun i => decide (ks.getD i 0 < ks.getD (i + 1) 0)
  | [] => rfl
  | [_] => rfl
  | a :: b :: l => by
    have ih := rising_range (b :: l)
    show (decide (a < b) && Sw71.rising (b :: l)) = _
    rw [ih]
    show _ = (List.range (l.length + 1)).all _
    rw [List.range_succ_eq_map, List.all_cons, List.all_map]
    rfl
theorem item_ok (x : Sw71.Item) : Sw71.itemOk x = (!(decide ((x.long : Int) < 1) || (decide ((6 : Int) < (x.keys.length : Nat)) || !(x.keys.all fun k => decide ((k : Int) ≤ 127)))) && ((List.range (x.keys.length - 1)).all fun i => decide ((x.keys.getD i 0 : Int) < (x.keys.getD (i + 1) 0 : Int)))) := by
  have e1 : decide ((x.long : Int) < 1) = !decide (1 ≤ x.long) := by
    rw [Bool.eq_iff_iff]; simp; omega
  have e2 : decide ((6 : Int) < (x.keys.length : Nat)) = !decide (x.keys.length ≤ 6) := by
    rw [Bool.eq_iff_iff]; simp; omega
  have e3 : (x.keys.all fun k => decide ((k : Int) ≤ 127)) = x.keys.all fun k => decide (k ≤ 127) := by
    refine congrArg _ (funext fun k => ?_)
    rw [Bool.eq_iff_iff]; simp; omega
  have e4 : ((List.range (x.keys.length - 1)).all fun i => decide ((x.keys.getD i 0 : Int) < (x.keys.getD (i + 1) 0 : Int))) = Sw71.rising x.keys := by
    rw [rising_range]
    refine congrArg _ (funext fun k => ?_)
    rw [Bool.eq_iff_iff]; simp only [decide_eq_true_eq]; omega
  rw [e1, e2, e3, e4]
  unfold Sw71.itemOk
  cases decide (1 ≤ x.long) <;> cases decide (x.keys.length ≤ 6) <;> cases (x.keys.all fun k => decide (k ≤ 127)) <;> cases Sw71.rising x.keys <;> rfl
theorem total_sum : ∀ (b : Sw71.Bar) (n : Nat), b.foldl (fun n x => n + x.long) n = n + (b.map fun x => x.long).sum
  | [], n => rfl
  | x :: b, n => by
    rw [List.foldl_cons, total_sum b, List.map_cons, List.sum_cons]
    omega
theorem total_eq (b : Sw71.Bar) : Sw71.total b = (b.map fun x => x.long).sum := by
  unfold Sw71.total
  rw [total_sum, Nat.zero_add]
theorem bar_ok (n : Nat) (b : Sw71.Bar) : Sw71.barOk n b = (!(decide ((20 : Int) < (b.length : Nat)) || !(b.all Sw71.itemOk)) && decide (V.int (((b.map fun x => x.long).sum : Nat) : Int) = V.int (n : Int))) := by
  have e1 : decide ((20 : Int) < (b.length : Nat)) = !decide (b.length ≤ 20) := by
    rw [Bool.eq_iff_iff]; simp; omega
  have e2 : decide (V.int (((b.map fun x => x.long).sum : Nat) : Int) = V.int (n : Int)) = decide (Sw71.total b = n) := by
    rw [Bool.eq_iff_iff, total_eq]
    simp only [decide_eq_true_eq, V.int.injEq]
    omega
  rw [e1, e2]
  unfold Sw71.barOk
  cases decide (Sw71.total b = n) <;> cases decide (b.length ≤ 20) <;> cases b.all Sw71.itemOk <;> rfl
def asStaff (b : Sw71.Bar) (n : Nat) : Sw71.Bar := if Sw71.rests b = true then [⟨n, []⟩] else b
theorem keys_empty (ks : List Nat) : (ks == ([] : List Nat)) = ks.isEmpty := by cases ks <;> rfl
end Ps

namespace Ps
open PySem PySem.Spec PyProof.Rows L2 Evl

/-! ### == of data -/
def Sh (n : Nat) (d : PyData) : Prop := d.canLay0 = true ∧ d.depth ≤ n
theorem canAll : ∀ {ds : List PyData} {n : Nat}, (∀ d ∈ ds, Sh n d) → PyData.canLayAll0 ds = true ∧ PyData.depthAll ds ≤ n
  | [], n, _ => ⟨rfl, Nat.zero_le _⟩
  | d :: ds, n, h => by
    obtain ⟨h1, h2⟩ := canAll (ds := ds) fun x hx => h x (List.mem_cons_of_mem _ hx)
    obtain ⟨h3, h4⟩ := h d List.mem_cons_self
    refine ⟨?_, ?_⟩
    · show (d.canLay0 && PyData.canLayAll0 ds) = true
      rw [h3, h1]; rfl
    · show max d.depth (PyData.depthAll ds) ≤ n
      omega
theorem sh_int {i : Int} {n : Nat} : Sh n (.int i) := ⟨rfl, Nat.zero_le _⟩
theorem sh_tuple {ds : List PyData} {n : Nat} (h : ∀ d ∈ ds, Sh n d) : Sh (n + 1) (.tuple ds) := by
  obtain ⟨h1, h2⟩ := canAll h
  exact ⟨h1, Nat.succ_le_succ h2⟩
theorem sh_list {ds : List PyData} {n : Nat} (h : ∀ d ∈ ds, Sh n d) : Sh (n + 1) (.list ds) := by
  obtain ⟨h1, h2⟩ := canAll h
  exact ⟨h1, Nat.succ_le_succ h2⟩
theorem sh_map {α : Type} {l : List α} {g : α → PyData} {n : Nat} (h : ∀ a, Sh n (g a)) : ∀ d ∈ l.map g, Sh n d := by
  intro d hd
  obtain ⟨a, _, rfl⟩ := List.mem_map.mp hd
  exact h a
theorem Sh.shaped {n : Nat} {d : PyData} (h : Sh n d) (hn : n ≤ 64) : SeqAt.shaped d = true := by
  unfold SeqAt.shaped
  rw [h.1, decide_eq_true (Nat.le_trans h.2 hn)]
  rfl
def dKeys (ks : List Nat) : PyData := .tuple (ks.map fun (n : Nat) => .int (n : Int))
def dItem (x : Sw71.Item) : PyData := .tuple [.int (x.long : Int), dKeys x.keys]
def dBar (b : Sw71.Bar) : PyData := .tuple (b.map dItem)
theorem sh_keys (ks : List Nat) : Sh 1 (dKeys ks) := sh_tuple (sh_map fun _ => sh_int)
theorem sh_item (x : Sw71.Item) : Sh 2 (dItem x) := sh_tuple fun d hd => by
  rcases List.mem_cons.mp hd with rfl | hd
  · exact sh_int
  · rcases List.mem_cons.mp hd with rfl | hd
    · exact sh_keys _
    · cases hd
theorem sh_bar (b : Sw71.Bar) : Sh 3 (dBar b) := sh_tuple (sh_map sh_item)
section
variable {K : PySem.W.Frag} {H : Hp} {v : V}
theorem dp_all {α : Type} {f : α → Rl} {g : α → PyData} (h : ∀ a v, f a Any H v → Dp K H v (g a)) : ∀ {l : List α} {vs : List V}, All2 (fun v (r : Rl) => r Any H v) vs (l.map f) → DpAll K H vs (l.map g)
  | [], vs, al => by
    cases al.un_nil
    exact .nil
  | a :: l, vs, al => by
    obtain ⟨x, r, rfl, hx, al⟩ := al.un_cons
    exact .cons (h a x hx) (dp_all h al)
theorem dp_int {n : Nat} {v : V} (h : rN n Any H v) : Dp K H v (.int (n : Int)) := by
  cases h
  exact .int _
theorem dp_keys {ks : List Nat} {v : V} (h : rKeys ks Any H v) : Dp K H v (dKeys ks) := by
  obtain ⟨a, vs, rfl, ha, al⟩ := h
  exact .tup (SqT.of ha) (dp_all (fun _ _ h => dp_int h) al)
theorem dp_item {x : Sw71.Item} {v : V} (h : rItem x Any H v) : Dp K H v (dItem x) := by
  obtain ⟨a, vs, rfl, ha, al⟩ := h
  obtain ⟨p, _, rfl, hp, al⟩ := al.un_cons
  obtain ⟨q, _, rfl, hq, al⟩ := al.un_cons
  cases al.un_nil
  exact .tup (SqT.of ha) (.cons (dp_int hp) (.cons (dp_keys hq) .nil))
theorem dp_bar {b : Sw71.Bar} {v : V} (h : rBar b Any H v) : Dp K H v (dBar b) := by
  obtain ⟨a, vs, rfl, ha, al⟩ := h
  exact .tup (SqT.of ha) (dp_all (fun _ _ h => dp_item h) al)
theorem dp_bars {l : List Sw71.Bar} {v : V} (h : rBars l Any H v) : Dp K H v (.list (l.map dBar)) := by
  obtain ⟨a, vs, rfl, _, ha, al⟩ := h
  exact .lst (SqL.of ha) (dp_all (fun _ _ h => dp_bar h) al)
theorem dp_ns {l : List Nat} {v : V} (h : rNs l Any H v) : Dp K H v (.list (l.map fun (n : Nat) => .int (n : Int))) := by
  obtain ⟨a, vs, rfl, _, ha, al⟩ := h
  exact .lst (SqL.of ha) (dp_all (fun _ _ h => dp_int h) al)
end
theorem eqv_map {α : Type} [DecidableEq α] {g : α → PyData} (h : ∀ a b, PyData.eqv (g a) (g b) = decide (a = b)) : ∀ l m : List α, PyData.eqvAll (l.map g) (m.map g) = decide (l = m)
  | [], [] => rfl
  | [], _ :: _ => rfl
  | _ :: _, [] => rfl
  | a :: l, b :: m => by
    show (PyData.eqv (g a) (g b) && PyData.eqvAll (l.map g) (m.map g)) = _
    rw [h, eqv_map h l m, Bool.eq_iff_iff]
    simp
theorem eqv_int (a b : Nat) : PyData.eqv (.int (a : Int)) (.int (b : Int)) = decide (a = b) := by
  show ((a : Int) == (b : Int)) = _
  rw [Bool.eq_iff_iff]
  simp
  omega
theorem eqv_keys (a b : List Nat) : PyData.eqv (dKeys a) (dKeys b) = decide (a = b) := eqv_map eqv_int a b
theorem eqv_item (a b : Sw71.Item) : PyData.eqv (dItem a) (dItem b) = decide (a = b) := by
  show (PyData.eqv (.int (a.long : Int)) (.int (b.long : Int)) && (PyData.eqv (dKeys a.keys) (dKeys b.keys) && true)) = _
  rw [eqv_int, eqv_keys, Bool.eq_iff_iff]
  cases a; cases b
  simp
theorem eqv_bar (a b : Sw71.Bar) : PyData.eqv (dBar a) (dBar b) = decide (a = b) := eqv_map eqv_item a b
section
variable {K : PySem.W.Frag} {σ : L2.St} {H : Hp} {ta tb te : TE} {ra rb : Rl} {d e : PyData}
theorem evx_eqD (ha : EvX ta σ H ra) (hb : EvX tb σ H rb) (m : Mo ra) (da : ∀ H v, ra Any H v → Dp K H v d) (db : ∀ H v, rb Any H v → Dp K H v e) {n1 n2 : Nat} (s1 : Sh n1 d) (s2 : Sh n2 e) (l1 : n1 ≤ 64 := by decide) (l2 : n2 ≤ 64 := by decide) :
    EvX (tOp (rEqD K) ta tb) σ H (rB (PyData.eqv d e)) := fun H1 e1 Q q =>
  ha H1 e1 _ fun x H2 e2 hx => hb H2 (e1.trans e2) _ fun y H3 e3 hy => ⟨_, _, da H3 x (m H2 H3 x e3 hx), db H3 y hy, s1.shaped l1, s2.shaped l2, q _ H3 (e2.trans e3) rfl⟩
theorem evx_eqK {a b : List Nat} (ha : EvX ta σ H (rKeys a)) (hb : EvX tb σ H (rKeys b)) : EvX (tOp (rEqD K) ta tb) σ H (rB (decide (a = b))) :=
  (evx_eqD ha hb (fl_keys a).mo (fun _ _ h => dp_keys h) (fun _ _ h => dp_keys h) (sh_keys a) (sh_keys b)).is (by rw [eqv_keys])
theorem evx_eqBar {a b : Sw71.Bar} (ha : EvX ta σ H (rBar a)) (hb : EvX tb σ H (rBar b)) : EvX (tOp (rEqD K) ta tb) σ H (rB (decide (a = b))) :=
  (evx_eqD ha hb (fl_bar a).mo (fun _ _ h => dp_bar h) (fun _ _ h => dp_bar h) (sh_bar a) (sh_bar b)).is (by rw [eqv_bar])
theorem evx_nil : EvR (tTup tNil) σ H (rKeys []) := evr_tup ra_nil (fun _ h => by cases h)
theorem evr_nilL : EvR (tLst tNil) σ H (rL []) := evr_lst ra_nil (fun _ h => by cases h)
theorem eqv_nilL {ds : List PyData} : PyData.eqv (.list ds) (.list []) = ds.isEmpty := by
  cases ds <;> rfl
end

theorem len_P {α : Type} {ar : α → List Rl} {pre : α → Prop} {out : α → Rl} {vs : List V} {H : Hp} {Q : VK} {E : XK} {n : Nat} (hn : ∀ x, (ar x).length = n) (h : spP ar pre out vs H Q E) : vs.length = n := by
  obtain ⟨x, al, _⟩ := h
  exact al.1.trans (hn x)
def sp_is_item : Sp := spP (fun x => [rItem x]) (fun x => x.keys.length ≤ 120) (fun x => rB (Sw71.itemOk x))
theorem len_is_item {vs H Q E} (h : sp_is_item vs H Q E) : vs.length = 1 := len_P (fun _ => rfl) h
theorem getD_of {l : List Nat} {i : Nat} (h : i < l.length) : (l.map fun n => rN n)[i]? = some (rN (l.getD i 0)) := by
  rw [List.getElem?_map, List.getElem?_eq_getElem h, List.getD_eq_getElem?_getD, List.getElem?_eq_getElem h]
  rfl
theorem ok_is_item {P : Program} {w : World} {K : PySem.W.Frag} {mg : Str → Option Value} {base : Heap} {CR CS : Addr} (T : Tx K mg CR CS) (A : FunAt K mg "is_item" s_is_item ["item"]) : Dfn P w K mg base "is_item" 1 ["item"] (sp_is_item) := by
  obtain ⟨f, fd, g, F, b⟩ := A
  refine ⟨f, fd, g, F.kp, b, F.ok sc_is_item (fun vs H Q E h => len_is_item h) (fun cdv A outer s H vs Q E hr h => ?_)⟩
  obtain ⟨x, al, hp, k⟩ := h
  obtain ⟨v0, _, rfl, h0, al⟩ := al.un_cons
  cases al.un_nil
  refine ⟨_, (pss_cons (ps_asg (pv 0) (pg_tup rfl (pgs_cons (pg_name (i := 1) sc_is_item.nd rfl (Or.inl rfl)) (pgs_cons (pg_name (i := 2) sc_is_item.nd rfl (Or.inr rfl)) pgs_nil))))
      (pss_cons (ps_if (PW.pt (pw_or (pt_cmpR op_lt (pv 1) pe_int (nomark _)) (pw_or (pt_cmpR op_gt (pe_callB (lenS K) (by rfl) T.len PySem.boot_len (pa_cons (pv 2) pa_nil)) (pe_cn T.c_MOST_KEYS) (nomark _)) (pw_or1 (pt_not (pt_val (pe_callB (allS K rfl) (by rfl) T.all (by decide +kernel) (pa_cons (pe_lc (own := [("pitch", 3)]) (g := gName 3) (tt := tYes) rfl sc_is_item.nd (piT K (pv 2)) (blkOk_by (own := [("pitch", 3)]) (N := N_is_item) (sc := defScope s_is_item) (by decide +kernel)) (fun _ _ _ _ _ => (pg_name (i := 3) sc_is_item.nd rfl (Or.inl rfl))) (fun _ _ _ _ _ => pts_nil) (fun _ _ _ _ _ => (pe_cmpR op_le (pv 3) (pe_cn T.c_MOST_KEY) (nomark _)))) pa_nil)))))))) (pss_one (ps_ret pe_bl)) pss_nil)
      (pss_one (ps_ret (pe_callB (allS K rfl) (by rfl) T.all (by decide +kernel) (pa_cons (pe_lc (own := [("k", 4)]) (g := gName 4) (tt := tYes) rfl sc_is_item.nd (pi_range1 (by rfl) T.range (pa_cons (pe_op op_sub (pe_callB (lenS K) (by rfl) T.len PySem.boot_len (pa_cons (pv 2) pa_nil)) pe_int) pa_nil)) (blkOk_by (own := [("k", 4)]) (N := N_is_item) (sc := defScope s_is_item) (by decide +kernel)) (fun _ _ _ _ _ => (pg_name (i := 4) sc_is_item.nd rfl (Or.inl rfl))) (fun _ _ _ _ _ => pts_nil) (fun _ _ _ _ _ => (pe_cmpR op_lt (pe_ix (ixT K) (pv 2) (pv 4) (fun _ _ => rfl)) (pe_ix (ixT K) (pv 2) (pe_op op_add (pv 4) pe_int) (fun _ _ => rfl)) (nomark _)))) pa_nil)))))), ?_⟩
  refine q_asgP (evx_var rfl (fl_item x).mo h0) fun a b H1 e1 ha hb => ?_
  have mk := (fl_keys x.keys).mo
  refine q_when (b := decide ((x.long : Int) < 1) || (decide ((6 : Int) < (x.keys.length : Nat)) || !(x.keys.all fun k => decide ((k : Int) ≤ 127))))
    (et_or (ett (evx_I0 (evx_var rfl st_V.mo ha) evx_c)) fun _ => et_or (ett ((evx_I0 (evx_lenT (evx_var rfl mk hb)) evx_c).is (by rw [List.length_map]))) fun _ => et_not (etb (evx_allM (EvR.tx (lcT x.keys (fun n => rN n) (fun n => rB (decide ((n : Int) ≤ 127))) (evx_var rfl mk hb) (fun _ => st_V.mo) (by omega) (fun _ => st_V) (fun _ => rfl)
      fun n v H2 hn e hv => (evx_I0 (evx_var rfl st_V.mo hv) evx_c).trV) (st_L (st_map fun _ => st_V)))))) ?_ ?_
  · intro hb H2 e
    refine s_retR evr_c fun v H3 e3 hv => k v H3 (e1.trans (e.trans e3)) ?_
    show v = .bl (Sw71.itemOk x)
    rw [item_ok, hb]
    exact hv
  · intro hb' H2 e
    have hb2 := mk _ _ b e hb
    refine s_retX (evx_allM (EvR.tx (lcR (x.keys.length - 1) (fun i => rB (decide ((x.keys.getD i 0 : Int) < (x.keys.getD (i + 1) 0 : Int)))) (m := (x.keys.length : Int) - 1)
      (xa_cons ((evx_I0 (evx_lenT (evx_var rfl mk hb2)) evx_c).is (by rw [List.length_map])) st_V.mo xa_nil) (by omega) (by omega) (fun _ => st_V) (fun _ => rfl)
      fun i H3 hi e3 => ?_) (st_L (st_map fun _ => st_V)))) fun v H3 e3 hv => k v H3 (e1.trans (e.trans e3)) ?_
    · have hb3 := mk _ _ b e3 hb2
      exact (evx_I0 (evx_ixT (j := i) (r := rN (x.keys.getD i 0)) (evx_var rfl mk hb3) (evv_var rfl) rfl (getD_of (by omega)) (mo_map fun _ => st_V.mo))
        (evx_ixT (j := i + 1) (r := rN (x.keys.getD (i + 1) 0)) (evx_var rfl mk hb3) (evx_I0 (evv_var rfl) evx_c) (by simp) (getD_of (by omega)) (mo_map fun _ => st_V.mo))).trV
    · show v = .bl (Sw71.itemOk x)
      rw [item_ok, hb']
      exact hv
def sp_is_bar : Sp := spP (fun x : Sw71.Bar × Nat => [rBar x.1, rN x.2]) (fun x => Cap x.1) (fun x => rB (Sw71.barOk x.2 x.1))
theorem len_is_bar {vs H Q E} (h : sp_is_bar vs H Q E) : vs.length = 2 := len_P (fun _ => rfl) h
theorem ok_is_bar {P : Program} {w : World} {K : PySem.W.Frag} {mg : Str → Option Value} {base : Heap} {CR CS : Addr} (T : Tx K mg CR CS) (A : FunAt K mg "is_bar" s_is_bar ["bar", "length"]) (D_is_item : Dfn P w K mg base "is_item" 1 ["item"] (sp_is_item)) : Dfn P w K mg base "is_bar" 2 ["bar", "length"] (sp_is_bar) := by
  obtain ⟨f, fd, g, F, b⟩ := A
  obtain ⟨f_is_item, fd_is_item, g_is_item, k_is_item, b_is_item, F_is_item⟩ := D_is_item
  refine ⟨f, fd, g, F.kp, b, F.ok sc_is_bar (fun vs H Q E h => len_is_bar h) (fun cdv A outer s H vs Q E hr h => ?_)⟩
  obtain ⟨⟨x, n⟩, al, hp, k⟩ := h
  obtain ⟨v0, _, rfl, h0, al⟩ := al.un_cons
  obtain ⟨v1, _, rfl, h1, al⟩ := al.un_cons
  cases al.un_nil
  refine ⟨_, (pss_cons (ps_if (PW.pt (pw_or (pt_cmpR op_gt (pe_callB (lenS K) (by rfl) T.len PySem.boot_len (pa_cons (pv 0) pa_nil)) (pe_cn T.c_MOST_ITEMS) (nomark _)) (pw_or1 (pt_not (pt_val (pe_callB (allS K rfl) (by rfl) T.all (by decide +kernel) (pa_cons (pe_lc (own := [("item", 2)]) (g := gName 2) (tt := tYes) rfl sc_is_bar.nd (piT K (pv 0)) (blkOk_by (own := [("item", 2)]) (N := N_is_bar) (sc := defScope s_is_bar) (by decide +kernel)) (fun _ _ _ _ _ => (pg_name (i := 2) sc_is_bar.nd rfl (Or.inl rfl))) (fun _ _ _ _ _ => pts_nil) (fun _ _ _ _ _ => (pe_call F_is_item (hr.mono (by decide)) (by rfl) g_is_item k_is_item b_is_item .nil pass0 (pa_cons (pv 2) pa_nil)))) pa_nil))))))) (pss_one (ps_ret pe_bl)) pss_nil)
      (pss_one (ps_ret (pe_cmpR op_eq (pe_callB (sumS K rfl) (by rfl) T.sum (by decide +kernel) (pa_cons (pe_lc (own := [("item", 2)]) (g := gName 2) (tt := tYes) rfl sc_is_bar.nd (piT K (pv 0)) (blkOk_by (own := [("item", 2)]) (N := N_is_bar) (sc := defScope s_is_bar) (by decide +kernel)) (fun _ _ _ _ _ => (pg_name (i := 2) sc_is_bar.nd rfl (Or.inl rfl))) (fun _ _ _ _ _ => pts_nil) (fun _ _ _ _ _ => (pe_ix (ixT K) (pv 2) pe_int (fun _ _ => rfl)))) pa_nil)) (pv 1) (nomark _))))), ?_⟩
  have mk := (fl_bar x).mo
  have hc : x.length ≤ 60 := hp.1
  refine q_when (b := decide ((20 : Int) < (x.length : Nat)) || !(x.all Sw71.itemOk))
    (et_or (ett ((evx_I0 (evx_lenT (evx_var rfl mk h0)) evx_c).is (by rw [List.length_map]))) fun _ => et_not (etb (evx_allM (EvR.tx (lcT x rItem (fun n => rB (Sw71.itemOk n)) (evx_var rfl mk h0) (fun a => (fl_item a).mo) (by omega) (fun _ => st_V) (fun _ => rfl)
      fun a v H2 hn e hv => evr_call a (hp.2 a hn) st_V (xa_cons (evx_var rfl (fl_item a).mo hv) (fl_item a).mo xa_nil)) (st_L (st_map fun _ => st_V)))))) ?_ ?_
  · intro hb H2 e
    refine s_retR evr_c fun v H3 e3 hv => k v H3 (e.trans e3) ?_
    show v = .bl (Sw71.barOk n x)
    rw [bar_ok, hb]
    exact hv
  · intro hb H2 e
    refine s_retX (evx_eq (evx_sumM (EvR.tx (lcT x rItem (fun a => rN a.long) (evx_var rfl mk (mk _ _ v0 e h0)) (fun a => (fl_item a).mo) (by omega) (fun _ => st_V) (fun _ => rfl)
      fun a v H2 hn e hv => (evx_ixT (j := 0) (evx_var rfl (fl_item a).mo hv) evx_c rfl rfl (mo_two st_V.mo (fl_keys _).mo)).trV) (st_L (st_map fun _ => st_V)))) (evx_var rfl st_V.mo h1) rfl) fun v H3 e3 hv => k v H3 (e.trans e3) ?_
    show v = .bl (Sw71.barOk n x)
    rw [bar_ok, hb]
    exact hv
def sp_does_rest : Sp := spP (fun x => [rBar x]) (fun x => x.length ≤ 60) (fun x => rB (Sw71.rests x))
theorem len_does_rest {vs H Q E} (h : sp_does_rest vs H Q E) : vs.length = 1 := len_P (fun _ => rfl) h
theorem ok_does_rest {P : Program} {w : World} {K : PySem.W.Frag} {mg : Str → Option Value} {base : Heap} {CR CS : Addr} (T : Tx K mg CR CS) (A : FunAt K mg "does_rest" s_does_rest ["bar"]) : Dfn P w K mg base "does_rest" 1 ["bar"] (sp_does_rest) := by
  obtain ⟨f, fd, g, F, b⟩ := A
  refine ⟨f, fd, g, F.kp, b, F.ok sc_does_rest (fun vs H Q E h => len_does_rest h) (fun cdv A outer s H vs Q E hr h => ?_)⟩
  obtain ⟨x, al, hp, k⟩ := h
  obtain ⟨v0, _, rfl, h0, al⟩ := al.un_cons
  cases al.un_nil
  refine ⟨_, (pss_one (ps_ret (pe_callB (allS K rfl) (by rfl) T.all (by decide +kernel) (pa_cons (pe_lc (own := [("item", 1)]) (g := gName 1) (tt := tYes) rfl sc_does_rest.nd (piT K (pv 0)) (blkOk_by (own := [("item", 1)]) (N := N_does_rest) (sc := defScope s_does_rest) (by decide +kernel)) (fun _ _ _ _ _ => (pg_name (i := 1) sc_does_rest.nd rfl (Or.inl rfl))) (fun _ _ _ _ _ => pts_nil) (fun _ _ _ _ _ => (pe_cmpR (eqD K hr.units) (pe_ix (ixT K) (pv 1) pe_int (fun _ _ => rfl)) (pe_tup pa_nil) (nomark _)))) pa_nil)))), ?_⟩
  have mk := (fl_bar x).mo
  refine s_retX (evx_allM (EvR.tx (lcT x rItem (fun n => rB (decide (n.keys = []))) (evx_var rfl mk h0) (fun a => (fl_item a).mo) (by omega) (fun _ => st_V) (fun _ => rfl)
      fun a v H2 hn e hv => (evx_eqK (evx_ixT (j := 1) (r := rKeys a.keys) (evx_var rfl (fl_item a).mo hv) evx_c rfl rfl (mo_two st_V.mo (fl_keys _).mo)) (evx_nil.tx (fl_keys []).st)).trV) (st_L (st_map fun _ => st_V)))) fun v H3 e3 hv => k v H3 e3 ?_
  show v = .bl (Sw71.rests x)
  have e : Sw71.rests x = x.all fun n => decide (n.keys = []) := by
    unfold Sw71.rests
    refine congrArg _ (funext fun y => ?_)
    cases y.keys <;> rfl
  rw [e]
  exact hv
def sp_rest_of : Sp := spP (fun n => [rN n]) (fun _ => True) (fun n => rBar [⟨n, []⟩])
theorem len_rest_of {vs H Q E} (h : sp_rest_of vs H Q E) : vs.length = 1 := len_P (fun _ => rfl) h
theorem ok_rest_of {P : Program} {w : World} {K : PySem.W.Frag} {mg : Str → Option Value} {base : Heap} {CR CS : Addr} (T : Tx K mg CR CS) (A : FunAt K mg "rest_of" s_rest_of ["length"]) : Dfn P w K mg base "rest_of" 1 ["length"] (sp_rest_of) := by
  obtain ⟨f, fd, g, F, b⟩ := A
  refine ⟨f, fd, g, F.kp, b, F.ok sc_rest_of (fun vs H Q E h => len_rest_of h) (fun cdv A outer s H vs Q E hr h => ?_)⟩
  obtain ⟨x, al, hp, k⟩ := h
  obtain ⟨v0, _, rfl, h0, al⟩ := al.un_cons
  cases al.un_nil
  refine ⟨_, (pss_one (ps_ret (pe_tup (pa_cons (pe_tup (pa_cons (pv 0) (pa_cons (pe_tup pa_nil) pa_nil))) pa_nil)))), ?_⟩
  have s1 : ∀ r ∈ [rItem ⟨x, []⟩], St r := fun r hr => by
    rcases List.mem_cons.mp hr with rfl | hr
    · exact (fl_item _).st
    · cases hr
  exact s_retR (r := rBar [⟨x, []⟩]) (evr_tup (ra_cons (evr_tup (ra_cons (evx_var rfl st_V.mo h0).trV st_V (ra_cons evx_nil (fl_keys []).st ra_nil (fun _ h => by cases h)) (fun r hr => by
    rcases List.mem_cons.mp hr with rfl | hr
    · exact (fl_keys _).st
    · cases hr)) (st_two st_V (fl_keys _).st)) (fl_item ⟨x, []⟩).st ra_nil (fun _ h => by cases h)) s1) fun v H3 e3 hv => k v H3 e3 hv
def sp_as_staff_has : Sp := spP (fun x : Sw71.Bar × Nat => [rBar x.1, rN x.2]) (fun x => x.1.length ≤ 60) (fun x => rBar (asStaff x.1 x.2))
theorem len_as_staff_has {vs H Q E} (h : sp_as_staff_has vs H Q E) : vs.length = 2 := len_P (fun _ => rfl) h
theorem ok_as_staff_has {P : Program} {w : World} {K : PySem.W.Frag} {mg : Str → Option Value} {base : Heap} {CR CS : Addr} (T : Tx K mg CR CS) (A : FunAt K mg "as_staff_has" s_as_staff_has ["bar", "length"]) (D_does_rest : Dfn P w K mg base "does_rest" 1 ["bar"] (sp_does_rest)) (D_rest_of : Dfn P w K mg base "rest_of" 1 ["length"] (sp_rest_of)) : Dfn P w K mg base "as_staff_has" 2 ["bar", "length"] (sp_as_staff_has) := by
  obtain ⟨f, fd, g, F, b⟩ := A
  obtain ⟨f_does_rest, fd_does_rest, g_does_rest, k_does_rest, b_does_rest, F_does_rest⟩ := D_does_rest
  obtain ⟨f_rest_of, fd_rest_of, g_rest_of, k_rest_of, b_rest_of, F_rest_of⟩ := D_rest_of
  refine ⟨f, fd, g, F.kp, b, F.ok sc_as_staff_has (fun vs H Q E h => len_as_staff_has h) (fun cdv A outer s H vs Q E hr h => ?_)⟩
  obtain ⟨⟨x, n⟩, al, hp, k⟩ := h
  obtain ⟨v0, _, rfl, h0, al⟩ := al.un_cons
  obtain ⟨v1, _, rfl, h1, al⟩ := al.un_cons
  cases al.un_nil
  refine ⟨_, (pss_cons (ps_if (pt_val (pe_call F_does_rest (hr.mono (by decide)) (by rfl) g_does_rest k_does_rest b_does_rest .nil pass0 (pa_cons (pv 0) pa_nil))) (pss_one (ps_ret (pe_call F_rest_of (hr.mono (by decide)) (by rfl) g_rest_of k_rest_of b_rest_of .nil pass0 (pa_cons (pv 1) pa_nil)))) pss_nil)
      (pss_one (ps_ret (pv 0)))), ?_⟩
  have mk := (fl_bar x).mo
  refine q_when (etb (EvR.txV (evr_call x hp st_V (xa_cons (evx_var rfl mk h0) mk xa_nil)))) ?_ ?_
  · intro hb H2 e
    refine s_retR (evr_call n trivial (fl_bar _).st (xa_cons (evx_var rfl st_V.mo h1) st_V.mo xa_nil)) fun v H3 e3 hv => k v H3 (e.trans e3) ?_
    show rBar (asStaff x n) _ _ _
    rw [asStaff, if_pos hb]
    exact (fl_bar _).any hv
  · intro hb H2 e
    refine s_retX (evx_var rfl mk (mk _ _ v0 e h0)) fun v H3 e3 hv => k v H3 (e.trans e3) ?_
    show rBar (asStaff x n) _ _ _
    rw [asStaff, if_neg (by rw [hb]; decide)]
    exact (fl_bar _).any hv
/-! ### short displays, sums of lists, appended lists -/
section
variable {K : PySem.W.Frag} {σ : L2.St} {H : Hp} {ta tb te tc : TE} {r r1 r2 r3 : Rl} {rs rs2 : List Rl}
theorem one_st (h : St r) : ∀ q ∈ [r], St q := fun q hq => by
  rcases List.mem_cons.mp hq with rfl | hq
  · exact h
  · cases hq
theorem one_fl (h : Fl r) : ∀ q ∈ [r], Fl q := fun q hq => by
  rcases List.mem_cons.mp hq with rfl | hq
  · exact h
  · cases hq
theorem three_st (h1 : St r1) (h2 : St r2) (h3 : St r3) : ∀ q ∈ [r1, r2, r3], St q := fun q hq => by
  rcases List.mem_cons.mp hq with rfl | hq
  · exact h1
  · exact st_two h2 h3 q hq
theorem no_st : ∀ q ∈ ([] : List Rl), St q := fun q hq => by cases hq
theorem no_fl : ∀ q ∈ ([] : List Rl), Fl q := fun q hq => by cases hq
theorem evr_lst1 (h : EvR te σ H r) (s : St r) : EvR (tLst (tCons te tNil)) σ H (rL [r]) := evr_lst (ra_cons h s ra_nil no_st) (one_st s)
theorem evr_lst2 (h : EvR ta σ H r1) (s : St r1) (h2 : EvR tb σ H r2) (s2 : St r2) : EvR (tLst (tCons ta (tCons tb tNil))) σ H (rL [r1, r2]) := evr_lst (ra_cons h s (ra_cons h2 s2 ra_nil no_st) (one_st s2)) (st_two s s2)
theorem evr_tup1 (h : EvR te σ H r) (s : St r) : EvR (tTup (tCons te tNil)) σ H (rT [r]) := evr_tup (ra_cons h s ra_nil no_st) (one_st s)
theorem evr_tup2 (h : EvR ta σ H r1) (s : St r1) (h2 : EvR tb σ H r2) (s2 : St r2) : EvR (tTup (tCons ta (tCons tb tNil))) σ H (rT [r1, r2]) := evr_tup (ra_cons h s (ra_cons h2 s2 ra_nil no_st) (one_st s2)) (st_two s s2)
theorem evr_tup3 (h : EvR ta σ H r1) (s : St r1) (h2 : EvR tb σ H r2) (s2 : St r2) (h3 : EvR tc σ H r3) (s3 : St r3) : EvR (tTup (tCons ta (tCons tb (tCons tc tNil)))) σ H (rT [r1, r2, r3]) :=
  evr_tup (ra_cons h s (ra_cons h2 s2 (ra_cons h3 s3 ra_nil no_st) (one_st s3)) (st_two s2 s3)) (three_st s s2 s3)
theorem evr_catF (ha : EvX ta σ H (rL rs)) (hb : EvX tb σ H (rL rs2)) (hs : ∀ r ∈ rs, Fl r) (hs2 : ∀ r ∈ rs2, Fl r) (hl : rs.length + rs2.length ≤ sizeLine) : EvR (tOp rCat ta tb) σ H (rL (rs ++ rs2)) := fun H1 e Q q =>
  ha H1 e _ fun x H2 e2 ⟨a, vs, ex, fa, ea, al⟩ => hb H2 (e.trans e2) _ fun y H3 e3 ⟨b, ws, ey, fb, eb, bl⟩ => by
    subst ex; subst ey
    refine ⟨a, b, vs, ws, rfl, rfl, e3 a _ ea, eb, by rw [al.1, bl.1]; exact hl, fun p hp => q _ _ ((e2.trans e3).trans (Ex.new hp)) ⟨p, vs ++ ws, rfl, fresh_back (e2.trans e3) hp, upd_same, ?_⟩⟩
    exact (al.mono fun x r hr h => (hs r hr).ex (e3.trans (Ex.new hp)) h).append (bl.mono fun x r hr h => (hs2 r hr).ex (Ex.new hp) h)
variable {D : Ends} {l : Addr} {xs : List V} {tz : TS}
theorem s_extR (hl : H l = some (.lst xs)) (ha : Ev ta σ H (.ref l)) (h : EvR te σ H (rL rs)) (hs : ∀ r ∈ rs, St r) (hz : xs.length + rs.length ≤ sizeLine) (k : ∀ ys H1, Ex H H1 → All2 (fun v (r : Rl) => r (New H) H1 v) ys rs → D.nx σ (upd H1 l (.lst (xs ++ ys)))) :
    tDrop (tBM K "list" rExtend ta (tCons te tNil)) D σ H := ha H (Ex.refl H) _ fun H1 e1 =>
  ⟨Or.inl ⟨rfl, xs, sq_of (e1 l _ hl)⟩, h H1 e1 _ fun v H2 e2 ⟨b, ys, ev, fb, eb, al⟩ => by
    subst ev
    refine ⟨l, b, xs, ys, rfl, rfl, e2 l _ (e1 l _ hl), eb, by rw [al.1]; exact hz, k ys H2 (e1.trans e2) (al.mono fun v r hr h => (hs r hr).back e1 h)⟩⟩
theorem q_extR (hl : H l = some (.lst xs)) (ha : Ev ta σ H (.ref l)) (h : EvR te σ H (rL rs)) (hs : ∀ r ∈ rs, St r) (hz : xs.length + rs.length ≤ sizeLine) (k : ∀ ys H1, Ex H H1 → All2 (fun v (r : Rl) => r (New H) H1 v) ys rs → tz D σ (upd H1 l (.lst (xs ++ ys)))) :
    tSeq (tDrop (tBM K "list" rExtend ta (tCons te tNil))) tz D σ H := s_extR (D := { D with nx := tz D }) hl ha h hs hz k
theorem s_appR (hl : H l = some (.lst xs)) (ha : Ev ta σ H (.ref l)) (h : EvR te σ H r) (s : St r) (hz : xs.length < sizeLine) (k : ∀ v H1, Ex H H1 → r (New H) H1 v → D.nx σ (upd H1 l (.lst (xs ++ [v])))) :
    tDrop (tBM K "list" rAppend ta (tCons te tNil)) D σ H := ha H (Ex.refl H) _ fun H1 e1 =>
  ⟨Or.inl ⟨rfl, xs, sq_of (e1 l _ hl)⟩, h H1 e1 _ fun v H2 e2 hv => ⟨l, xs, v, rfl, rfl, e2 l _ (e1 l _ hl), hz, k v H2 (e1.trans e2) (s.back e1 hv)⟩⟩
theorem q_appR (hl : H l = some (.lst xs)) (ha : Ev ta σ H (.ref l)) (h : EvR te σ H r) (s : St r) (hz : xs.length < sizeLine) (k : ∀ v H1, Ex H H1 → r (New H) H1 v → tz D σ (upd H1 l (.lst (xs ++ [v])))) :
    tSeq (tDrop (tBM K "list" rAppend ta (tCons te tNil))) tz D σ H := s_appR (D := { D with nx := tz D }) hl ha h s hz k
end
theorem size24 {n : Nat} (h : n ≤ 16000000) : n ≤ sizeLine := Nat.le_trans h (by decide)
/-! ### bars as numbers -/
def itemOut (x : Sw71.Item) : List Nat := x.long :: x.keys.length :: x.keys
theorem barOut_eq (b : Sw71.Bar) : Sw71.barOut b = b.length :: b.flatMap itemOut := rfl
theorem flat_cap {α : Type} {f : α → List Nat} {c : Nat} : ∀ {l : List α}, (∀ x ∈ l, (f x).length ≤ c) → (l.flatMap f).length ≤ l.length * c
  | [], _ => by simp
  | x :: l, h => by
    have h1 := h x List.mem_cons_self
    have h2 := flat_cap (l := l) fun y hy => h y (List.mem_cons_of_mem _ hy)
    rw [List.flatMap_cons, List.length_append, List.length_cons, Nat.succ_mul]
    omega
theorem mem_take {α : Type} {l : List α} {x : α} {n : Nat} (h : x ∈ l.take n) : x ∈ l := List.mem_of_mem_take h
theorem item_cap {b : Sw71.Bar} (h : Cap b) (n : Nat) : ((b.take n).flatMap itemOut).length ≤ 7320 := by
  have h1 := flat_cap (f := itemOut) (c := 122) (l := b.take n) fun x hx => by
    have := h.2 x (mem_take hx)
    show x.keys.length + 1 + 1 ≤ 122
    omega
  have h2 : (b.take n).length ≤ 60 := Nat.le_trans (List.length_take_le' _ _) h.1
  omega
theorem bar_cap {b : Sw71.Bar} (h : Cap b) : (Sw71.barOut b).length ≤ 7321 := by
  have := item_cap h b.length
  rw [List.take_length] at this
  rw [barOut_eq, List.length_cons]
  omega
theorem staff_cap {l : List Sw71.Bar} (h : CapL l) (n : Nat) : ((l.take n).flatMap Sw71.barOut).length ≤ 439260 := by
  have h1 := flat_cap (f := Sw71.barOut) (c := 7321) (l := l.take n) fun x hx => bar_cap (h.2 x (mem_take hx))
  have h2 : (l.take n).length ≤ 60 := Nat.le_trans (List.length_take_le' _ _) h.1
  omega
theorem flat_take {α : Type} {f : α → List Nat} {l : List α} {i : Nat} {x : α} (h : l[i]? = some x) : (l.take (i + 1)).flatMap f = (l.take i).flatMap f ++ f x := by
  rw [List.take_add_one, h, List.flatMap_append]
  simp
def sp_told : Sp := spP (fun x => [rBar x]) (fun x => Cap x) (fun x => rNs (Sw71.barOut x))
theorem len_told {vs H Q E} (h : sp_told vs H Q E) : vs.length = 1 := len_P (fun _ => rfl) h
theorem ok_told {P : Program} {w : World} {K : PySem.W.Frag} {mg : Str → Option Value} {base : Heap} {CR CS : Addr} (T : Tx K mg CR CS) (A : FunAt K mg "told" s_told ["bar"]) : Dfn P w K mg base "told" 1 ["bar"] (sp_told) := by
  obtain ⟨f, fd, g, F, b⟩ := A
  refine ⟨f, fd, g, F.kp, b, F.ok sc_told (fun vs H Q E h => len_told h) (fun cdv A outer s H vs Q E hr h => ?_)⟩
  obtain ⟨x, al, hp, k⟩ := h
  obtain ⟨v0, _, rfl, h0, al⟩ := al.un_cons
  cases al.un_nil
  refine ⟨_, (pss_cons (ps_set (i := 1) sc_told.nd rfl (Or.inl rfl) (pe_lst (pa_cons (pe_callB (lenS K) (by rfl) T.len PySem.boot_len (pa_cons (pv 0) pa_nil)) pa_nil)))
      (pss_cons (ps_for PassesOwn.never rfl (piT K (pv 0)) (pg_tup rfl (pgs_cons (pg_name (i := 2) sc_told.nd rfl (Or.inl rfl)) (pgs_cons (pg_name (i := 3) sc_told.nd rfl (Or.inl rfl)) pgs_nil))) (pss_one (ps_expr (pe_bm PySem.F.plainAttrs_list PySem.F.slot_list_extend PySem.F.type_list_extend mt_extend (pv 1) (pa_cons (pe_op op_cat (pe_lst (pa_cons (pv 2) (pa_cons (pe_callB (lenS K) (by rfl) T.len PySem.boot_len (pa_cons (pv 3) pa_nil)) pa_nil))) (pe_callTy (listOf K) (by rfl) T.list (by decide +kernel) (pa_cons (pv 3) pa_nil))) pa_nil)))))
      (pss_one (ps_ret (pv 1))))), ?_⟩
  have mk := (fl_bar x).mo
  refine q_asgR (evr_lst1 ((evx_lenT (evx_var rfl mk h0)).is (by rw [List.length_map])).trV st_V) fun D H1 e1 hD => ?_
  obtain ⟨D, vs, rfl, nD, hD, al⟩ := hD
  obtain ⟨w0, _, rfl, hw0, al⟩ := al.un_cons
  cases al.un_nil
  cases hw0
  obtain ⟨a, vs, rfl, ha, al0⟩ := h0
  have lv : vs.length = x.length := by rw [al0.1, List.length_map]
  refine q_forT (xs := vs) (ev_var rfl) (SqT.of (e1 a _ ha)) (fun i σ' H' => ∃ y2 y3, σ' = [some (.ref a), some (.ref D), y2, y3] ∧ Ex H H' ∧ H' D = some (.lst ((x.length :: (x.take i).flatMap itemOut).map nV))) (fun H2 e2 => ⟨none, none, rfl, e1.trans e2, e2 D _ hD⟩) (fun i σ' H' _ ⟨_, _, _, e, _⟩ => SqT.of (e a _ ha)) ?_ ?_
  · rintro i v σ' H' hi ⟨y2, y3, rfl, e, hD'⟩
    obtain ⟨q, hq, hv⟩ := al0.get' hi
    rw [List.getElem?_map] at hq
    cases ex : x[i]? with
    | none => rw [ex] at hq; cases hq
    | some it =>
    rw [ex] at hq
    cases hq
    have hv' := (fl_item it).mo _ _ v e hv
    obtain ⟨p, ws, rfl, hp', al2⟩ := hv'
    obtain ⟨x1, _, rfl, hx1, al2⟩ := al2.un_cons
    obtain ⟨x2, _, rfl, hx2, al2⟩ := al2.un_cons
    cases al2.un_nil
    refine ⟨p, [x1, x2], rfl, SqT.of hp', rfl, x1, [x2], rfl, x2, [], rfl, rfl, ?_⟩
    have mk2 := (fl_keys it.keys).mo
    refine s_extR hD' (ev_var rfl) (evr_catF ((evr_lst2 (evx_var rfl st_V.mo hx1).trV st_V ((evx_lenT (evx_var rfl mk2 hx2)).is (by rw [List.length_map])).trV st_V).tx (st_L (st_two st_V st_V))) ((evr_listT (evx_var rfl mk2 hx2) (fl_map fun _ => fl_V)).tx (st_ns _)) (fl_two fl_V fl_V) (fl_map fun _ => fl_V) ?_) ?_ ?_ fun ys H2 e2 al3 => ?_
    · have := hp.2 it (List.mem_of_getElem? ex)
      refine sz_of ?_
      simp
      omega
    · intro r hr
      rcases List.mem_append.mp hr with hr | hr
      · exact st_two st_V st_V r hr
      · exact st_map (fun _ => st_V) r hr
    · have h1 := item_cap hp i
      have h2 := hp.2 it (List.mem_of_getElem? ex)
      refine sz_of ?_
      simp only [List.length_append, List.length_map, List.length_cons, List.length_nil]
      omega
    · refine ⟨some x1, some x2, rfl, Ex.mut (e.trans e2) nD, ?_⟩
      have e3 : ys = (itemOut it).map nV := by
        have : [rN it.long, rN it.keys.length] ++ List.map (fun n => rN n) it.keys = (itemOut it).map fun n => rN n := rfl
        rw [this] at al3
        exact ints_of.mp al3
      rw [upd_same, e3, ← List.map_append, flat_take ex]
      rfl
  · rintro σ' H' ⟨y2, y3, rfl, e, hD'⟩
    refine s_retX (evv_var rfl) fun v H3 e3 hv => ?_
    cases hv
    refine k _ H3 (e.trans e3) ⟨D, _, rfl, nD, e3 D _ hD', ?_⟩
    rw [lv, List.take_length]
    exact ints_of.mpr rfl
def sp_all_told : Sp := spP (fun x => [rBars x]) (fun x => CapL x) (fun x => rNs (Sw71.staffOut x))
theorem len_all_told {vs H Q E} (h : sp_all_told vs H Q E) : vs.length = 1 := len_P (fun _ => rfl) h
theorem ok_all_told {P : Program} {w : World} {K : PySem.W.Frag} {mg : Str → Option Value} {base : Heap} {CR CS : Addr} (T : Tx K mg CR CS) (A : FunAt K mg "all_told" s_all_told ["bars"]) (D_told : Dfn P w K mg base "told" 1 ["bar"] (sp_told)) : Dfn P w K mg base "all_told" 2 ["bars"] (sp_all_told) := by
  obtain ⟨f, fd, g, F, b⟩ := A
  obtain ⟨f_told, fd_told, g_told, k_told, b_told, F_told⟩ := D_told
  refine ⟨f, fd, g, F.kp, b, F.ok sc_all_told (fun vs H Q E h => len_all_told h) (fun cdv A outer s H vs Q E hr h => ?_)⟩
  obtain ⟨x, al, hp, k⟩ := h
  obtain ⟨v0, _, rfl, h0, al⟩ := al.un_cons
  cases al.un_nil
  refine ⟨_, (pss_cons (ps_set (i := 1) sc_all_told.nd rfl (Or.inl rfl) (pe_lst pa_nil))
      (pss_cons (ps_for PassesOwn.never rfl (piL K (pv 0)) (pg_name (i := 2) sc_all_told.nd rfl (Or.inl rfl)) (pss_one (ps_expr (pe_bm PySem.F.plainAttrs_list PySem.F.slot_list_extend PySem.F.type_list_extend mt_extend (pv 1) (pa_cons (pe_call F_told (hr.mono (by decide)) (by rfl) g_told k_told b_told .nil pass0 (pa_cons (pv 2) pa_nil)) pa_nil)))))
      (pss_one (ps_ret (pv 1))))), ?_⟩
  refine q_asgR evr_nilL fun D H1 e1 hD => ?_
  obtain ⟨D, vs, rfl, nD, hD, al⟩ := hD
  cases al.un_nil
  obtain ⟨a, vs, rfl, _, ha, al0⟩ := h0
  have lv : vs.length = x.length := by rw [al0.1, List.length_map]
  refine q_forLn (xs := vs) (ev_var rfl) (SqL.of (e1 a _ ha)) (fun i σ' H' => ∃ y2, σ' = [some (.ref a), some (.ref D), y2] ∧ Ex H H' ∧ H' D = some (.lst (((x.take i).flatMap Sw71.barOut).map nV))) (fun H2 e2 => ⟨none, rfl, e1.trans e2, e2 D _ hD⟩) (fun i σ' H' _ ⟨_, _, e, _⟩ => SqL.of (e a _ ha)) ?_ ?_
  · rintro i v σ' H' hi ⟨y2, rfl, e, hD'⟩
    obtain ⟨q, hq, hv⟩ := al0.get' hi
    rw [List.getElem?_map] at hq
    cases ex : x[i]? with
    | none => rw [ex] at hq; cases hq
    | some b =>
    rw [ex] at hq
    cases hq
    have hv' := (fl_bar b).mo _ _ v e hv
    have hb := hp.2 b (List.mem_of_getElem? ex)
    refine s_extR hD' (ev_var rfl) (evr_call b hb (st_ns _) (xa_cons (evx_var rfl (fl_bar b).mo hv') (fl_bar b).mo xa_nil)) (st_map fun _ => st_V) ?_ fun ys H2 e2 al3 => ?_
    · have h1 := staff_cap hp i
      have h2 := bar_cap hb
      refine size24 ?_
      simp only [List.length_map]
      omega
    · refine ⟨some v, rfl, Ex.mut (e.trans e2) nD, ?_⟩
      rw [upd_same, ints_of.mp al3, ← List.map_append, flat_take ex]
  · rintro σ' H' ⟨y2, rfl, e, hD'⟩
    refine s_retX (evv_var rfl) fun v H3 e3 hv => ?_
    cases hv
    refine k _ H3 (e.trans e3) ⟨D, _, rfl, nD, e3 D _ hD', ?_⟩
    rw [lv, List.take_length]
    exact ints_of.mpr rfl
def sp_with_count : Sp := spP (fun x => [rNs x]) (fun x => x.length ≤ 10000000) (fun x => rNs (x.length :: x))
theorem len_with_count {vs H Q E} (h : sp_with_count vs H Q E) : vs.length = 1 := len_P (fun _ => rfl) h
theorem ok_with_count {P : Program} {w : World} {K : PySem.W.Frag} {mg : Str → Option Value} {base : Heap} {CR CS : Addr} (T : Tx K mg CR CS) (A : FunAt K mg "with_count" s_with_count ["row"]) : Dfn P w K mg base "with_count" 1 ["row"] (sp_with_count) := by
  obtain ⟨f, fd, g, F, b⟩ := A
  refine ⟨f, fd, g, F.kp, b, F.ok sc_with_count (fun vs H Q E h => len_with_count h) (fun cdv A outer s H vs Q E hr h => ?_)⟩
  obtain ⟨x, al, hp, k⟩ := h
  obtain ⟨v0, _, rfl, h0, al⟩ := al.un_cons
  cases al.un_nil
  refine ⟨_, (pss_one (ps_ret (pe_op op_cat (pe_lst (pa_cons (pe_callB (lenS K) (by rfl) T.len PySem.boot_len (pa_cons (pv 0) pa_nil)) pa_nil)) (pv 0)))), ?_⟩
  have mk := (st_ns x).mo
  refine s_retR (evr_catF ((evr_lst1 ((evx_lenL (evx_var rfl mk h0)).is (by rw [List.length_map])).trV st_V).tx (st_L (one_st st_V))) (evx_var rfl mk h0) (one_fl fl_V) (fl_map fun _ => fl_V) (size24 (by simp; omega))) fun v H3 e3 hv => k v H3 e3 hv
end Ps

namespace Ps
open PySem PySem.Spec PyProof.Rows L2 Evl

/-! ### two bars -/
def sp_is_chord_pair : Sp := spP (fun x : Sw71.Item × Sw71.Item => [rItem x.1, rItem x.2]) (fun _ => True) (fun x => rB (Sw71.chord x.1 x.2))
theorem len_is_chord_pair {vs H Q E} (h : sp_is_chord_pair vs H Q E) : vs.length = 2 := len_P (fun _ => rfl) h
section
variable {K : PySem.W.Frag} {σ : L2.St} {H : Hp} {ta tb te tx : TE} {i : Nat} {v : V} {x : Sw71.Item}
theorem evx_long (hs : σ[i]? = some (some v)) (h : rItem x Any H v) : EvX (tOp (rIxT K) (tVar i) (tC (.int 0))) σ H (rN x.long) := evx_ixT (j := 0) (evx_var hs (fl_item x).mo h) evx_c rfl rfl (mo_two st_V.mo (fl_keys _).mo)
theorem evx_keys (hs : σ[i]? = some (some v)) (h : rItem x Any H v) : EvX (tOp (rIxT K) (tVar i) (tC (.int 1))) σ H (rKeys x.keys) := evx_ixT (j := 1) (evx_var hs (fl_item x).mo h) evx_c rfl rfl (mo_two st_V.mo (fl_keys _).mo)
theorem evx_key {n : Nat} {ks : List Nat} (h : EvX te σ H (rKeys ks)) (hn : n < ks.length) : EvX (tOp (rIxT K) te (tC (.int n))) σ H (rN (ks.getD n 0)) := evx_ixT (j := n) h evx_c rfl (getD_of hn) (mo_map fun _ => st_V.mo)
theorem evx_lenK {ks : List Nat} (h : EvX te σ H (rKeys ks)) : EvX (tCB (rLen K) (tCons te tNil)) σ H (rN ks.length) := (evx_lenT h).is (by rw [List.length_map])
end
theorem chord_same {x y : Sw71.Item} (h : x.long = y.long) : Sw71.chord x y = if x.keys = [] ∨ y.keys = [] then decide (x.keys = y.keys) else (decide (x.keys.length = 1) && (decide (y.keys.length = 1) && decide (y.keys.getD 0 0 < x.keys.getD 0 0))) := by
  unfold Sw71.chord
  rw [h]
  cases hx : x.keys with
  | nil => cases hy : y.keys <;> simp
  | cons a r =>
    cases hy : y.keys with
    | nil => simp
    | cons b s =>
      cases r <;> cases s <;> simp
theorem chord_not {x y : Sw71.Item} (h : x.long ≠ y.long) : Sw71.chord x y = false := by
  unfold Sw71.chord
  have e : (x.long == y.long) = false := by simpa using h
  rw [e]
  rfl
theorem decV (a b : Nat) : decide (V.int (a : Int) = V.int (b : Int)) = decide (a = b) := by
  rw [Bool.eq_iff_iff]
  simp only [decide_eq_true_eq, V.int.injEq]
  omega
theorem decL (a b : Nat) : decide ((a : Int) < (b : Int)) = decide (a < b) := by
  rw [Bool.eq_iff_iff]
  simp only [decide_eq_true_eq]
  omega
theorem ok_is_chord_pair {P : Program} {w : World} {K : PySem.W.Frag} {mg : Str → Option Value} {base : Heap} {CR CS : Addr} (T : Tx K mg CR CS) (A : FunAt K mg "is_chord_pair" s_is_chord_pair ["one", "other"]) : Dfn P w K mg base "is_chord_pair" 1 ["one", "other"] (sp_is_chord_pair) := by
  obtain ⟨f, fd, g, F, b⟩ := A
  refine ⟨f, fd, g, F.kp, b, F.ok sc_is_chord_pair (fun vs H Q E h => len_is_chord_pair h) (fun cdv A outer s H vs Q E hr h => ?_)⟩
  obtain ⟨⟨x, y⟩, al, hp, k⟩ := h
  obtain ⟨v0, _, rfl, h0, al⟩ := al.un_cons
  obtain ⟨v1, _, rfl, h1, al⟩ := al.un_cons
  cases al.un_nil
  have m1 := (fl_item x).mo
  have m2 := (fl_item y).mo
  refine ⟨_, (pss_cons (ps_if (pt_cmpR op_ne (pe_ix (ixT K) (pv 0) pe_int (fun _ _ => rfl)) (pe_ix (ixT K) (pv 1) pe_int (fun _ _ => rfl)) (nomark _)) (pss_one (ps_ret pe_bl)) pss_nil)
      (pss_cons (ps_if (PW.pt (pw_or (pt_cmpR (eqD K hr.units) (pe_ix (ixT K) (pv 0) pe_int (fun _ _ => rfl)) (pe_tup pa_nil) (nomark _)) (pw_or1 (pt_cmpR (eqD K hr.units) (pe_ix (ixT K) (pv 1) pe_int (fun _ _ => rfl)) (pe_tup pa_nil) (nomark _))))) (pss_one (ps_ret (pe_cmpR (eqD K hr.units) (pe_ix (ixT K) (pv 0) pe_int (fun _ _ => rfl)) (pe_ix (ixT K) (pv 1) pe_int (fun _ _ => rfl)) (nomark _)))) pss_nil)
      (pss_one (ps_ret (pe_and (pe_cmpR op_eq (pe_callB (lenS K) (by rfl) T.len PySem.boot_len (pa_cons (pe_ix (ixT K) (pv 0) pe_int (fun _ _ => rfl)) pa_nil)) pe_int (nomark _)) (pe_and (pe_cmpR op_eq (pe_callB (lenS K) (by rfl) T.len PySem.boot_len (pa_cons (pe_ix (ixT K) (pv 1) pe_int (fun _ _ => rfl)) pa_nil)) pe_int (nomark _)) (pe_one (pe_cmpR op_gt (pe_ix (ixT K) (pe_ix (ixT K) (pv 0) pe_int (fun _ _ => rfl)) pe_int (fun _ _ => rfl)) (pe_ix (ixT K) (pe_ix (ixT K) (pv 1) pe_int (fun _ _ => rfl)) pe_int (fun _ _ => rfl)) (nomark _))))))))), ?_⟩
  refine q_when (ett (evx_ne (evx_long rfl h0) (evx_long rfl h1) rfl)) ?_ ?_
  · intro hb H2 e
    refine s_retR evr_c fun v H3 e3 hv => k v H3 (e.trans e3) ?_
    show v = .bl (Sw71.chord x y)
    rw [decV] at hb
    rw [chord_not (by simpa using hb)]
    exact hv
  · intro hb H2 e
    rw [decV] at hb
    have hl : x.long = y.long := by simpa using hb
    have g0 := m1 _ _ v0 e h0
    have g1 := m2 _ _ v1 e h1
    refine q_when (et_or (ett (evx_eqK (evx_keys rfl g0) (evx_nil.tx (fl_keys []).st))) fun _ => ett (evx_eqK (evx_keys rfl g1) (evx_nil.tx (fl_keys []).st))) ?_ ?_
    · intro hc H3 e3
      refine s_retX (evx_eqK (evx_keys rfl (m1 _ _ v0 e3 g0)) (evx_keys rfl (m2 _ _ v1 e3 g1))) fun v H4 e4 hv => k v H4 (e.trans (e3.trans e4)) ?_
      show v = .bl (Sw71.chord x y)
      rw [chord_same hl, if_pos (by simpa using hc)]
      exact hv
    · intro hc H3 e3
      have f0 := m1 _ _ v0 e3 g0
      have f1 := m2 _ _ v1 e3 g1
      refine s_retX (evx_andV (evx_eq (evx_lenK (evx_keys rfl f0)) evx_c rfl) fun a1 => evx_andV (evx_eq (evx_lenK (evx_keys rfl f1)) evx_c rfl) fun a2 => evx_I0 (evx_key (n := 0) (evx_keys rfl f0) ?_) (evx_key (n := 0) (evx_keys rfl f1) ?_)) fun v H4 e4 hv => k v H4 (e.trans (e3.trans e4)) ?_
      · have := (decV _ 1).symm.trans a1
        have := of_decide_eq_true this
        omega
      · have := (decV _ 1).symm.trans a2
        have := of_decide_eq_true this
        omega
      · show v = .bl (Sw71.chord x y)
        rw [chord_same hl, if_neg (by simpa using hc)]
        have e1 := decV x.keys.length 1
        have e2 := decV y.keys.length 1
        have e3' := decL (y.keys.getD 0 0) (x.keys.getD 0 0)
        rw [← e1, ← e2, ← e3']
        exact hv
def sp_mode_of : Sp := spP (fun x : Sw71.Bar × Sw71.Bar => [rBar x.1, rBar x.2]) (fun x => x.1.length ≤ 60 ∧ x.2.length ≤ 60) (fun x => rN (Sw71.mode x.1 x.2))
theorem len_mode_of {vs H Q E} (h : sp_mode_of vs H Q E) : vs.length = 2 := len_P (fun _ => rfl) h
theorem ok_mode_of {P : Program} {w : World} {K : PySem.W.Frag} {mg : Str → Option Value} {base : Heap} {CR CS : Addr} (T : Tx K mg CR CS) (A : FunAt K mg "mode_of" s_mode_of ["one", "other"]) (D_does_rest : Dfn P w K mg base "does_rest" 1 ["bar"] (sp_does_rest)) (D_is_chord_pair : Dfn P w K mg base "is_chord_pair" 1 ["one", "other"] (sp_is_chord_pair)) : Dfn P w K mg base "mode_of" 2 ["one", "other"] (sp_mode_of) := by
  obtain ⟨f, fd, g, F, b⟩ := A
  obtain ⟨f_does_rest, fd_does_rest, g_does_rest, k_does_rest, b_does_rest, F_does_rest⟩ := D_does_rest
  obtain ⟨f_is_chord_pair, fd_is_chord_pair, g_is_chord_pair, k_is_chord_pair, b_is_chord_pair, F_is_chord_pair⟩ := D_is_chord_pair
  refine ⟨f, fd, g, F.kp, b, F.ok sc_mode_of (fun vs H Q E h => len_mode_of h) (fun cdv A outer s H vs Q E hr h => ?_)⟩
  obtain ⟨⟨x, y⟩, al, ⟨hp1, hp2⟩, k⟩ := h
  replace hp1 : x.length ≤ 60 := hp1
  replace hp2 : y.length ≤ 60 := hp2
  obtain ⟨v0, _, rfl, h0, al⟩ := al.un_cons
  obtain ⟨v1, _, rfl, h1, al⟩ := al.un_cons
  cases al.un_nil
  have m1 := (fl_bar x).mo
  have m2 := (fl_bar y).mo
  refine ⟨_, (pss_cons (ps_if (PW.pt (pw_and (pt_val (pe_call F_does_rest (hr.mono (by decide)) (by rfl) g_does_rest k_does_rest b_does_rest .nil pass0 (pa_cons (pv 0) pa_nil))) (pw_and1 (pt_val (pe_call F_does_rest (hr.mono (by decide)) (by rfl) g_does_rest k_does_rest b_does_rest .nil pass0 (pa_cons (pv 1) pa_nil)))))) (pss_one (ps_ret (pe_cn T.c_BOTH_REST))) pss_nil)
      (pss_cons (ps_if (pt_val (pe_call F_does_rest (hr.mono (by decide)) (by rfl) g_does_rest k_does_rest b_does_rest .nil pass0 (pa_cons (pv 1) pa_nil))) (pss_one (ps_ret (pe_cn T.c_FIRST_ALONE))) pss_nil)
      (pss_cons (ps_if (pt_val (pe_call F_does_rest (hr.mono (by decide)) (by rfl) g_does_rest k_does_rest b_does_rest .nil pass0 (pa_cons (pv 0) pa_nil))) (pss_one (ps_ret (pe_cn T.c_SECOND_ALONE))) pss_nil)
      (pss_cons (ps_if (pt_cmpR (eqD K hr.units) (pv 0) (pv 1) (nomark _)) (pss_one (ps_ret (pe_cn T.c_SAME))) pss_nil)
      (pss_cons (ps_if (PW.pt (pw_and (pt_cmpR op_eq (pe_callB (lenS K) (by rfl) T.len PySem.boot_len (pa_cons (pv 0) pa_nil)) (pe_callB (lenS K) (by rfl) T.len PySem.boot_len (pa_cons (pv 1) pa_nil)) (nomark _)) (pw_and1 (pt_val (pe_callB (allS K rfl) (by rfl) T.all (by decide +kernel) (pa_cons (pe_lc (own := [("item", 2), ("beside", 3)]) (g := gTup K 2 (gCons (gName 2) (gCons (gName 3) gNil))) (tt := tYes) rfl sc_mode_of.nd (RZ.pi_zipA (by rfl) T.zip (pa_cons (pv 0) (pa_cons (pv 1) pa_nil))) (blkOk_by (own := [("item", 2), ("beside", 3)]) (N := N_mode_of) (sc := defScope s_mode_of) (by decide +kernel)) (fun _ _ _ _ _ => (pg_tup rfl (pgs_cons (pg_name (i := 2) sc_mode_of.nd rfl (Or.inl rfl)) (pgs_cons (pg_name (i := 3) sc_mode_of.nd rfl (Or.inl rfl)) pgs_nil)))) (fun _ _ _ _ _ => pts_nil) (fun _ _ _ _ _ => (pe_call F_is_chord_pair (hr.mono (by decide)) (by rfl) g_is_chord_pair k_is_chord_pair b_is_chord_pair .nil pass0 (pa_cons (pv 2) (pa_cons (pv 3) pa_nil))))) pa_nil)))))) (pss_one (ps_ret (pe_cn T.c_CHORDS))) pss_nil)
      (pss_one (ps_ret (pe_cn T.c_APART)))))))), ?_⟩
  have r0 : ∀ {σ : L2.St} {H' : Hp} {i : Nat}, σ[i]? = some (some v0) → Ex H H' → EvT (tB (tCall sp_does_rest [] E0 (tCons (tVar i) tNil))) σ H' (Sw71.rests x) := fun hs e => etb (EvR.txV (evr_call x hp1 st_V (xa_cons (evx_var hs m1 (m1 _ _ v0 e h0)) m1 xa_nil)))
  have r1 : ∀ {σ : L2.St} {H' : Hp} {i : Nat}, σ[i]? = some (some v1) → Ex H H' → EvT (tB (tCall sp_does_rest [] E0 (tCons (tVar i) tNil))) σ H' (Sw71.rests y) := fun hs e => etb (EvR.txV (evr_call y hp2 st_V (xa_cons (evx_var hs m2 (m2 _ _ v1 e h1)) m2 xa_nil)))
  refine q_when (et_and (r0 rfl (Ex.refl H)) fun _ => r1 rfl (Ex.refl H)) ?_ ?_
  · intro hb H2 e
    refine s_retR evr_c fun v H3 e3 hv => k v H3 (e.trans e3) ?_
    show v = .int (Sw71.mode x y : Nat)
    unfold Sw71.mode
    rw [if_pos (by simpa using hb)]
    exact hv
  intro hb H2 e
  refine q_when (r1 rfl e) ?_ ?_
  · intro hc H3 e3
    refine s_retR evr_c fun v H4 e4 hv => k v H4 (e.trans (e3.trans e4)) ?_
    show v = .int (Sw71.mode x y : Nat)
    unfold Sw71.mode
    rw [if_neg (by simpa using hb), if_pos hc]
    exact hv
  intro hc H3 e3
  refine q_when (r0 rfl (e.trans e3)) ?_ ?_
  · intro hd H4 e4
    refine s_retR evr_c fun v H5 e5 hv => k v H5 (e.trans (e3.trans (e4.trans e5))) ?_
    show v = .int (Sw71.mode x y : Nat)
    unfold Sw71.mode
    rw [if_neg (by simpa using hb), if_neg (by rw [hc]; decide), if_pos hd]
    exact hv
  intro hd H4 e4
  have e04 := e.trans (e3.trans e4)
  refine q_when (ett (evx_eqBar (evx_var rfl m1 (m1 _ _ v0 e04 h0)) (evx_var rfl m2 (m2 _ _ v1 e04 h1)))) ?_ ?_
  · intro hq H5 e5
    refine s_retR evr_c fun v H6 e6 hv => k v H6 (e04.trans (e5.trans e6)) ?_
    show v = .int (Sw71.mode x y : Nat)
    unfold Sw71.mode
    rw [if_neg (by simpa using hb), if_neg (by rw [hc]; decide), if_neg (by rw [hd]; decide), if_pos (by simpa using hq)]
    exact hv
  intro hq H5 e5
  have e05 := e04.trans e5
  refine q_when (et_and (ett (evx_eq ((evx_lenT (evx_var rfl m1 (m1 _ _ v0 e05 h0))).is (by rw [List.length_map])) ((evx_lenT (evx_var rfl m2 (m2 _ _ v1 e05 h1))).is (by rw [List.length_map])) rfl))
    fun _ => etb (evx_allM (f := fun p : Sw71.Item × Sw71.Item => Sw71.chord p.1 p.2) (EvR.tx (lcZT x y rItem rItem (fun p => rB (Sw71.chord p.1 p.2)) (evx_var rfl m1 (m1 _ _ v0 e05 h0)) (evx_var rfl m2 (m2 _ _ v1 e05 h1)) (fun a => (fl_item a).mo) (fun a => (fl_item a).mo) (by omega) (fun _ => st_V) (fun _ _ => rfl)
      fun a b p q H6 hab e6 hp hq => evr_call (a, b) trivial st_V (xa_cons (evx_var rfl (fl_item a).mo hp) (fl_item a).mo (xa_cons (evx_var rfl (fl_item b).mo hq) (fl_item b).mo xa_nil))) (st_L (st_map fun _ => st_V))))) ?_ ?_
  · intro hz H6 e6
    refine s_retR evr_c fun v H7 e7 hv => k v H7 (e05.trans (e6.trans e7)) ?_
    show v = .int (Sw71.mode x y : Nat)
    unfold Sw71.mode
    rw [decV] at hz
    rw [if_neg (by simpa using hb), if_neg (by rw [hc]; decide), if_neg (by rw [hd]; decide), if_neg (by simpa using hq), if_pos (by simpa using hz)]
    exact hv
  · intro hz H6 e6
    refine s_retR evr_c fun v H7 e7 hv => k v H7 (e05.trans (e6.trans e7)) ?_
    show v = .int (Sw71.mode x y : Nat)
    unfold Sw71.mode
    rw [decV] at hz
    rw [if_neg (by simpa using hb), if_neg (by rw [hc]; decide), if_neg (by rw [hd]; decide), if_neg (by simpa using hq), if_neg (fun z => by rw [decide_eq_true z.1, z.2] at hz; cases hz)]
    exact hv
def sp_lines_of : Sp := spP (fun x : Sw71.Bar × Sw71.Bar => [rN (Sw71.mode x.1 x.2), rBar x.1, rBar x.2]) (fun x => Cap x.1 ∧ Cap x.2) (fun x => rBars (Sw71.linesOf x.1 x.2))
theorem len_lines_of {vs H Q E} (h : sp_lines_of vs H Q E) : vs.length = 3 := len_P (fun _ => rfl) h
section
variable {K : PySem.W.Frag} {σ : L2.St} {H : Hp} {ta tb te tx : TE} {i : Nat} {v : V}
theorem evr_catK {a b : List Nat} (ha : EvX ta σ H (rKeys a)) (hb : EvX tb σ H (rKeys b)) (hl : a.length + b.length ≤ 100000) : EvR (tOp (rCatA K) ta tb) σ H (rKeys (a ++ b)) := fun H1 e Q q =>
  ha H1 e _ fun x H2 e2 ⟨p, vs, ex, ep, al⟩ => hb H2 (e.trans e2) _ fun y H3 e3 ⟨r, ws, ey, er, bl⟩ => by
    subst ex; subst ey
    cases ints_of.mp al
    cases ints_of.mp bl
    refine ⟨p, r, _, _, rfl, rfl, SqT.of (e3 p _ ep), SqT.of er, sz_of (by simpa using hl), fun h0 => ?_, fun h0 h1 => ?_, fun _ _ l hl => ?_⟩
    · have : a = [] := by simpa using h0
      subst this
      exact q _ H3 (e2.trans e3) ⟨r, _, rfl, er, ints_of.mpr rfl⟩
    · have : b = [] := by simpa using h1
      subst this
      rw [List.append_nil] at q
      exact q _ H3 (e2.trans e3) ⟨p, _, rfl, e3 p _ ep, ints_of.mpr rfl⟩
    · exact q _ _ ((e2.trans e3).trans (Ex.new hl)) ⟨l, _, rfl, upd_same, ints_of.mpr (by rw [List.map_append])⟩
end
theorem decM (a : Nat) (n : Nat) : decide (V.int (a : Int) = V.int (n : Int)) = decide (a = n) := decV a n
theorem ok_lines_of {P : Program} {w : World} {K : PySem.W.Frag} {mg : Str → Option Value} {base : Heap} {CR CS : Addr} (T : Tx K mg CR CS) (A : FunAt K mg "lines_of" s_lines_of ["mode", "one", "other"]) : Dfn P w K mg base "lines_of" 1 ["mode", "one", "other"] (sp_lines_of) := by
  obtain ⟨f, fd, g, F, b⟩ := A
  refine ⟨f, fd, g, F.kp, b, F.ok sc_lines_of (fun vs H Q E h => len_lines_of h) (fun cdv A outer s H vs Q E hr h => ?_)⟩
  obtain ⟨⟨x, y⟩, al, ⟨hp1, hp2⟩, k⟩ := h
  obtain ⟨v0, _, rfl, h0, al⟩ := al.un_cons
  obtain ⟨v1, _, rfl, h1, al⟩ := al.un_cons
  obtain ⟨v2, _, rfl, h2, al⟩ := al.un_cons
  cases al.un_nil
  have m1 := (fl_bar x).mo
  have m2 := (fl_bar y).mo
  have mq : ∀ {σ : L2.St} {H' : Hp} {i n : Nat}, σ[i]? = some (some v0) → EvT (tTest (tOp rEq (tVar i) (tC (.int (n : Int))))) σ H' (decide (Sw71.mode x y = n)) := fun {σ H' i n} hs => et_is (ett (evx_eq (evx_var hs st_V.mo h0) evx_c rfl)) (decV _ _)
  refine ⟨_, (pss_cons (ps_if (pt_cmpR op_eq (pv 0) (pe_cn T.c_BOTH_REST) (nomark _)) (pss_one (ps_ret (pe_lst pa_nil))) pss_nil)
      (pss_cons (ps_if (PW.pt (pw_or (pt_cmpR op_eq (pv 0) (pe_cn T.c_FIRST_ALONE) (nomark _)) (pw_or1 (pt_cmpR op_eq (pv 0) (pe_cn T.c_SAME) (nomark _))))) (pss_one (ps_ret (pe_lst (pa_cons (pv 1) pa_nil)))) pss_nil)
      (pss_cons (ps_if (pt_cmpR op_eq (pv 0) (pe_cn T.c_SECOND_ALONE) (nomark _)) (pss_one (ps_ret (pe_lst (pa_cons (pv 2) pa_nil)))) pss_nil)
      (pss_cons (ps_if (pt_cmpR op_eq (pv 0) (pe_cn T.c_CHORDS) (nomark _)) (pss_one (ps_ret (pe_lst (pa_cons (pe_callTy (tupleOf K) (by rfl) T.tuple (by decide +kernel) (pa_cons (pe_lc (own := [("item", 3), ("beside", 4)]) (g := gTup K 2 (gCons (gName 3) (gCons (gName 4) gNil))) (tt := tYes) rfl sc_lines_of.nd (RZ.pi_zipA (by rfl) T.zip (pa_cons (pv 1) (pa_cons (pv 2) pa_nil))) (blkOk_by (own := [("item", 3), ("beside", 4)]) (N := N_lines_of) (sc := defScope s_lines_of) (by decide +kernel)) (fun _ _ _ _ _ => (pg_tup rfl (pgs_cons (pg_name (i := 3) sc_lines_of.nd rfl (Or.inl rfl)) (pgs_cons (pg_name (i := 4) sc_lines_of.nd rfl (Or.inl rfl)) pgs_nil)))) (fun _ _ _ _ _ => pts_nil) (fun _ _ _ _ _ => (pe_tup (pa_cons (pe_ix (ixT K) (pv 3) pe_int (fun _ _ => rfl)) (pa_cons (pe_op (catA K) (pe_ix (ixT K) (pv 4) pe_int (fun _ _ => rfl)) (pe_ix (ixT K) (pv 3) pe_int (fun _ _ => rfl))) pa_nil))))) pa_nil)) pa_nil)))) pss_nil)
      (pss_one (ps_ret (pe_lst (pa_cons (pv 1) (pa_cons (pv 2) pa_nil))))))))), ?_⟩
  refine q_when (mq (n := 0) rfl) ?_ ?_
  · intro hb H2 e
    refine s_retR evr_nilL fun v H3 e3 hv => k v H3 (e.trans e3) ?_
    show rBars (Sw71.linesOf x y) _ _ _
    unfold Sw71.linesOf
    rw [of_decide_eq_true hb]
    exact st_L no_st |>.back e hv
  intro hb H2 e
  refine q_when (et_or (mq (n := 1) rfl) fun _ => mq (n := 3) rfl) ?_ ?_
  · intro hc H3 e3
    refine s_retR (evr_lst1 ((evx_var rfl m1 (m1 _ _ v1 (e.trans e3) h1)).tr (fl_bar x)) (fl_bar x).st) fun v H4 e4 hv => k v H4 (e.trans (e3.trans e4)) ?_
    show rBars (Sw71.linesOf x y) _ _ _
    have hv := (st_L (one_st (fl_bar x).st)).back (e.trans e3) hv
    unfold Sw71.linesOf
    rcases Bool.or_eq_true _ _ |>.mp hc with hc | hc
    · rw [of_decide_eq_true hc]
      exact hv
    · rw [of_decide_eq_true hc]
      exact hv
  intro hc H3 e3
  refine q_when (mq (n := 2) rfl) ?_ ?_
  · intro hd H4 e4
    refine s_retR (evr_lst1 ((evx_var rfl m2 (m2 _ _ v2 (e.trans (e3.trans e4)) h2)).tr (fl_bar y)) (fl_bar y).st) fun v H5 e5 hv => k v H5 (e.trans (e3.trans (e4.trans e5))) ?_
    show rBars (Sw71.linesOf x y) _ _ _
    have hv := (st_L (one_st (fl_bar y).st)).back (e.trans (e3.trans e4)) hv
    unfold Sw71.linesOf
    rw [of_decide_eq_true hd]
    exact hv
  intro hd H4 e4
  have e04 := e.trans (e3.trans e4)
  have hx : x.length ≤ 60 := hp1.1
  refine q_when (mq (n := 4) rfl) ?_ ?_
  · intro hq H5 e5
    have e05 := e04.trans e5
    refine s_retR (evr_lst1 (evr_tuple (lcZT x y rItem rItem (fun p => rItem ⟨p.1.long, p.2.keys ++ p.1.keys⟩) (evx_var rfl m1 (m1 _ _ v1 e05 h1)) (evx_var rfl m2 (m2 _ _ v2 e05 h2)) (fun a => (fl_item a).mo) (fun a => (fl_item a).mo) (by omega) (fun _ => (fl_item _).st) (fun _ _ => rfl)
      fun a b p q H6 hab e6 hp hq => evr_tup2 (evx_long rfl hp).trV st_V (evr_catK (evx_keys rfl hq) (evx_keys rfl hp) ?_) (fl_keys _).st) (st_map fun _ => (fl_item _).st)) (st_T (st_map fun _ => (fl_item _).st))) fun v H6 e6 hv => k v H6 (e05.trans e6) ?_
    · have ha := hp1.2 a (List.of_mem_zip hab).1
      have hb := hp2.2 b (List.of_mem_zip hab).2
      show b.keys.length + a.keys.length ≤ 100000
      omega
    · have hv := (st_L (one_st (st_T (st_map fun _ => (fl_item _).st)))).back e05 hv
      show rBars (Sw71.linesOf x y) _ _ _
      unfold Sw71.linesOf
      rw [of_decide_eq_true hq]
      have e : (List.map (fun p : Sw71.Item × Sw71.Item => rItem ⟨p.1.long, p.2.keys ++ p.1.keys⟩) (x.zip y)) = ((x.zip y).map fun p : Sw71.Item × Sw71.Item => (⟨p.1.long, p.2.keys ++ p.1.keys⟩ : Sw71.Item)).map rItem := by rw [List.map_map]; rfl
      rw [e] at hv
      exact hv
  · intro hq H5 e5
    have e05 := e04.trans e5
    refine s_retR (evr_lst2 ((evx_var rfl m1 (m1 _ _ v1 e05 h1)).tr (fl_bar x)) (fl_bar x).st ((evx_var rfl m2 (m2 _ _ v2 e05 h2)).tr (fl_bar y)) (fl_bar y).st) fun v H6 e6 hv => k v H6 (e05.trans e6) ?_
    have hv := (st_L (st_two (fl_bar x).st (fl_bar y).st)).back e05 hv
    show rBars (Sw71.linesOf x y) _ _ _
    have hm : ∀ n, n < 5 → Sw71.mode x y ≠ n := fun n hn z => by
      have h0 := of_decide_eq_false hb
      have h2 := of_decide_eq_false hd
      have h4 := of_decide_eq_false hq
      have h13 := Bool.or_eq_false_iff.mp hc
      have h1 := of_decide_eq_false h13.1
      have h3 := of_decide_eq_false h13.2
      omega
    have el : Sw71.linesOf x y = [x, y] := by
      unfold Sw71.linesOf
      have g0 := hm 0 (by omega); have g1 := hm 1 (by omega); have g2 := hm 2 (by omega); have g3 := hm 3 (by omega); have g4 := hm 4 (by omega)
      split <;> first | rfl | (exfalso; omega)
    rw [el]
    exact hv
end Ps

namespace Ps
open PySem PySem.Spec PyProof.Rows L2 Evl

/-! ### a loop over zip of two lists -/
section
variable {K : PySem.W.Frag} {σ : L2.St} {H : Hp} {ta tb : TE} {tu tz : TS} {D : Ends} {g : TG}
theorem q_forZ {a b : Addr} {xs ys : List V} (ha : Ev ta σ H (.ref a)) (hb : Ev tb σ H (.ref b)) (hx : H a = some (.lst xs)) (hy : H b = some (.lst ys)) (Pv : Nat → L2.St → Hp → Prop) (h0 : ∀ H1, Ex H H1 → Pv 0 σ H1) (hl : ∀ i σ' H', Pv i σ' H' → H' a = some (.lst xs) ∧ H' b = some (.lst ys))
    (hs : ∀ i x y T σ' H' H2, xs[i]? = some x → ys[i]? = some y → Pv i σ' H' → Ex H' H2 → H2 T = some (.tup [x, y]) → g (.ref T) σ' H2 fun σ2 H3 => tu { D with nx := Pv (i + 1), ct := Pv (i + 1), bk := tz D } σ2 H3) (hd : ∀ σ' H', Pv (min xs.length ys.length) σ' H' → tz D σ' H') :
    tSeq (tFor (iZip K (tCons ta (tCons tb tNil))) g tu) tz D σ H := ha H (Ex.refl H) _ fun H1 e1 => hb H1 e1 _ fun H2 e2 => by
  have e := e1.trans e2
  refine ⟨a, b, xs, ys, rfl, SqL.of (e a _ hx), SqL.of (e b _ hy), ?_⟩
  refine for_it (D := { D with nx := tz D }) (walk_zip (K := K) (a := a) (b := b) (xs := xs) (ys := ys) rfl) Pv (h0 H2 e) (fun i σ H' _ p => ⟨SqL.of (hl i σ H' p).1, SqL.of (hl i σ H' p).2⟩) (fun i v σ' Ha Hb hi p y => ?_) hd
  obtain ⟨T, x', y', rfl, hT, rfl, h1, h2⟩ := y
  exact hs i x' y' T σ' Ha _ h1 h2 p (Ex.new hT) upd_same
end
/-! ### two staves on one -/
def rBoth (x : Sw71.Both) : Rl := rT [rN x.label, rBars x.lines]
theorem st_both (x : Sw71.Both) : St (rBoth x) := st_T (st_two st_V (st_bars _))
def CapS (l : List Sw71.Bar) : Prop := l.length ≤ 60 ∧ ∀ b ∈ l, Cap b
def sp_put_on_one : Sp := spP (fun x : List Sw71.Bar × List Sw71.Bar => [rBars x.1, rBars x.2]) (fun x => CapL x.1 ∧ CapL x.2) (fun x => rL ((Sw71.together 0 (x.1.zip x.2)).map rBoth))
theorem len_put_on_one {vs H Q E} (h : sp_put_on_one vs H Q E) : vs.length = 2 := len_P (fun _ => rfl) h
/-- a turn: the label, the label in force behind it -/
def lab (m f : Nat) : Nat := if m = 0 ∨ m = 5 ∨ m = f then 0 else m
def fore (m f : Nat) : Nat := if m = 0 ∨ m = 5 ∨ m = f then f else m
theorem together_cons (f : Nat) (a b : Sw71.Bar) (l : List (Sw71.Bar × Sw71.Bar)) : Sw71.together f ((a, b) :: l) = ⟨lab (Sw71.mode a b) f, Sw71.linesOf a b⟩ :: Sw71.together (fore (Sw71.mode a b) f) l := by
  show (if Sw71.mode a b = 0 ∨ Sw71.mode a b = 5 then _ else _) = _
  unfold lab fore
  by_cases h0 : Sw71.mode a b = 0
  · rw [if_pos (Or.inl h0), if_pos (Or.inl h0), if_pos (Or.inl h0)]
  by_cases h5 : Sw71.mode a b = 5
  · rw [if_pos (Or.inr h5), if_pos (Or.inr (Or.inl h5)), if_pos (Or.inr (Or.inl h5))]
  by_cases hf : Sw71.mode a b = f
  · rw [if_neg (by simp [h0, h5]), if_pos (Or.inr (Or.inr hf)), if_pos (Or.inr (Or.inr hf)), if_pos hf, hf]
  · rw [if_neg (by simp [h0, h5]), if_neg (c := Sw71.mode a b = f) hf, if_neg (by simp [h0, h5, hf]), if_neg (by simp [h0, h5, hf])]
theorem vals_of {F : Addr → Prop} {H : Hp} {vs xs : List V} : All2 (fun v (r : Rl) => r F H v) vs (xs.map rV) ↔ vs = xs := by
  rw [all2_map]
  have h := all2_eq (f := fun x : V => x) (xs := vs) (ys := xs)
  rw [List.map_id'] at h
  exact h
theorem in3 (m f : Nat) : inV (.int (m : Int)) [.int 0, .int 5, .int (f : Int)] = decide (m = 0 ∨ m = 5 ∨ m = f) := by
  show ((0 == (m : Int)) || ((5 == (m : Int)) || (((f : Int) == (m : Int)) || false))) = _
  rw [Bool.eq_iff_iff]
  simp
  omega
section
variable {K : PySem.W.Frag} {σ : L2.St} {H : Hp} {ta tb te : TE}
theorem evx_nin {x : V} {xs : List V} (ha : EvX ta σ H (rV x)) (hb : EvX tb σ H (rT (xs.map rV))) (hx : flatV x = true) (hf : xs.all flatV = true) : EvX (tOp (rIn K true) ta tb) σ H (rB (!inV x xs)) := fun H1 e Q q =>
  ha H1 e _ fun x' H2 e2 hx' => hb H2 (e.trans e2) _ fun y' H3 e3 ⟨p, vs, ey, ep, al⟩ => by
    cases hx'; subst ey
    have : vs = xs := vals_of.mp al
    subst this
    exact ⟨p, _, rfl, .inr (SqT.of ep), hx, hf, q _ H3 (e2.trans e3) rfl⟩
theorem evx_inT {x : V} {xs : List V} (ha : EvX ta σ H (rV x)) (hb : EvX tb σ H (rT (xs.map rV))) (hx : flatV x = true) (hf : xs.all flatV = true) : EvX (tOp (rIn K false) ta tb) σ H (rB (inV x xs)) := fun H1 e Q q =>
  ha H1 e _ fun x' H2 e2 hx' => hb H2 (e.trans e2) _ fun y' H3 e3 ⟨p, vs, ey, ep, al⟩ => by
    cases hx'; subst ey
    have : vs = xs := vals_of.mp al
    subst this
    exact ⟨p, _, rfl, .inr (SqT.of ep), hx, hf, q _ H3 (e2.trans e3) rfl⟩
theorem evx_inL {x : V} {xs : List V} (ha : EvX ta σ H (rV x)) (hb : EvX tb σ H (rL (xs.map rV))) (hx : flatV x = true) (hf : xs.all flatV = true) : EvX (tOp (rIn K false) ta tb) σ H (rB (inV x xs)) := fun H1 e Q q =>
  ha H1 e _ fun x' H2 e2 hx' => hb H2 (e.trans e2) _ fun y' H3 e3 ⟨p, vs, ey, _, ep, al⟩ => by
    cases hx'; subst ey
    have : vs = xs := vals_of.mp al
    subst this
    exact ⟨p, _, rfl, .inl (SqL.of ep), hx, hf, q _ H3 (e2.trans e3) rfl⟩
theorem evx_ninL {x : V} {xs : List V} (ha : EvX ta σ H (rV x)) (hb : EvX tb σ H (rL (xs.map rV))) (hx : flatV x = true) (hf : xs.all flatV = true) : EvX (tOp (rIn K true) ta tb) σ H (rB (!inV x xs)) := fun H1 e Q q =>
  ha H1 e _ fun x' H2 e2 hx' => hb H2 (e.trans e2) _ fun y' H3 e3 ⟨p, vs, ey, _, ep, al⟩ => by
    cases hx'; subst ey
    have : vs = xs := vals_of.mp al
    subst this
    exact ⟨p, _, rfl, .inl (SqL.of ep), hx, hf, q _ H3 (e2.trans e3) rfl⟩
end
/-- what stays of a list of relations while the list at D grows: its lists are not at D -/
theorem keep_D {D : Addr} {F : Addr → Prop} {H : Hp} {ys zs : List V} {vs : List V} {rs : List Rl} (hs : ∀ r ∈ rs, St r) (hD : H D = some (.lst ys)) (hF : ∀ a, F a → a ≠ D) (al : All2 (fun v (r : Rl) => r F H v) vs rs) : All2 (fun v (r : Rl) => r F (upd H D (.lst zs)) v) vs rs := by
  refine al.mono fun v r hr h => hs r hr F F H _ v (fun _ z => z) ⟨fun a xs h => ?_, fun a xs f h => ?_⟩ h
  · rw [upd_ne (ne_of h hD (by intro z; cases z))]
    exact h
  · rw [upd_ne (hF a f)]
    exact h
def PoInv (H : Hp) (a b D : Addr) (z : List (Sw71.Bar × Sw71.Bar)) (i : Nat) (σ' : L2.St) (H' : Hp) : Prop := ∃ (f : Nat) (y1 y2 y3 y4 : Option V) (ys : List V) (done : List Sw71.Both), σ' = [some (.ref a), some (.ref b), some (.ref D), some (.int (f : Int)), y1, y2, y3, y4] ∧ Ex H H' ∧ H' D = some (.lst ys) ∧
    All2 (fun v (r : Rl) => r (fun p => H p = none ∧ p ≠ D) H' v) ys (done.map rBoth) ∧ done ++ Sw71.together f (z.drop i) = Sw71.together 0 z ∧ done.length = i
theorem ok_put_on_one {P : Program} {w : World} {K : PySem.W.Frag} {mg : Str → Option Value} {base : Heap} {CR CS : Addr} (T : Tx K mg CR CS) (A : FunAt K mg "put_on_one" s_put_on_one ["ones", "others"]) (D_mode_of : Dfn P w K mg base "mode_of" 2 ["one", "other"] (sp_mode_of)) (D_lines_of : Dfn P w K mg base "lines_of" 1 ["mode", "one", "other"] (sp_lines_of)) : Dfn P w K mg base "put_on_one" 3 ["ones", "others"] (sp_put_on_one) := by
  obtain ⟨f, fd, g, F, b⟩ := A
  obtain ⟨f_mode_of, fd_mode_of, g_mode_of, k_mode_of, b_mode_of, F_mode_of⟩ := D_mode_of
  obtain ⟨f_lines_of, fd_lines_of, g_lines_of, k_lines_of, b_lines_of, F_lines_of⟩ := D_lines_of
  refine ⟨f, fd, g, F.kp, b, F.ok sc_put_on_one (fun vs H Q E h => len_put_on_one h) (fun cdv A outer s H vs Q E hr h => ?_)⟩
  obtain ⟨⟨x, y⟩, al, ⟨hp1, hp2⟩, k⟩ := h
  obtain ⟨v0, _, rfl, h0, al⟩ := al.un_cons
  obtain ⟨v1, _, rfl, h1, al⟩ := al.un_cons
  cases al.un_nil
  replace hp1 : CapL x := hp1
  replace hp2 : CapL y := hp2
  refine ⟨_, (pss_cons (ps_set (i := 2) sc_put_on_one.nd rfl (Or.inl rfl) (pe_lst pa_nil))
      (pss_cons (ps_set (i := 3) sc_put_on_one.nd rfl (Or.inl rfl) pe_int)
      (pss_cons (ps_for PassesOwn.never rfl (pi_zip (by rfl) T.zip (pa_cons (pv 0) (pa_cons (pv 1) pa_nil))) (pg_tup rfl (pgs_cons (pg_name (i := 4) sc_put_on_one.nd rfl (Or.inl rfl)) (pgs_cons (pg_name (i := 5) sc_put_on_one.nd rfl (Or.inl rfl)) pgs_nil))) (pss_cons (ps_set (i := 6) sc_put_on_one.nd rfl (Or.inl rfl) (pe_call F_mode_of (hr.mono (by decide)) (by rfl) g_mode_of k_mode_of b_mode_of .nil pass0 (pa_cons (pv 4) (pa_cons (pv 5) pa_nil))))
        (pss_cons (ps_set (i := 7) sc_put_on_one.nd rfl (Or.inl rfl) pe_int)
        (pss_cons (ps_if (pt_cmpR (ninS K) (pv 6) (pe_tup (pa_cons (pe_cn T.c_BOTH_REST) (pa_cons (pe_cn T.c_APART) (pa_cons (pv 3) pa_nil)))) (by rfl)) (pss_cons (ps_set (i := 7) sc_put_on_one.nd rfl (Or.inl rfl) (pv 6))
          (pss_one (ps_set (i := 3) sc_put_on_one.nd rfl (Or.inl rfl) (pv 6)))) pss_nil)
        (pss_one (ps_expr (pe_bm PySem.F.plainAttrs_list PySem.F.slot_list_append PySem.F.type_list_append mt_append (pv 2) (pa_cons (pe_tup (pa_cons (pv 7) (pa_cons (pe_call F_lines_of (hr.mono (by decide)) (by rfl) g_lines_of k_lines_of b_lines_of .nil pass0 (pa_cons (pv 6) (pa_cons (pv 4) (pa_cons (pv 5) pa_nil)))) pa_nil))) pa_nil))))))))
      (pss_one (ps_ret (pv 2)))))), ?_⟩
  refine q_asgR evr_nilL fun D H1 e1 hD => ?_
  obtain ⟨D, vs, rfl, nD, hD, al⟩ := hD
  cases al.un_nil
  refine q_asgX evx_c fun z H2 e2 hz => ?_
  cases hz
  have e02 := e1.trans e2
  obtain ⟨a, vs, rfl, _, ha, al0⟩ := h0
  obtain ⟨b, ws, rfl, _, hb, bl0⟩ := h1
  have lv : vs.length = x.length := by rw [al0.1, List.length_map]
  have lw : ws.length = y.length := by rw [bl0.1, List.length_map]
  refine q_forZ (xs := vs) (ys := ws) (ev_var rfl) (ev_var rfl) (e02 a _ ha) (e02 b _ hb) (PoInv H a b D (x.zip y)) ?_ (fun i σ' H' ⟨_, _, _, _, _, _, _, _, e, _⟩ => ⟨e a _ ha, e b _ hb⟩) ?_ ?_
  · exact fun H3 e3 => ⟨0, none, none, none, none, [], [], rfl, e02.trans e3, e3 D _ (e2 D _ hD), All2.nil, rfl, rfl⟩
  · rintro i u1 u2 T σ' Ha Hb hi1 hi2 ⟨f, y1, y2, y3, y4, ys, done, rfl, e, hD', al3, hd, hl⟩ eb hT
    obtain ⟨q1, hq1, hu1⟩ := al0.get' hi1
    obtain ⟨q2, hq2, hu2⟩ := bl0.get' hi2
    rw [List.getElem?_map] at hq1 hq2
    cases ex : x[i]? with
    | none => rw [ex] at hq1; cases hq1
    | some b1 =>
    cases ey : y[i]? with
    | none => rw [ey] at hq2; cases hq2
    | some b2 =>
    rw [ex] at hq1; rw [ey] at hq2
    cases hq1; cases hq2
    have m1 := (fl_bar b1).mo
    have m2 := (fl_bar b2).mo
    have c1 := hp1.2 b1 (List.mem_of_getElem? ex)
    have c2 := hp2.2 b2 (List.mem_of_getElem? ey)
    have hu1' := m1 _ _ u1 (e.trans eb) hu1
    have hu2' := m2 _ _ u2 (e.trans eb) hu2
    refine g_pair (SqT.of hT) _ ?_
    refine q_asgR (evr_call (b1, b2) ⟨c1.1, c2.1⟩ st_V (xa_cons (evx_var rfl m1 hu1') m1 (xa_cons (evx_var rfl m2 hu2') m2 xa_nil))) fun vm H3 e3 hm => ?_
    cases hm
    refine q_asgX evx_c fun z H4 e4 hz => ?_
    cases hz
    have tail : ∀ H5, Ex H4 H5 → tDrop (tBM K "list" rAppend (tVar 2) (tCons (tTup (tCons (tVar 7) (tCons (tCall sp_lines_of [] E0 (tCons (tVar 6) (tCons (tVar 4) (tCons (tVar 5) tNil)))) tNil))) tNil)) { nx := PoInv H a b D (x.zip y) (i + 1), rt := Q }
        [some (.ref a), some (.ref b), some (.ref D), some (.int (fore (Sw71.mode b1 b2) f : Nat)), some u1, some u2, some (.int (Sw71.mode b1 b2 : Nat)), some (.int (lab (Sw71.mode b1 b2) f : Nat))] H5 := fun H5 e5 => by
      have eb5 := e3.trans (e4.trans e5)
      have hD5 := eb5 D _ (eb D _ hD')
      refine s_appR hD5 (ev_var rfl) (evr_tup2 (evv_var rfl).trV st_V (evr_call (b1, b2) ⟨c1, c2⟩ (st_bars _) (xa_cons (evv_var rfl) st_V.mo (xa_cons (evx_var rfl m1 (m1 _ _ u1 eb5 hu1')) m1 (xa_cons (evx_var rfl m2 (m2 _ _ u2 eb5 hu2')) m2 xa_nil)))) (st_bars _)) (st_both ⟨lab (Sw71.mode b1 b2) f, Sw71.linesOf b1 b2⟩) ?_ fun v H6 e6 hv => ?_
      · rw [al3.1, List.length_map]
        have : i < x.length := (List.getElem?_eq_some_iff.mp ex).1
        have := hp1.1
        exact sz_lt (by omega)
      · have e56 := eb.trans (eb5.trans e6)
        have hD6 := e6 D _ hD5
        refine ⟨_, _, _, _, _, _, done ++ [⟨lab (Sw71.mode b1 b2) f, Sw71.linesOf b1 b2⟩], rfl, Ex.mut (e.trans e56) nD, upd_same, ?_, ?_, by rw [List.length_append, hl]; rfl⟩
        · rw [List.map_append]
          refine keep_D (ys := ys) ?_ hD6 (fun a h => h.2) (All2.snoc (al3.mono fun v r hr h => ?_) ?_)
          · intro r hr
            rcases List.mem_append.mp hr with hr | hr
            · exact st_map st_both r hr
            · exact one_st (st_both _) r hr
          · exact (st_map st_both r hr).ex e56 h
          · refine st_both _ _ _ H6 H6 v (fun p hp => ⟨fresh_back (e.trans (eb.trans eb5)) hp, fun z => ?_⟩) Tr.rf hv
            subst z
            rw [show H5 p = none from hp] at hD5
            cases hD5
        · rw [← hd]
          have hz : (x.zip y)[i]? = some (b1, b2) := by rw [List.getElem?_zip_eq_some]; exact ⟨ex, ey⟩
          rw [List.drop_eq_getElem_cons (List.getElem?_eq_some_iff.mp hz).1, (List.getElem?_eq_some_iff.mp hz).2, together_cons, List.append_assoc]
          rfl
    have hv3 : ∀ {σ : L2.St} {H' : Hp}, σ[6]? = some (some (.int (Sw71.mode b1 b2 : Nat))) → σ[3]? = some (some (.int (f : Int))) → EvT (tTest (tOp (rIn K true) (tVar 6) (tTup (tCons (tC (.int 0)) (tCons (tC (.int 5)) (tCons (tVar 3) tNil)))))) σ H' (!decide (Sw71.mode b1 b2 = 0 ∨ Sw71.mode b1 b2 = 5 ∨ Sw71.mode b1 b2 = f)) := fun s6 s3 => by
      rw [← in3]
      exact ett (evx_nin (evv_var s6) (EvR.tx (evr_tup3 evr_c st_V evr_c st_V (evv_var s3).trV st_V) (st_T (three_st st_V st_V st_V))) rfl rfl)
    refine q_when (hv3 rfl rfl) ?_ ?_
    · intro hb5 H5 e5
      have hn : ¬ (Sw71.mode b1 b2 = 0 ∨ Sw71.mode b1 b2 = 5 ∨ Sw71.mode b1 b2 = f) := by simpa using hb5
      refine q_asgX (evv_var rfl) fun z H6 e6 hz => ?_
      cases hz
      refine s_asgX (evv_var rfl) fun z H7 e7 hz => ?_
      cases hz
      have t := tail H7 (e5.trans (e6.trans e7))
      rw [show lab (Sw71.mode b1 b2) f = Sw71.mode b1 b2 from if_neg hn, show fore (Sw71.mode b1 b2) f = Sw71.mode b1 b2 from if_neg hn] at t
      exact t
    · intro hb5 H5 e5
      have hn : (Sw71.mode b1 b2 = 0 ∨ Sw71.mode b1 b2 = 5 ∨ Sw71.mode b1 b2 = f) := of_decide_eq_true (by cases hq : decide (Sw71.mode b1 b2 = 0 ∨ Sw71.mode b1 b2 = 5 ∨ Sw71.mode b1 b2 = f) <;> rw [hq] at hb5 <;> first | rfl | cases hb5)
      have t := tail H5 e5
      rw [show lab (Sw71.mode b1 b2) f = 0 from if_pos hn, show fore (Sw71.mode b1 b2) f = f from if_pos hn] at t
      exact t
  · rintro σ' H' ⟨f, y1, y2, y3, y4, ys, done, rfl, e, hD', al3, hd, hl⟩
    refine s_retX (evv_var rfl) fun v H3 e3 hv => ?_
    cases hv
    refine k _ H3 (e.trans e3) ⟨D, ys, rfl, nD, e3 D _ hD', ?_⟩
    have : (x.zip y).drop (min vs.length ws.length) = [] := List.drop_eq_nil_of_le (by rw [List.length_zip, lv, lw]; exact Nat.le_refl _)
    rw [this] at hd
    have hd' : done = Sw71.together 0 (x.zip y) := by
      have : Sw71.together f [] = [] := by cases f <;> rfl
      rw [this, List.append_nil] at hd
      exact hd
    show All2 _ ys ((Sw71.together 0 (x.zip y)).map rBoth)
    rw [← hd']
    exact al3.mono fun v r hr h => st_map st_both r hr _ _ H' H3 v (fun p hp => hp.1) (Tr.ex e3) h
end Ps

namespace Ps
open PySem PySem.Spec PyProof.Rows L2 Evl

/-! ### parted -/
def forTwo (b : Sw71.Bar) : Bool := b.all fun x => x.keys.isEmpty || decide (x.keys.length = 2)
def sp_is_for_two : Sp := spP (fun x => [rBar x]) (fun x => x.length ≤ 60) (fun x => rB (forTwo x))
theorem len_is_for_two {vs H Q E} (h : sp_is_for_two vs H Q E) : vs.length = 1 := len_P (fun _ => rfl) h
theorem in2 (ks : List Nat) : inV (.int (ks.length : Int)) [.int 0, .int 2] = (ks.isEmpty || decide (ks.length = 2)) := by
  show ((0 == (ks.length : Int)) || ((2 == (ks.length : Int)) || false)) = _
  rw [Bool.eq_iff_iff]
  cases ks with
  | nil => simp
  | cons a r => simp; omega
theorem ok_is_for_two {P : Program} {w : World} {K : PySem.W.Frag} {mg : Str → Option Value} {base : Heap} {CR CS : Addr} (T : Tx K mg CR CS) (A : FunAt K mg "is_for_two" s_is_for_two ["line"]) : Dfn P w K mg base "is_for_two" 1 ["line"] (sp_is_for_two) := by
  obtain ⟨f, fd, g, F, b⟩ := A
  refine ⟨f, fd, g, F.kp, b, F.ok sc_is_for_two (fun vs H Q E h => len_is_for_two h) (fun cdv A outer s H vs Q E hr h => ?_)⟩
  obtain ⟨x, al, hp, k⟩ := h
  obtain ⟨v0, _, rfl, h0, al⟩ := al.un_cons
  cases al.un_nil
  refine ⟨_, (pss_one (ps_ret (pe_callB (allS K rfl) (by rfl) T.all (by decide +kernel) (pa_cons (pe_lc (own := [("item", 1)]) (g := gName 1) (tt := tYes) rfl sc_is_for_two.nd (piT K (pv 0)) (blkOk_by (own := [("item", 1)]) (N := N_is_for_two) (sc := defScope s_is_for_two) (by decide +kernel)) (fun _ _ _ _ _ => (pg_name (i := 1) sc_is_for_two.nd rfl (Or.inl rfl))) (fun _ _ _ _ _ => pts_nil) (fun _ _ _ _ _ => (pe_cmpR (inS K) (pe_callB (lenS K) (by rfl) T.len PySem.boot_len (pa_cons (pe_ix (ixT K) (pv 1) pe_int (fun _ _ => rfl)) pa_nil)) (pe_tup (pa_cons pe_int (pa_cons pe_int pa_nil))) (by rfl)))) pa_nil)))), ?_⟩
  have mk := (fl_bar x).mo
  exact s_retX (evx_allM (EvR.tx (lcT x rItem (fun n => rB (n.keys.isEmpty || decide (n.keys.length = 2))) (evx_var rfl mk h0) (fun a => (fl_item a).mo) (by omega) (fun _ => st_V) (fun _ => rfl)
      fun a v H2 hn e hv => ((evx_inT (xs := [.int 0, .int 2]) (evx_lenK (evx_keys rfl hv)) (EvR.tx (evr_tup2 evr_c st_V evr_c st_V) (st_T (st_two st_V st_V))) rfl rfl).is (by rw [in2])).trV) (st_L (st_map fun _ => st_V)))) fun v H3 e3 hv => k v H3 e3 hv
def rightBar (label : Nat) (lines : List Sw71.Bar) (g n : Nat) : Bool :=
  if (decide (2 < lines.length) || !(lines.all (Sw71.barOk n))) = true then false else if lines.length ≠ 1 then decide (label = 0)
  else decide (1 ≤ g) && (decide (g ≤ 4) && (!decide (g = 4) || forTwo (lines.getD 0 [])))
def sp_is_right_bar : Sp := spP (fun x : Nat × List Sw71.Bar × Nat × Nat => [rN x.1, rBars x.2.1, rN x.2.2.1, rN x.2.2.2]) (fun x => CapL x.2.1) (fun x => rB (rightBar x.1 x.2.1 x.2.2.1 x.2.2.2))
theorem len_is_right_bar {vs H Q E} (h : sp_is_right_bar vs H Q E) : vs.length = 4 := len_P (fun _ => rfl) h
theorem decLe (a b : Nat) : decide ((a : Int) ≤ (b : Int)) = decide (a ≤ b) := by
  rw [Bool.eq_iff_iff]
  simp only [decide_eq_true_eq]
  omega
theorem bars_get {l : List Sw71.Bar} {i : Nat} (h : i < l.length) : (l.map rBar)[i]? = some (rBar (l.getD i [])) := by
  rw [List.getElem?_map, List.getElem?_eq_getElem h, List.getD_eq_getElem?_getD, List.getElem?_eq_getElem h]
  rfl
theorem ok_is_right_bar {P : Program} {w : World} {K : PySem.W.Frag} {mg : Str → Option Value} {base : Heap} {CR CS : Addr} (T : Tx K mg CR CS) (A : FunAt K mg "is_right_bar" s_is_right_bar ["label", "lines", "in_force", "length"]) (D_is_bar : Dfn P w K mg base "is_bar" 2 ["bar", "length"] (sp_is_bar)) (D_is_for_two : Dfn P w K mg base "is_for_two" 1 ["line"] (sp_is_for_two)) : Dfn P w K mg base "is_right_bar" 3 ["label", "lines", "in_force", "length"] (sp_is_right_bar) := by
  obtain ⟨f, fd, g, F, b⟩ := A
  obtain ⟨f_is_bar, fd_is_bar, g_is_bar, k_is_bar, b_is_bar, F_is_bar⟩ := D_is_bar
  obtain ⟨f_is_for_two, fd_is_for_two, g_is_for_two, k_is_for_two, b_is_for_two, F_is_for_two⟩ := D_is_for_two
  refine ⟨f, fd, g, F.kp, b, F.ok sc_is_right_bar (fun vs H Q E h => len_is_right_bar h) (fun cdv A outer s H vs Q E hr h => ?_)⟩
  obtain ⟨⟨lb, ls, g0, n⟩, al, hp, k⟩ := h
  replace hp : CapL ls := hp
  obtain ⟨v0, _, rfl, h0, al⟩ := al.un_cons
  obtain ⟨v1, _, rfl, h1, al⟩ := al.un_cons
  obtain ⟨v2, _, rfl, h2, al⟩ := al.un_cons
  obtain ⟨v3, _, rfl, h3, al⟩ := al.un_cons
  cases al.un_nil
  cases h0; cases h2; cases h3
  refine ⟨_, (pss_cons (ps_if (PW.pt (pw_or (pt_cmpR op_gt (pe_callB (lenS K) (by rfl) T.len PySem.boot_len (pa_cons (pv 1) pa_nil)) pe_int (nomark _)) (pw_or1 (pt_not (pt_val (pe_callB (allS K rfl) (by rfl) T.all (by decide +kernel) (pa_cons (pe_lc (own := [("line", 4)]) (g := gName 4) (tt := tYes) rfl sc_is_right_bar.nd (piL K (pv 1)) (blkOk_by (own := [("line", 4)]) (N := N_is_right_bar) (sc := defScope s_is_right_bar) (by decide +kernel)) (fun _ _ _ _ _ => (pg_name (i := 4) sc_is_right_bar.nd rfl (Or.inl rfl))) (fun _ _ _ _ _ => pts_nil) (fun _ _ _ _ _ => (pe_call F_is_bar (hr.mono (by decide)) (by rfl) g_is_bar k_is_bar b_is_bar .nil pass0 (pa_cons (pv 4) (pa_cons (pv 3) pa_nil))))) pa_nil))))))) (pss_one (ps_ret pe_bl)) pss_nil)
      (pss_cons (ps_if (pt_cmpR op_ne (pe_callB (lenS K) (by rfl) T.len PySem.boot_len (pa_cons (pv 1) pa_nil)) pe_int (nomark _)) (pss_one (ps_ret (pe_cmpR op_eq (pv 0) pe_int (nomark _)))) pss_nil)
      (pss_one (ps_ret (pe_and (pe_cmpR op_le pe_int (pv 2) (nomark _)) (pe_and (pe_cmpR op_le (pv 2) (pe_cn T.c_CHORDS) (nomark _)) (pe_one (pe_or (pe_cmpR op_ne (pv 2) (pe_cn T.c_CHORDS) (nomark _)) (pe_one (pe_call F_is_for_two (hr.mono (by decide)) (by rfl) g_is_for_two k_is_for_two b_is_for_two .nil pass0 (pa_cons (pe_ix (ixL K) (pv 1) pe_int (fun _ _ => rfl)) pa_nil))))))))))), ?_⟩
  have mk := (st_bars ls).mo
  have hc : ls.length ≤ 60 := hp.1
  refine q_when (b := decide (2 < ls.length) || !(ls.all (Sw71.barOk n)))
    (et_or (et_is (ett ((evx_I0 (evx_lenL (evx_var rfl mk h1)) evx_c))) (by rw [List.length_map]; exact decL 2 ls.length)) fun _ => et_not (etb (evx_allM (EvR.tx (lcL ls rBar (fun b => rB (Sw71.barOk n b)) (evx_var rfl mk h1) (fun a => (fl_bar a).mo) (by omega) (fun _ => st_V) (fun _ => rfl)
      fun a v H2 hn e hv => evr_call (a, n) (hp.2 a hn) st_V (xa_cons (evx_var rfl (fl_bar a).mo hv) (fl_bar a).mo (xa_cons (evv_var rfl) st_V.mo xa_nil))) (st_L (st_map fun _ => st_V)))))) ?_ ?_
  · intro hb H2 e
    refine s_retR evr_c fun v H3 e3 hv => k v H3 (e.trans e3) ?_
    show v = .bl (rightBar lb ls g0 n)
    rw [rightBar, if_pos hb]
    exact hv
  intro hb H2 e
  have h1' := mk _ _ v1 e h1
  refine q_when (b := !decide (ls.length = 1)) (et_is (ett (evx_ne (evx_lenL (evx_var rfl mk h1')) evx_c rfl)) (by rw [List.length_map]; exact congrArg not (decV ls.length 1))) ?_ ?_
  · intro hc H3 e3
    refine s_retX (evx_eq (evv_var rfl) evx_c rfl) fun v H4 e4 hv => k v H4 (e.trans (e3.trans e4)) ?_
    show v = .bl (rightBar lb ls g0 n)
    rw [rightBar, if_neg (by rw [hb]; decide), if_pos (by simpa using hc), ← decV]
    exact hv
  · intro hc H3 e3
    have hl1 : ls.length = 1 := by simpa using hc
    have h1'' := mk _ _ v1 e3 h1'
    refine s_retX (evx_andV (evx_I0 evx_c (evv_var rfl)) fun _ => evx_andV (evx_I0 (evv_var rfl) evx_c) fun _ => evx_orV (evx_ne (evv_var rfl) evx_c rfl) fun _ => EvR.txV (evr_call (ls.getD 0 []) (hp.2 _ (by
        rw [List.getD_eq_getElem?_getD, List.getElem?_eq_getElem (by omega : 0 < ls.length)]
        exact List.getElem_mem _)).1 st_V (xa_cons (evx_ixL (j := 0) (evx_var rfl mk h1'') evx_c rfl (bars_get (by omega)) (mo_map fun b => (fl_bar b).mo)) (fl_bar _).mo xa_nil))) fun v H4 e4 hv => k v H4 (e.trans (e3.trans e4)) ?_
    show v = .bl (rightBar lb ls g0 n)
    rw [rightBar, if_neg (by rw [hb]; decide), if_neg (by omega), ← decLe, ← decLe, ← decV]
    exact hv
def voiceOf (b : Sw71.Bar) (n : Nat) : Sw71.Bar := b.map fun x => ⟨x.long, (x.keys.drop n).take 1⟩
def sp_voice_of : Sp := spP (fun x : Sw71.Bar × Nat => [rBar x.1, rN x.2]) (fun x => x.1.length ≤ 60) (fun x => rBar (voiceOf x.1 x.2))
theorem len_voice_of {vs H Q E} (h : sp_voice_of vs H Q E) : vs.length = 2 := len_P (fun _ => rfl) h
section
variable {K : PySem.W.Frag} {σ : L2.St} {H : Hp} {te tl th : TE}
theorem cut_keys (ks : List Nat) (n m : Nat) : cutV (ks.map nV) (some (n : Int)) (some (m : Int)) = ((ks.drop n).take (m - n)).map nV := by
  unfold cutV
  rw [HT.sIx_nat, HT.sIx_nat, List.length_map, ← List.map_drop, ← List.map_take]
  congr 1
  by_cases h : n ≤ ks.length
  · rw [Nat.min_eq_left h]
    by_cases h2 : m ≤ ks.length
    · rw [Nat.min_eq_left h2]
    · rw [Nat.min_eq_right (by omega), List.take_of_length_le (by rw [List.length_drop]; exact Nat.le_refl _), List.take_of_length_le (by rw [List.length_drop]; omega)]
  · rw [List.drop_of_length_le (by omega), List.drop_of_length_le (by omega), List.take_nil, List.take_nil]
theorem evr_slK {ks : List Nat} {n m : Nat} (h : EvX te σ H (rKeys ks)) (hl : EvX tl σ H (rN n)) (hh : EvX th σ H (rN m)) : EvR (tSl (rSlA K) te (tPart tl) (tPart th)) σ H (rKeys ((ks.drop n).take (m - n))) := fun H1 e Q q =>
  h H1 e _ fun x H2 e2 ⟨p, vs, ex, ep, al⟩ => hl H2 (e.trans e2) _ fun y H3 e3 hy => ⟨n, hy, hh H3 ((e.trans e2).trans e3) _ fun z H4 e4 hz => ⟨m, hz, by
    subst ex
    cases ints_of.mp al
    have e24 := e3.trans e4
    refine ⟨p, _, rfl, SqT.of (e24 p _ ep), fun hw => ?_, fun _ l hl => ?_⟩
    · rw [HT.sIx_nat, HT.sIx_nat, List.length_map] at hw
      have : (ks.drop n).take (m - n) = ks := by
        have h1 : ks.drop n = ks := by
          by_cases h0 : n = 0
          · rw [h0]; rfl
          · have : ks.length = 0 := by omega
            have := List.eq_nil_of_length_eq_zero this
            subst this
            simp
        rw [h1]
        refine List.take_of_length_le ?_
        by_cases h0 : n = 0
        · omega
        · have : ks.length = 0 := by omega
          omega
      rw [this] at q
      exact q _ H4 (e2.trans e24) ⟨p, _, rfl, e24 p _ ep, ints_of.mpr rfl⟩
    · exact q _ _ ((e2.trans e24).trans (Ex.new hl)) ⟨l, _, rfl, upd_same, ints_of.mpr (cut_keys ks n m)⟩⟩⟩
end
theorem ok_voice_of {P : Program} {w : World} {K : PySem.W.Frag} {mg : Str → Option Value} {base : Heap} {CR CS : Addr} (T : Tx K mg CR CS) (A : FunAt K mg "voice_of" s_voice_of ["line", "voice"]) : Dfn P w K mg base "voice_of" 1 ["line", "voice"] (sp_voice_of) := by
  obtain ⟨f, fd, g, F, b⟩ := A
  refine ⟨f, fd, g, F.kp, b, F.ok sc_voice_of (fun vs H Q E h => len_voice_of h) (fun cdv A outer s H vs Q E hr h => ?_)⟩
  obtain ⟨⟨x, n⟩, al, hp, k⟩ := h
  replace hp : x.length ≤ 60 := hp
  obtain ⟨v0, _, rfl, h0, al⟩ := al.un_cons
  obtain ⟨v1, _, rfl, h1, al⟩ := al.un_cons
  cases al.un_nil
  cases h1
  refine ⟨_, (pss_one (ps_ret (pe_callTy (tupleOf K) (by rfl) T.tuple (by decide +kernel) (pa_cons (pe_lc (own := [("item", 2)]) (g := gName 2) (tt := tYes) rfl sc_voice_of.nd (piT K (pv 0)) (blkOk_by (own := [("item", 2)]) (N := N_voice_of) (sc := defScope s_voice_of) (by decide +kernel)) (fun _ _ _ _ _ => (pg_name (i := 2) sc_voice_of.nd rfl (Or.inl rfl))) (fun _ _ _ _ _ => pts_nil) (fun _ _ _ _ _ => (pe_tup (pa_cons (pe_ix (ixT K) (pv 2) pe_int (fun _ _ => rfl)) (pa_cons (pe_slice (slT K) (pe_ix (ixT K) (pv 2) pe_int (fun _ _ => rfl)) (po_some (pv 1)) (po_some (pe_op op_add (pv 1) pe_int))) pa_nil))))) pa_nil)))), ?_⟩
  have mk := (fl_bar x).mo
  refine s_retR (evr_tuple (lcT x rItem (fun a => rItem ⟨a.long, (a.keys.drop n).take 1⟩) (evx_var rfl mk h0) (fun a => (fl_item a).mo) (by omega) (fun _ => (fl_item _).st) (fun _ => rfl)
      fun a v H2 hn e hv => evr_tup2 (evx_long rfl hv).trV st_V ((evr_slK (n := n) (m := n + 1) (evx_keys rfl hv) (evv_var rfl) (evx_I0 (i := (n : Int)) (j := 1) (evv_var rfl) evx_c)).is (by rw [Nat.add_sub_cancel_left])) (fl_keys _).st) (st_map fun _ => (fl_item _).st)) fun v H3 e3 hv => k v H3 e3 ?_
  show rT ((voiceOf x n).map rItem) _ _ _
  unfold voiceOf
  rw [List.map_map]
  exact hv
def twoLine (b : Sw71.Bar) (g n : Nat) : Sw71.Bar × Sw71.Bar := if g = 1 then (b, [⟨n, []⟩]) else if g = 2 then ([⟨n, []⟩], b) else if g = 3 then (b, b) else (voiceOf b 1, voiceOf b 0)
def rPair (p : Sw71.Bar × Sw71.Bar) : Rl := rT [rBar p.1, rBar p.2]
theorem fl_pair (p : Sw71.Bar × Sw71.Bar) : Fl (rPair p) := fl_T (fl_two (fl_bar _) (fl_bar _))
def sp_two_of_line : Sp := spP (fun x : Sw71.Bar × Nat × Nat => [rBar x.1, rN x.2.1, rN x.2.2]) (fun x => x.1.length ≤ 60) (fun x => rPair (twoLine x.1 x.2.1 x.2.2))
theorem len_two_of_line {vs H Q E} (h : sp_two_of_line vs H Q E) : vs.length = 3 := len_P (fun _ => rfl) h
theorem ok_two_of_line {P : Program} {w : World} {K : PySem.W.Frag} {mg : Str → Option Value} {base : Heap} {CR CS : Addr} (T : Tx K mg CR CS) (A : FunAt K mg "two_of_line" s_two_of_line ["line", "in_force", "length"]) (D_rest_of : Dfn P w K mg base "rest_of" 1 ["length"] (sp_rest_of)) (D_voice_of : Dfn P w K mg base "voice_of" 1 ["line", "voice"] (sp_voice_of)) : Dfn P w K mg base "two_of_line" 2 ["line", "in_force", "length"] (sp_two_of_line) := by
  obtain ⟨f, fd, g, F, b⟩ := A
  obtain ⟨f_rest_of, fd_rest_of, g_rest_of, k_rest_of, b_rest_of, F_rest_of⟩ := D_rest_of
  obtain ⟨f_voice_of, fd_voice_of, g_voice_of, k_voice_of, b_voice_of, F_voice_of⟩ := D_voice_of
  refine ⟨f, fd, g, F.kp, b, F.ok sc_two_of_line (fun vs H Q E h => len_two_of_line h) (fun cdv A outer s H vs Q E hr h => ?_)⟩
  obtain ⟨⟨x, g0, n⟩, al, hp, k⟩ := h
  replace hp : x.length ≤ 60 := hp
  obtain ⟨v0, _, rfl, h0, al⟩ := al.un_cons
  obtain ⟨v1, _, rfl, h1, al⟩ := al.un_cons
  obtain ⟨v2, _, rfl, h2, al⟩ := al.un_cons
  cases al.un_nil
  cases h1; cases h2
  refine ⟨_, (pss_cons (ps_if (pt_cmpR op_eq (pv 1) (pe_cn T.c_FIRST_ALONE) (nomark _)) (pss_one (ps_ret (pe_tup (pa_cons (pv 0) (pa_cons (pe_call F_rest_of (hr.mono (by decide)) (by rfl) g_rest_of k_rest_of b_rest_of .nil pass0 (pa_cons (pv 2) pa_nil)) pa_nil))))) pss_nil)
      (pss_cons (ps_if (pt_cmpR op_eq (pv 1) (pe_cn T.c_SECOND_ALONE) (nomark _)) (pss_one (ps_ret (pe_tup (pa_cons (pe_call F_rest_of (hr.mono (by decide)) (by rfl) g_rest_of k_rest_of b_rest_of .nil pass0 (pa_cons (pv 2) pa_nil)) (pa_cons (pv 0) pa_nil))))) pss_nil)
      (pss_cons (ps_if (pt_cmpR op_eq (pv 1) (pe_cn T.c_SAME) (nomark _)) (pss_one (ps_ret (pe_tup (pa_cons (pv 0) (pa_cons (pv 0) pa_nil))))) pss_nil)
      (pss_one (ps_ret (pe_tup (pa_cons (pe_call F_voice_of (hr.mono (by decide)) (by rfl) g_voice_of k_voice_of b_voice_of .nil pass0 (pa_cons (pv 0) (pa_cons pe_int pa_nil))) (pa_cons (pe_call F_voice_of (hr.mono (by decide)) (by rfl) g_voice_of k_voice_of b_voice_of .nil pass0 (pa_cons (pv 0) (pa_cons pe_int pa_nil))) pa_nil)))))))), ?_⟩
  have mk := (fl_bar x).mo
  have sb := fun b => (fl_bar b).st
  have vx : ∀ {H' : Hp}, Ex H H' → EvR (tVar 0) (start N_two_of_line [v0, .int (g0 : Int), .int (n : Int)]) H' (rBar x) := fun e => (evx_var rfl mk (mk _ _ v0 e h0)).tr (fl_bar x)
  have rs : ∀ {H' : Hp}, EvR (tCall sp_rest_of [] E0 (tCons (tVar 2) tNil)) (start N_two_of_line [v0, .int (g0 : Int), .int (n : Int)]) H' (rBar [⟨n, []⟩]) := fun {H'} => evr_call n trivial (sb _) (xa_cons (evv_var rfl) st_V.mo xa_nil)
  have vc : ∀ {H' : Hp} {c : Nat}, Ex H H' → EvR (tCall sp_voice_of [] E0 (tCons (tVar 0) (tCons (tC (.int (c : Int))) tNil))) (start N_two_of_line [v0, .int (g0 : Int), .int (n : Int)]) H' (rBar (voiceOf x c)) := fun {H' c} e => evr_call (x, c) hp (sb _) (xa_cons (evx_var rfl mk (mk _ _ v0 e h0)) mk (xa_cons evx_c st_V.mo xa_nil))
  have fin : ∀ (p : Sw71.Bar × Sw71.Bar) {H' : Hp} {v : V} {H3 : Hp}, twoLine x g0 n = p → Ex H H' → Ex H' H3 → rT [rBar p.1, rBar p.2] (New H') H3 v → Q v H3 := fun p H' v H3 hp e e3 hv => k v H3 (e.trans e3) (by
    show rPair (twoLine x g0 n) _ _ _
    rw [hp]
    exact (fl_pair p).any hv)
  have tq : ∀ {H' : Hp} {c : Nat}, EvT (tTest (tOp rEq (tVar 1) (tC (.int (c : Int))))) (start N_two_of_line [v0, .int (g0 : Int), .int (n : Int)]) H' (decide (g0 = c)) := fun {H' c} => et_is (ett (evx_eq (evv_var rfl) evx_c rfl)) (decV _ _)
  refine q_when (tq (c := 1)) ?_ ?_
  · exact fun hb H2 e => s_retR (evr_tup2 (vx e) (sb _) rs (sb _)) fun v H3 e3 hv => fin (x, [⟨n, []⟩]) (by rw [twoLine, if_pos (of_decide_eq_true hb)]) e e3 hv
  intro hb H2 e
  have n1 := of_decide_eq_false hb
  refine q_when (tq (c := 2)) ?_ ?_
  · exact fun hc H3 e3 => s_retR (evr_tup2 rs (sb _) (vx (e.trans e3)) (sb _)) fun v H4 e4 hv => fin ([⟨n, []⟩], x) (by rw [twoLine, if_neg n1, if_pos (of_decide_eq_true hc)]) (e.trans e3) e4 hv
  intro hc H3 e3
  have n2 := of_decide_eq_false hc
  refine q_when (tq (c := 3)) ?_ ?_
  · exact fun hd H4 e4 => s_retR (evr_tup2 (vx (e.trans (e3.trans e4))) (sb _) (vx (e.trans (e3.trans e4))) (sb _)) fun v H5 e5 hv => fin (x, x) (by rw [twoLine, if_neg n1, if_neg n2, if_pos (of_decide_eq_true hd)]) (e.trans (e3.trans e4)) e5 hv
  intro hd H4 e4
  have n3 := of_decide_eq_false hd
  exact s_retR (evr_tup2 (vc (c := 1) (e.trans (e3.trans e4))) (sb _) (vc (c := 0) (e.trans (e3.trans e4))) (sb _)) fun v H5 e5 hv => fin (voiceOf x 1, voiceOf x 0) (by rw [twoLine, if_neg n1, if_neg n2, if_neg n3]) (e.trans (e3.trans e4)) e5 hv
def twoOf (ls : List Sw71.Bar) (g n : Nat) : Sw71.Bar × Sw71.Bar := if ls = [] then ([⟨n, []⟩], [⟨n, []⟩]) else if ls.length = 2 then (ls.getD 0 [], ls.getD 1 []) else twoLine (ls.getD 0 []) g n
def sp_two_of : Sp := spP (fun x : List Sw71.Bar × Nat × Nat => [rBars x.1, rN x.2.1, rN x.2.2]) (fun x => CapL x.1) (fun x => rPair (twoOf x.1 x.2.1 x.2.2))
theorem len_two_of {vs H Q E} (h : sp_two_of vs H Q E) : vs.length = 3 := len_P (fun _ => rfl) h
theorem ok_two_of {P : Program} {w : World} {K : PySem.W.Frag} {mg : Str → Option Value} {base : Heap} {CR CS : Addr} (T : Tx K mg CR CS) (A : FunAt K mg "two_of" s_two_of ["lines", "in_force", "length"]) (D_rest_of : Dfn P w K mg base "rest_of" 1 ["length"] (sp_rest_of)) (D_two_of_line : Dfn P w K mg base "two_of_line" 2 ["line", "in_force", "length"] (sp_two_of_line)) : Dfn P w K mg base "two_of" 3 ["lines", "in_force", "length"] (sp_two_of) := by
  obtain ⟨f, fd, g, F, b⟩ := A
  obtain ⟨f_rest_of, fd_rest_of, g_rest_of, k_rest_of, b_rest_of, F_rest_of⟩ := D_rest_of
  obtain ⟨f_two_of_line, fd_two_of_line, g_two_of_line, k_two_of_line, b_two_of_line, F_two_of_line⟩ := D_two_of_line
  refine ⟨f, fd, g, F.kp, b, F.ok sc_two_of (fun vs H Q E h => len_two_of h) (fun cdv A outer s H vs Q E hr h => ?_)⟩
  obtain ⟨⟨x, g0, n⟩, al, hp, k⟩ := h
  replace hp : CapL x := hp
  obtain ⟨v0, _, rfl, h0, al⟩ := al.un_cons
  obtain ⟨v1, _, rfl, h1, al⟩ := al.un_cons
  obtain ⟨v2, _, rfl, h2, al⟩ := al.un_cons
  cases al.un_nil
  cases h1; cases h2
  refine ⟨_, (pss_cons (ps_if (pt_cmpR (eqD K hr.units) (pv 0) (pe_lst pa_nil) (nomark _)) (pss_one (ps_ret (pe_tup (pa_cons (pe_call F_rest_of (hr.mono (by decide)) (by rfl) g_rest_of k_rest_of b_rest_of .nil pass0 (pa_cons (pv 2) pa_nil)) (pa_cons (pe_call F_rest_of (hr.mono (by decide)) (by rfl) g_rest_of k_rest_of b_rest_of .nil pass0 (pa_cons (pv 2) pa_nil)) pa_nil))))) pss_nil)
      (pss_cons (ps_if (pt_cmpR op_eq (pe_callB (lenS K) (by rfl) T.len PySem.boot_len (pa_cons (pv 0) pa_nil)) pe_int (nomark _)) (pss_one (ps_ret (pe_tup (pa_cons (pe_ix (ixL K) (pv 0) pe_int (fun _ _ => rfl)) (pa_cons (pe_ix (ixL K) (pv 0) pe_int (fun _ _ => rfl)) pa_nil))))) pss_nil)
      (pss_one (ps_ret (pe_call F_two_of_line (hr.mono (by decide)) (by rfl) g_two_of_line k_two_of_line b_two_of_line .nil pass0 (pa_cons (pe_ix (ixL K) (pv 0) pe_int (fun _ _ => rfl)) (pa_cons (pv 1) (pa_cons (pv 2) pa_nil)))))))), ?_⟩
  have mk := (st_bars x).mo
  have sb := fun b => (fl_bar b).st
  have fin : ∀ (p : Sw71.Bar × Sw71.Bar) {H' : Hp} {v : V} {H3 : Hp}, twoOf x g0 n = p → Ex H H' → Ex H' H3 → rPair p (New H') H3 v → Q v H3 := fun p H' v H3 hp e e3 hv => k v H3 (e.trans e3) (by
    show rPair (twoOf x g0 n) _ _ _
    rw [hp]
    exact (fl_pair p).any hv)
  have rs : ∀ {H' : Hp}, EvR (tCall sp_rest_of [] E0 (tCons (tVar 2) tNil)) (start N_two_of [v0, .int (g0 : Int), .int (n : Int)]) H' (rBar [⟨n, []⟩]) := fun {H'} => evr_call n trivial (sb _) (xa_cons (evv_var rfl) st_V.mo xa_nil)
  have ix : ∀ {H' : Hp} {c : Nat}, Ex H H' → c < x.length → EvX (tOp (rIxL K) (tVar 0) (tC (.int (c : Int)))) (start N_two_of [v0, .int (g0 : Int), .int (n : Int)]) H' (rBar (x.getD c [])) := fun {H' c} e hc => evx_ixL (j := c) (evx_var rfl mk (mk _ _ v0 e h0)) evx_c rfl (bars_get hc) (mo_map fun b => (fl_bar b).mo)
  refine q_when (b := x.isEmpty) (et_is (ett (evx_eqD (evx_var rfl mk h0) (evr_nilL.tx (st_L no_st)) mk (fun _ _ h => dp_bars h) (fun _ _ h => dp_bars (l := []) h) (sh_list (sh_map sh_bar)) (sh_list (n := 0) (fun _ h => by cases h)))) (by rw [List.map_nil, eqv_nilL]; cases x <;> rfl)) ?_ ?_
  · exact fun hb H2 e => s_retR (evr_tup2 rs (sb _) rs (sb _)) fun v H3 e3 hv => fin ([⟨n, []⟩], [⟨n, []⟩]) (by rw [twoOf, if_pos (by simpa using hb)]) e e3 hv
  intro hb H2 e
  have n1 : ¬ x = [] := by intro z; subst z; cases hb
  have l1 : 0 < x.length := List.length_pos_iff.mpr n1
  refine q_when (b := decide (x.length = 2)) (et_is (ett (evx_eq (evx_lenL (evx_var rfl mk (mk _ _ v0 e h0))) evx_c rfl)) (by rw [List.length_map]; exact decV _ 2)) ?_ ?_
  · intro hc H3 e3
    have l2 := of_decide_eq_true hc
    exact s_retR (evr_tup2 ((ix (c := 0) (e.trans e3) l1).tr (fl_bar _)) (sb _) ((ix (c := 1) (e.trans e3) (by omega)).tr (fl_bar _)) (sb _)) fun v H4 e4 hv => fin (x.getD 0 [], x.getD 1 []) (by rw [twoOf, if_neg n1, if_pos l2]) (e.trans e3) e4 hv
  · intro hc H3 e3
    have l2 := of_decide_eq_false hc
    exact s_retR (evr_call (x.getD 0 [], g0, n) (hp.2 _ (by
        rw [List.getD_eq_getElem?_getD, List.getElem?_eq_getElem l1]
        exact List.getElem_mem _)).1 (fl_pair _).st (xa_cons (ix (c := 0) (e.trans e3) l1) (fl_bar _).mo (xa_cons (evv_var rfl) st_V.mo (xa_cons (evv_var rfl) st_V.mo xa_nil)))) fun v H4 e4 hv => fin (twoLine (x.getD 0 []) g0 n) (by rw [twoOf, if_neg n1, if_neg l2]) (e.trans e3) e4 hv
end Ps

namespace Ps
open PySem PySem.Spec PyProof.Rows L2 Evl

/-! ### parted: one bar and the rest -/
def foreP (x : Sw71.Both) (f : Nat) : Nat := if x.label = 0 then f else x.label
theorem drop1_take1 {ks : List Nat} (h : (ks.isEmpty || decide (ks.length = 2)) = true) : (ks.drop 1).take 1 = ks.drop 1 := by
  match ks, h with
  | [], _ => rfl
  | [a, b], _ => rfl
  | [a], h => simp at h
  | a :: b :: c :: r, h => simp at h
theorem halves_some {b : Sw71.Bar} (h : forTwo b = true) : Sw71.halves b = some (voiceOf b 1, voiceOf b 0) := by
  unfold Sw71.halves
  rw [if_pos (show (b.all fun x => x.keys.isEmpty || decide (x.keys.length = 2)) = true from h)]
  unfold voiceOf
  congr 1
  refine Prod.ext ?_ rfl
  refine List.map_congr_left fun x hx => ?_
  have := List.all_eq_true.mp h x hx
  rw [drop1_take1 this]
theorem halves_none {b : Sw71.Bar} (h : forTwo b = false) : Sw71.halves b = none := by
  unfold Sw71.halves
  rw [if_neg (by rw [show (b.all fun x => x.keys.isEmpty || decide (x.keys.length = 2)) = false from h]; decide)]
theorem restBar_pos {n : Nat} (h : 1 ≤ n) : Sw71.restBar n = [⟨n, []⟩] := by
  unfold Sw71.restBar
  rw [if_neg (by omega)]
theorem opt_map_if {α β : Type} {c : Bool} {o : Option α} {f : α → β} : (if c = true then o.map f else none) = if c = true then o.map f else none := rfl
theorem parted_cons {n : Nat} {ns : List Nat} {f : Nat} {x : Sw71.Both} {l : List Sw71.Both} (hn : 1 ≤ n) :
    Sw71.parted (n :: ns) f (x :: l) = if rightBar x.label x.lines (foreP x f) n = true then (Sw71.parted ns (foreP x f) l).map fun r => twoOf x.lines (foreP x f) n :: r else none := by
  obtain ⟨lb, ls⟩ := x
  unfold rightBar
  match ls with
  | [] =>
    show (if lb ≠ 0 then none else _) = _
    by_cases h : lb = 0
    · subst h
      simp [foreP, twoOf, restBar_pos hn]
    · simp [h]
  | [a] =>
    show (if Sw71.barOk n a = false then none else _) = _
    cases hb : Sw71.barOk n a with
    | false => simp [hb]
    | true =>
      have hg : (if lb = 0 then f else lb) = foreP ⟨lb, [a]⟩ f := rfl
      simp only [hg]
      generalize foreP ⟨lb, [a]⟩ f = g
      by_cases h1 : g = 1
      · subst h1; simp [hb, twoOf, twoLine, restBar_pos hn]
      by_cases h2 : g = 2
      · subst h2; simp [hb, twoOf, twoLine, restBar_pos hn]
      by_cases h3 : g = 3
      · subst h3; simp [hb, twoOf, twoLine]
      by_cases h4 : g = 4
      · subst h4
        cases hf : forTwo a with
        | true => simp [hb, twoOf, twoLine, hf, halves_some hf]
        | false => simp [hb, hf, halves_none hf]
      · have : ¬ (1 ≤ g ∧ g ≤ 4) := by omega
        simp [hb, h1, h2, h3, h4]
        intro a1 a2
        omega
  | [a, b] =>
    show (if lb ≠ 0 ∨ Sw71.barOk n a = false ∨ Sw71.barOk n b = false then none else _) = _
    by_cases h : lb = 0
    · subst h
      cases ha : Sw71.barOk n a <;> cases hb : Sw71.barOk n b <;> simp [ha, hb, foreP, twoOf]
    · simp [h]
  | a :: b :: c :: r =>
    show none = _
    simp
def rParted (o : Option (List (Sw71.Bar × Sw71.Bar))) : Rl := match o with
  | none => rV .non
  | some r => rL (r.map rPair)
theorem st_parted (o : Option (List (Sw71.Bar × Sw71.Bar))) : St (rParted o) := by
  cases o with
  | none => exact st_V
  | some r => exact st_L (st_map fun p => (fl_pair p).st)
def sp_parted : Sp := spP (fun x : List Sw71.Both × List Nat => [rL (x.1.map rBoth), rNs x.2]) (fun x => x.1.length = x.2.length ∧ (∀ n ∈ x.2, 1 ≤ n) ∧ x.2.length ≤ 60 ∧ ∀ y ∈ x.1, CapL y.lines) (fun x => rParted (Sw71.parted x.2 0 x.1))
theorem len_parted {vs H Q E} (h : sp_parted vs H Q E) : vs.length = 2 := len_P (fun _ => rfl) h
def PaInv (H : Hp) (a b D : Addr) (ns : List Nat) (l : List Sw71.Both) (i : Nat) (σ' : L2.St) (H' : Hp) : Prop := ∃ (f : Nat) (y1 y2 y3 : Option V) (ys : List V) (done : List (Sw71.Bar × Sw71.Bar)), σ' = [some (.ref a), some (.ref b), some (.ref D), some (.int (f : Int)), y1, y2, y3] ∧ Ex H H' ∧ H' D = some (.lst ys) ∧
    All2 (fun v (r : Rl) => r Any H' v) ys (done.map rPair) ∧ Sw71.parted ns 0 l = (Sw71.parted (ns.drop i) f (l.drop i)).map (fun r => done ++ r) ∧ done.length = i
theorem keep_fl {D : Addr} {F : Addr → Prop} {H : Hp} {ys zs : List V} {vs : List V} {rs : List Rl} (hs : ∀ r ∈ rs, Fl r) (hD : H D = some (.lst ys)) (al : All2 (fun v (r : Rl) => r F H v) vs rs) : All2 (fun v (r : Rl) => r F (upd H D (.lst zs)) v) vs rs := by
  refine al.mono fun v r hr h => hs r hr F F H _ v (fun a xs h => ?_) h
  rw [upd_ne (ne_of h hD (by intro z; cases z))]
  exact h
theorem ok_parted {P : Program} {w : World} {K : PySem.W.Frag} {mg : Str → Option Value} {base : Heap} {CR CS : Addr} (T : Tx K mg CR CS) (A : FunAt K mg "parted" s_parted ["bars", "lengths"]) (D_is_right_bar : Dfn P w K mg base "is_right_bar" 3 ["label", "lines", "in_force", "length"] (sp_is_right_bar)) (D_two_of : Dfn P w K mg base "two_of" 3 ["lines", "in_force", "length"] (sp_two_of)) : Dfn P w K mg base "parted" 4 ["bars", "lengths"] (sp_parted) := by
  obtain ⟨f, fd, g, F, b⟩ := A
  obtain ⟨f_is_right_bar, fd_is_right_bar, g_is_right_bar, k_is_right_bar, b_is_right_bar, F_is_right_bar⟩ := D_is_right_bar
  obtain ⟨f_two_of, fd_two_of, g_two_of, k_two_of, b_two_of, F_two_of⟩ := D_two_of
  refine ⟨f, fd, g, F.kp, b, F.ok sc_parted (fun vs H Q E h => len_parted h) (fun cdv A outer s H vs Q E hr h => ?_)⟩
  obtain ⟨⟨x, ns⟩, al, ⟨hlen, hpos, hcap, hls⟩, k⟩ := h
  obtain ⟨v0, _, rfl, h0, al⟩ := al.un_cons
  obtain ⟨v1, _, rfl, h1, al⟩ := al.un_cons
  cases al.un_nil
  replace hlen : x.length = ns.length := hlen
  replace hcap : ns.length ≤ 60 := hcap
  refine ⟨_, (pss_cons (ps_set (i := 2) sc_parted.nd rfl (Or.inl rfl) (pe_lst pa_nil))
      (pss_cons (ps_set (i := 3) sc_parted.nd rfl (Or.inl rfl) pe_int)
      (pss_cons (ps_for PassesOwn.never rfl (pi_zip (by rfl) T.zip (pa_cons (pv 0) (pa_cons (pv 1) pa_nil))) (pg_tup rfl (pgs_cons (pg_tup rfl (pgs_cons (pg_name (i := 4) sc_parted.nd rfl (Or.inl rfl)) (pgs_cons (pg_name (i := 5) sc_parted.nd rfl (Or.inl rfl)) pgs_nil))) (pgs_cons (pg_name (i := 6) sc_parted.nd rfl (Or.inl rfl)) pgs_nil))) (pss_cons (ps_if (pt_cmpR op_ne (pv 4) pe_int (nomark _)) (pss_one (ps_set (i := 3) sc_parted.nd rfl (Or.inl rfl) (pv 4))) pss_nil)
        (pss_cons (ps_if (pt_not (pt_val (pe_call F_is_right_bar (hr.mono (by decide)) (by rfl) g_is_right_bar k_is_right_bar b_is_right_bar .nil pass0 (pa_cons (pv 4) (pa_cons (pv 5) (pa_cons (pv 3) (pa_cons (pv 6) pa_nil))))))) (pss_one (ps_ret pe_non)) pss_nil)
        (pss_one (ps_expr (pe_bm PySem.F.plainAttrs_list PySem.F.slot_list_append PySem.F.type_list_append mt_append (pv 2) (pa_cons (pe_call F_two_of (hr.mono (by decide)) (by rfl) g_two_of k_two_of b_two_of .nil pass0 (pa_cons (pv 5) (pa_cons (pv 3) (pa_cons (pv 6) pa_nil)))) pa_nil)))))))
      (pss_one (ps_ret (pv 2)))))), ?_⟩
  refine q_asgR evr_nilL fun D H1 e1 hD => ?_
  obtain ⟨D, vs, rfl, nD, hD, al⟩ := hD
  cases al.un_nil
  refine q_asgX evx_c fun z H2 e2 hz => ?_
  cases hz
  have e02 := e1.trans e2
  obtain ⟨a, vs, rfl, _, ha, al0⟩ := h0
  obtain ⟨b, ws, rfl, _, hb, bl0⟩ := h1
  have lv : vs.length = x.length := by rw [al0.1, List.length_map]
  have lw : ws.length = ns.length := by rw [bl0.1, List.length_map]
  refine q_forZ (xs := vs) (ys := ws) (ev_var rfl) (ev_var rfl) (e02 a _ ha) (e02 b _ hb) (PaInv H a b D ns x) ?_ (fun i σ' H' ⟨_, _, _, _, _, _, _, e, _⟩ => ⟨e a _ ha, e b _ hb⟩) ?_ ?_
  · exact fun H3 e3 => ⟨0, none, none, none, [], [], rfl, e02.trans e3, e3 D _ (e2 D _ hD), All2.nil, by simp, rfl⟩
  · rintro i u1 u2 T σ' Ha Hb hi1 hi2 ⟨f, y1, y2, y3, ys, done, rfl, e, hD', al3, hd, hl⟩ eb hT
    obtain ⟨q1, hq1, hu1⟩ := al0.get' hi1
    obtain ⟨q2, hq2, hu2⟩ := bl0.get' hi2
    rw [List.getElem?_map] at hq1 hq2
    cases ex : x[i]? with
    | none => rw [ex] at hq1; cases hq1
    | some x1 =>
    cases ey : ns[i]? with
    | none => rw [ey] at hq2; cases hq2
    | some n =>
    rw [ex] at hq1; rw [ey] at hq2
    cases hq1; cases hq2
    cases hu2
    have c1 := hls x1 (List.mem_of_getElem? ex)
    have hn := hpos n (List.mem_of_getElem? ey)
    have hu1' := (st_both x1).mo _ _ u1 (e.trans eb) hu1
    obtain ⟨p, ws1, rfl, hp1, al2⟩ := hu1'
    obtain ⟨w1, _, rfl, hw1, al2⟩ := al2.un_cons
    obtain ⟨w2, _, rfl, hw2, al2⟩ := al2.un_cons
    cases al2.un_nil
    cases hw1
    have dx : x.drop i = x1 :: x.drop (i + 1) := by
      rw [List.drop_eq_getElem_cons (List.getElem?_eq_some_iff.mp ex).1, (List.getElem?_eq_some_iff.mp ex).2]
    have dn : ns.drop i = n :: ns.drop (i + 1) := by
      rw [List.drop_eq_getElem_cons (List.getElem?_eq_some_iff.mp ey).1, (List.getElem?_eq_some_iff.mp ey).2]
    rw [dx, dn, parted_cons hn] at hd
    have ml := (st_bars x1.lines).mo
    refine ⟨T, [.ref p, .int (n : Int)], rfl, SqT.of hT, rfl, .ref p, [.int (n : Int)], rfl, p, [.int (x1.label : Int), w2], rfl, SqT.of hp1, rfl, .int (x1.label : Int), [w2], rfl, w2, [], rfl, rfl, .int (n : Int), [], rfl, rfl, ?_⟩
    have tail : ∀ H5, Ex Hb H5 → tSeq (tIfS (tNot (tB (tCall sp_is_right_bar [] E0 (tCons (tVar 4) (tCons (tVar 5) (tCons (tVar 3) (tCons (tVar 6) tNil))))))) (tRet (tC .non)) tNext) (tDrop (tBM K "list" rAppend (tVar 2) (tCons (tCall sp_two_of [] E0 (tCons (tVar 5) (tCons (tVar 3) (tCons (tVar 6) tNil)))) tNil)))
        { nx := PaInv H a b D ns x (i + 1), rt := Q } [some (.ref a), some (.ref b), some (.ref D), some (.int (foreP x1 f : Nat)), some (.int (x1.label : Int)), some w2, some (.int (n : Int))] H5 := fun H5 e5 => by
      have hw5 := ml _ _ w2 e5 hw2
      refine q_when (et_not (etb (EvR.txV (evr_call (x1.label, x1.lines, foreP x1 f, n) c1 st_V (xa_cons (evv_var rfl) st_V.mo (xa_cons (evx_var rfl ml hw5) ml (xa_cons (evv_var rfl) st_V.mo (xa_cons (evv_var rfl) st_V.mo xa_nil)))))))) ?_ ?_
      · intro hb5 H6 e6
        refine s_retR evr_c fun v H7 e7 hv => ?_
        refine k v H7 (e.trans (eb.trans (e5.trans (e6.trans e7)))) ?_
        have hf : rightBar x1.label x1.lines (foreP x1 f) n = false := by simpa using hb5
        show rParted (Sw71.parted ns 0 x) _ _ _
        rw [hd, hf]
        exact hv
      · intro hb5 H6 e6
        have hf : rightBar x1.label x1.lines (foreP x1 f) n = true := by simpa using hb5
        have hD5 := e6 D _ (e5 D _ (eb D _ hD'))
        rw [if_pos hf] at hd
        have e56 := eb.trans (e5.trans e6)
        refine s_appR hD5 (ev_var rfl) (evr_call (x1.lines, foreP x1 f, n) c1 (fl_pair _).st (xa_cons (evx_var rfl ml (ml _ _ w2 e6 hw5)) ml (xa_cons (evv_var rfl) st_V.mo (xa_cons (evv_var rfl) st_V.mo xa_nil)))) (fl_pair (twoOf x1.lines (foreP x1 f) n)).st ?_ fun v H7 e7 hv => ?_
        · rw [al3.1, List.length_map]
          have : i < x.length := (List.getElem?_eq_some_iff.mp ex).1
          exact sz_lt (by omega)
        · refine ⟨_, _, _, _, _, done ++ [twoOf x1.lines (foreP x1 f) n], rfl, Ex.mut (e.trans (e56.trans e7)) nD, upd_same, ?_, ?_, by rw [List.length_append, hl]; rfl⟩
          · rw [List.map_append]
            refine keep_fl (ys := ys) ?_ (e7 D _ hD5) (All2.snoc (al3.mono fun v r hr h => (fl_map fl_pair r hr).ex (e56.trans e7) h) ((fl_pair _).any hv))
            intro r hr
            rcases List.mem_append.mp hr with hr | hr
            · exact fl_map fl_pair r hr
            · exact one_fl (fl_pair _) r hr
          · rw [hd, Option.map_map]
            congr 1
            funext r
            show done ++ (twoOf x1.lines (foreP x1 f) n :: r) = (done ++ [twoOf x1.lines (foreP x1 f) n]) ++ r
            rw [List.append_assoc]
            rfl
    refine q_when (b := !decide (x1.label = 0)) (et_is (ett (evx_ne (evv_var rfl) evx_c rfl)) (congrArg not (decV x1.label 0))) ?_ ?_
    · intro hb5 H5 e5
      have hn0 : x1.label ≠ 0 := by simpa using hb5
      refine s_asgX (evv_var rfl) fun z H6 e6 hz => ?_
      cases hz
      have t := tail H6 (e5.trans e6)
      rw [show foreP x1 f = x1.label from if_neg hn0] at t
      exact t
    · intro hb5 H5 e5
      have hn0 : x1.label = 0 := by simpa using hb5
      have t := tail H5 e5
      rw [show foreP x1 f = f from if_pos hn0] at t
      exact t
  · rintro σ' H' ⟨f, y1, y2, y3, ys, done, rfl, e, hD', al3, hd, hl⟩
    refine s_retX (evv_var rfl) fun v H3 e3 hv => ?_
    cases hv
    refine k _ H3 (e.trans e3) ?_
    have d1 : x.drop (min vs.length ws.length) = [] := List.drop_eq_nil_of_le (by omega)
    have d2 : ns.drop (min vs.length ws.length) = [] := List.drop_eq_nil_of_le (by omega)
    rw [d1, d2] at hd
    have hd' : Sw71.parted ns 0 x = some done := by
      rw [hd]
      show some (done ++ []) = some done
      rw [List.append_nil]
    show rParted (Sw71.parted ns 0 x) _ _ _
    rw [hd']
    exact ⟨D, ys, rfl, nD, e3 D _ hD', al3.mono fun v r hr h => (fl_map fl_pair r hr).ex e3 h⟩
end Ps

namespace Ps
open PySem PySem.Spec PyProof.Rows L2 Evl

/-! ### the score as an object -/
def scF (la ba sa : Addr) : List (Str × V) := [("lengths", .ref la), ("breaks", .ref ba), ("staves", .ref sa)]
def rSc (C : Addr) (s : Sw71.Score) : Rl := fun F H v => ∃ (a dx la ba sa : Addr) (svs : List V), v = .ref a ∧ H a = some (.ins C dx (scF la ba sa)) ∧ F la ∧ F ba ∧ F sa ∧ sa ≠ la ∧ sa ≠ ba ∧ H la = some (.lst (s.bars.map nV)) ∧ H ba = some (.lst (s.breaks.map nV)) ∧
  H sa = some (.lst svs) ∧ All2 (fun v l => rBars l (fun p => F p ∧ p ≠ sa) H v) svs s.staves
theorem mo_sc (C : Addr) (s : Sw71.Score) : Mo (rSc C s) := by
  rintro H H' v e ⟨a, dx, la, ba, sa, svs, rfl, h1, f1, f2, f3, n1, n2, h2, h3, h4, al⟩
  exact ⟨a, dx, la, ba, sa, svs, rfl, e a _ h1, f1, f2, f3, n1, n2, e la _ h2, e ba _ h3, e sa _ h4, al.mono fun v l _ h => (st_bars l).ex e h⟩
theorem lkS_here {k : Str} {v : V} {r : List (Str × V)} : List.lookup k ((k, v) :: r) = some v := by
  have e : (k == k) = true := beq_self_eq_true k
  simp only [List.lookup, e]
theorem lkS_past {k g : Str} {v : V} {r : List (Str × V)} (h : (k == g) = false) : List.lookup k ((g, v) :: r) = List.lookup k r := by simp only [List.lookup, h]
theorem scF_lengths {la ba sa : Addr} : (scF la ba sa).lookup ("lengths" : Str) = some (V.ref la) := lkS_here
theorem scF_breaks {la ba sa : Addr} : (scF la ba sa).lookup ("breaks" : Str) = some (V.ref ba) := (lkS_past (by decide +kernel)).trans lkS_here
theorem scF_staves {la ba sa : Addr} : (scF la ba sa).lookup ("staves" : Str) = some (V.ref sa) := (lkS_past (by decide +kernel)).trans ((lkS_past (by decide +kernel)).trans lkS_here)
theorem scF_no {la ba sa : Addr} {m : Str} (h1 : (m == ("lengths" : Str)) = false) (h2 : (m == ("breaks" : Str)) = false) (h3 : (m == ("staves" : Str)) = false) : (scF la ba sa).lookup m = none := (lkS_past h1).trans ((lkS_past h2).trans ((lkS_past h3).trans rfl))
theorem obj_sc {C : Addr} {m : Str} {s : Sw71.Score} (h1 : (m == ("lengths" : Str)) = false := by decide +kernel) (h2 : (m == ("breaks" : Str)) = false := by decide +kernel) (h3 : (m == ("staves" : Str)) = false := by decide +kernel) : Obj C m (rSc C s) := by
  rintro H v ⟨a, dx, la, ba, sa, svs, rfl, h, _⟩
  exact ⟨a, dx, _, rfl, h, scF_no h1 h2 h3⟩
section
variable {K : PySem.W.Frag} {mg : Str → Option Value} {CR CS : Addr} {σ : L2.St} {H : Hp} {ta tb te tx : TE} {s : Sw71.Score}
theorem evx_lengths (T : Tx K mg CR CS) (h : EvX te σ H (rSc CS s)) : EvX (tFld K te "lengths") σ H (rNs s.bars) := fun H1 e Q q =>
  h H1 e _ fun v H2 e2 ⟨a, dx, la, ba, sa, svs, ev, h1, f1, f2, f3, n1, n2, h2, h3, h4, al⟩ =>
    ⟨a, CS, dx, _, _, ev, h1, T.cl_score, T.n_lengths, scF_lengths, q _ H2 e2 ⟨la, _, rfl, trivial, h2, ints_of.mpr rfl⟩⟩
theorem evx_breaks (T : Tx K mg CR CS) (h : EvX te σ H (rSc CS s)) : EvX (tFld K te "breaks") σ H (rNs s.breaks) := fun H1 e Q q =>
  h H1 e _ fun v H2 e2 ⟨a, dx, la, ba, sa, svs, ev, h1, f1, f2, f3, n1, n2, h2, h3, h4, al⟩ =>
    ⟨a, CS, dx, _, _, ev, h1, T.cl_score, T.n_breaks, scF_breaks, q _ H2 e2 ⟨ba, _, rfl, trivial, h3, ints_of.mpr rfl⟩⟩
theorem evx_staves (T : Tx K mg CR CS) (h : EvX te σ H (rSc CS s)) : EvX (tFld K te "staves") σ H (rL (s.staves.map rBars)) := fun H1 e Q q =>
  h H1 e _ fun v H2 e2 ⟨a, dx, la, ba, sa, svs, ev, h1, f1, f2, f3, n1, n2, h2, h3, h4, al⟩ =>
    ⟨a, CS, dx, _, _, ev, h1, T.cl_score, T.n_staves, scF_staves, q _ H2 e2 ⟨sa, svs, rfl, trivial, h4, all2_map.mpr (al.mono fun v l _ h => (st_bars l).any h)⟩⟩
theorem evx_staff (T : Tx K mg CR CS) {k : Nat} (h : EvX te σ H (rSc CS s)) (hk : EvX tb σ H (rN k)) (hl : k < s.staves.length) : EvX (tOp (rIxL K) (tFld K te "staves") tb) σ H (rBars ((s.staves[k]?).getD [])) :=
  evx_ixL (j := k) (evx_staves T h) hk rfl (by rw [List.getElem?_map, List.getElem?_eq_getElem hl]; rfl) (mo_map fun l => (st_bars l).mo)
theorem evx_barAt (T : Tx K mg CR CS) {k i : Nat} (h : EvX te σ H (rSc CS s)) (hk : EvX tb σ H (rN k)) (hi : EvX tx σ H (rN i)) (hl : k < s.staves.length) (hi2 : i < ((s.staves[k]?).getD []).length) : EvX (tOp (rIxL K) (tOp (rIxL K) (tFld K te "staves") tb) tx) σ H (rBar (s.barAt k i)) :=
  evx_ixL (j := i) (evx_staff T h hk hl) hi rfl (bars_get hi2) (mo_map fun l => (fl_bar l).mo)
end
def Cap2 (b : Sw71.Bar) : Prop := b.length ≤ 20 ∧ ∀ x ∈ b, x.keys.length ≤ 6
theorem Cap2.cap {b : Sw71.Bar} (h : Cap2 b) : Cap b := ⟨Nat.le_trans h.1 (by decide), fun x hx => Nat.le_trans (h.2 x hx) (by decide)⟩
structure Wf (s : Sw71.Score) : Prop where
  many : s.bars.length ≤ 40
  pos : ∀ n ∈ s.bars, 1 ≤ n
  few : s.staves.length ≤ 8
  len : ∀ st ∈ s.staves, st.length = s.bars.length
  cap2 : ∀ st ∈ s.staves, ∀ b ∈ st, Cap2 b
theorem Wf.cap {s : Sw71.Score} (w : Wf s) : ∀ st ∈ s.staves, ∀ b ∈ st, Cap b := fun st hs b hb => (w.cap2 st hs b hb).cap
theorem Wf.staff {s : Sw71.Score} (w : Wf s) {k : Nat} (h : k < s.staves.length) : (s.staves[k]?).getD [] ∈ s.staves := by
  rw [List.getElem?_eq_getElem h]
  exact List.getElem_mem _
theorem Wf.len_at {s : Sw71.Score} (w : Wf s) {k : Nat} (h : k < s.staves.length) : ((s.staves[k]?).getD []).length = s.bars.length := w.len _ (w.staff h)
theorem Wf.capL {s : Sw71.Score} (w : Wf s) {k : Nat} (h : k < s.staves.length) : CapL ((s.staves[k]?).getD []) := ⟨by rw [w.len_at h]; have := w.many; omega, w.cap _ (w.staff h)⟩
theorem Wf.cap2_at {s : Sw71.Score} (w : Wf s) {k i : Nat} (h : k < s.staves.length) (hi : i < s.bars.length) : Cap2 (s.barAt k i) := by
  refine w.cap2 _ (w.staff h) _ ?_
  unfold Sw71.Score.barAt
  have hl : i < ((s.staves[k]?).getD []).length := by rw [w.len_at h]; exact hi
  rw [List.getD_eq_getElem?_getD, List.getElem?_eq_getElem hl]
  exact List.getElem_mem _
theorem Wf.cap_at {s : Sw71.Score} (w : Wf s) {k i : Nat} (h : k < s.staves.length) (hi : i < s.bars.length) : Cap (s.barAt k i) := (w.cap2_at h hi).cap
/-- what stays: all but the addresses of F -/
def Keep (F : Addr → Prop) (H H' : Hp) : Prop := ∀ b o, ¬ F b → H b = some o → H' b = some o
def sp_Score___init__ (CS : Addr) : Sp := fun vs H Q _ => ∃ (p dx la ba : Addr), vs = [.ref p, .ref la, .ref ba] ∧ H p = some (.ins CS dx []) ∧
  ∀ H' sa, H' p = some (.ins CS dx (scF la ba sa)) → H sa = none → H' sa = some (.lst []) → (∀ b o, b ≠ p → H b = some o → H' b = some o) → Q .non H'
theorem len_Score___init__ {CS vs H Q E} (h : sp_Score___init__ CS vs H Q E) : vs.length = 3 := by
  obtain ⟨p, dx, la, ba, rfl, _⟩ := h
  rfl
theorem put_here {f : Str} {v x : V} {r : List (Str × V)} : putF f v ((f, x) :: r) = (f, v) :: r := if_pos rfl
theorem put_past {f g : Str} {v x : V} {r : List (Str × V)} (h : ¬ g = f) : putF f v ((g, x) :: r) = (g, x) :: putF f v r := if_neg h
theorem ok_Score___init__ {P : Program} {w : World} {K : PySem.W.Frag} {mg : Str → Option Value} {base : Heap} {CR CS : Addr} (T : Tx K mg CR CS) (A : FunI K CS "Score.__init__" s_Score___init__ ["self", "lengths", "breaks"]) : Mki P w K mg base CS 1 ["self", "lengths", "breaks"] (sp_Score___init__ CS) := by
  obtain ⟨f, fd, mk, F, b⟩ := A
  refine ⟨f, fd, mk, b, F.ok sc_Score___init__ (fun vs H Q E h => len_Score___init__ h) (fun cdv A outer s H vs Q E hr h => ?_)⟩
  obtain ⟨p, dx, la, ba, rfl, hp, k⟩ := h
  refine ⟨_, (pss_cons (ps_fld (pv 0) (pv 1) rfl)
      (pss_cons (ps_fld (pv 0) (pv 2) rfl)
      (pss_one (ps_fld (pv 0) (pe_lst pa_nil) rfl)))), ?_⟩
  refine ⟨_, rfl, _, rfl, p, CS, dx, [], rfl, hp, T.cl_score, T.n_lengths, (by show 0 < 1000; decide), ?_⟩
  refine ⟨_, rfl, _, rfl, p, CS, dx, _, rfl, upd_same, T.cl_score, T.n_breaks, (by show 1 < 1000; decide), ?_⟩
  refine ⟨Nat.zero_le _, fun q nq => ?_⟩
  have np : p ≠ q := fun z => by
    rw [← z, upd_same] at nq
    cases nq
  refine ⟨_, rfl, p, CS, dx, _, rfl, (upd_ne np).trans upd_same, T.cl_score, T.n_staves, (by show 2 < 1000; decide), ?_⟩
  have nq0 : H q = none := by
    rw [upd_ne np.symm, upd_ne np.symm] at nq
    exact nq
  refine k _ q ?_ nq0 ?_ fun b o nb hb => ?_
  · rw [upd_same]
    have e2 : putF "breaks" (.ref ba) [(("lengths" : Str), V.ref la)] = [(("lengths" : Str), V.ref la), (("breaks" : Str), V.ref ba)] := (put_past (by decide +kernel)).trans rfl
    have e4 : putF "staves" (.ref q) [(("breaks" : Str), V.ref ba)] = [(("breaks" : Str), V.ref ba), (("staves" : Str), V.ref q)] := (put_past (by decide +kernel)).trans rfl
    have e3 : putF "staves" (.ref q) [(("lengths" : Str), V.ref la), (("breaks" : Str), V.ref ba)] = scF la ba q := (put_past (by decide +kernel)).trans (congrArg _ e4)
    exact congrArg (fun z => some (HO.ins CS dx z)) ((congrArg (putF "staves" (.ref q)) e2).trans e3)
  · rw [upd_ne np.symm, upd_same]
  · rw [upd_ne nb, upd_ne (ne_of_none (show (upd (upd H p _) p _) b = some o by rw [upd_ne nb, upd_ne nb]; exact hb) nq), upd_ne nb, upd_ne nb]
    exact hb
def sp_Score_many (CS : Addr) : Sp := spP (fun s : Sw71.Score => [rSc CS s]) (fun _ => True) (fun s => rN s.bars.length)
theorem len_Score_many {CS vs H Q E} (h : sp_Score_many CS vs H Q E) : vs.length = 1 := len_P (fun _ => rfl) h
theorem ok_Score_many {P : Program} {w : World} {K : PySem.W.Frag} {mg : Str → Option Value} {base : Heap} {CR CS : Addr} (T : Tx K mg CR CS) (A : FunM K CS "many" "Score.many" s_Score_many ["self"]) : Mtd P w K mg base CS "many" 1 ["self"] (sp_Score_many CS) := by
  obtain ⟨f, fd, mt, F, b⟩ := A
  refine ⟨f, fd, mt, b, F.ok sc_Score_many (fun vs H Q E h => len_Score_many h) (fun cdv A outer s H vs Q E hr h => ?_)⟩
  obtain ⟨s', al, hp, k⟩ := h
  obtain ⟨v0, _, rfl, h0, al⟩ := al.un_cons
  cases al.un_nil
  refine ⟨_, (pss_one (ps_ret (pe_callB (lenS K) (by rfl) T.len PySem.boot_len (pa_cons (fldS K (pv 0) rfl) pa_nil)))), ?_⟩
  exact s_retX ((evx_lenL (evx_lengths T (evx_var rfl (mo_sc CS s') h0))).is (by rw [List.length_map])) fun v H3 e3 hv => k v H3 e3 hv
section
variable {K : PySem.W.Frag} {CS : Addr} {σ : L2.St} {H : Hp} {te : TE} {s : Sw71.Score}
theorem evx_many (h : EvX te σ H (rSc CS s)) : EvX (tMeth CS "many" (sp_Score_many CS) [] E0 te tNil) σ H (rN s.bars.length) := EvR.txV (evr_meth (rs := []) s trivial st_V obj_sc (mo_sc CS s) h xa_nil rfl)
end
def areBars (s : Sw71.Score) (l : List Sw71.Bar) : Bool := decide (l.length = s.bars.length) && (s.bars.zip l).all fun x => Sw71.barOk x.1 x.2
def sp_Score_are_bars (CS : Addr) : Sp := spP (fun x : Sw71.Score × List Sw71.Bar => [rSc CS x.1, rBars x.2]) (fun x => CapL x.2) (fun x => rB (areBars x.1 x.2))
theorem len_Score_are_bars {CS vs H Q E} (h : sp_Score_are_bars CS vs H Q E) : vs.length = 2 := len_P (fun _ => rfl) h
theorem zip_swap_all {α β : Type} {f : α → β → Bool} : ∀ (l : List α) (m : List β), ((l.zip m).all fun x => f x.1 x.2) = (m.zip l).all fun x => f x.2 x.1
  | [], [] => rfl
  | [], _ :: _ => rfl
  | _ :: _, [] => rfl
  | a :: l, b :: m => by
    rw [List.zip_cons_cons, List.zip_cons_cons, List.all_cons, List.all_cons, zip_swap_all l m]
theorem ok_Score_are_bars {P : Program} {w : World} {K : PySem.W.Frag} {mg : Str → Option Value} {base : Heap} {CR CS : Addr} (T : Tx K mg CR CS) (A : FunM K CS "are_bars" "Score.are_bars" s_Score_are_bars ["self", "bars"]) (D_is_bar : Dfn P w K mg base "is_bar" 2 ["bar", "length"] (sp_is_bar)) (D_Score_many : Mtd P w K mg base CS "many" 1 ["self"] (sp_Score_many CS)) : Mtd P w K mg base CS "are_bars" 3 ["self", "bars"] (sp_Score_are_bars CS) := by
  obtain ⟨f, fd, mt, F, b⟩ := A
  obtain ⟨f_is_bar, fd_is_bar, g_is_bar, k_is_bar, b_is_bar, F_is_bar⟩ := D_is_bar
  obtain ⟨f_Score_many, fd_Score_many, m_score_many, b_score_many, F_score_many⟩ := D_Score_many
  refine ⟨f, fd, mt, b, F.ok sc_Score_are_bars (fun vs H Q E h => len_Score_are_bars h) (fun cdv A outer s H vs Q E hr h => ?_)⟩
  obtain ⟨⟨s', l⟩, al, hp, k⟩ := h
  replace hp : CapL l := hp
  obtain ⟨v0, _, rfl, h0, al⟩ := al.un_cons
  obtain ⟨v1, _, rfl, h1, al⟩ := al.un_cons
  cases al.un_nil
  have ms := mo_sc CS s'
  have ml := (st_bars l).mo
  have hl : l.length ≤ 60 := hp.1
  refine ⟨_, (pss_cons (ps_if (pt_cmpR op_ne (pe_callB (lenS K) (by rfl) T.len PySem.boot_len (pa_cons (pv 1) pa_nil)) (pe_meth0 (pv 0) T.cl_score m_score_many F_score_many (hr.mono (by decide)) b_score_many .nil pass0) (nomark _)) (pss_one (ps_ret pe_bl)) pss_nil)
      (pss_one (ps_ret (pe_callB (allS K rfl) (by rfl) T.all (by decide +kernel) (pa_cons (pe_lc (own := [("bar", 2), ("length", 3)]) (g := gTup K 2 (gCons (gName 2) (gCons (gName 3) gNil))) (tt := tYes) rfl sc_Score_are_bars.nd (pi_zip (by rfl) T.zip (pa_cons (pv 1) (pa_cons (fldS K (pv 0) rfl) pa_nil))) (blkOk_by (own := [("bar", 2), ("length", 3)]) (N := N_Score_are_bars) (sc := defScope s_Score_are_bars) (by decide +kernel)) (fun _ _ _ _ _ => (pg_tup rfl (pgs_cons (pg_name (i := 2) sc_Score_are_bars.nd rfl (Or.inl rfl)) (pgs_cons (pg_name (i := 3) sc_Score_are_bars.nd rfl (Or.inl rfl)) pgs_nil)))) (fun _ _ _ _ _ => pts_nil) (fun _ _ _ _ _ => (pe_call F_is_bar (hr.mono (by decide)) (by rfl) g_is_bar k_is_bar b_is_bar .nil pass0 (pa_cons (pv 2) (pa_cons (pv 3) pa_nil))))) pa_nil))))), ?_⟩
  refine q_when (b := !decide (l.length = s'.bars.length)) (et_is (ett (evx_ne ((evx_lenL (evx_var rfl ml h1)).is (by rw [List.length_map])) (evx_many (evx_var rfl ms h0)) rfl)) (congrArg not (decV _ _))) ?_ ?_
  · intro hb H2 e
    refine s_retR evr_c fun v H3 e3 hv => k v H3 (e.trans e3) ?_
    show v = .bl (areBars s' l)
    have : decide (l.length = s'.bars.length) = false := by simpa using hb
    rw [areBars, this]
    exact hv
  · intro hb H2 e
    refine s_retX (evx_allM (f := fun p : Sw71.Bar × Nat => Sw71.barOk p.2 p.1) (EvR.tx (lcZ l s'.bars rBar (fun n => rN n) (fun p => rB (Sw71.barOk p.2 p.1)) (evx_var rfl ml (ml _ _ v1 e h1)) (evx_lengths T (evx_var rfl ms (ms _ _ v0 e h0))) (fun b => (fl_bar b).mo) (fun _ => st_V.mo) (by omega) (fun _ => st_V) (fun _ _ => rfl)
      fun a n x y H3 hab e3 hx hy => evr_call (a, n) (hp.2 a (List.of_mem_zip hab).1) st_V (xa_cons (evx_var rfl (fl_bar a).mo hx) (fl_bar a).mo (xa_cons (evx_var rfl st_V.mo hy) st_V.mo xa_nil))) (st_L (st_map fun _ => st_V)))) fun v H3 e3 hv => k v H3 (e.trans e3) ?_
    show v = .bl (areBars s' l)
    have : decide (l.length = s'.bars.length) = true := by simpa using hb
    rw [areBars, this, zip_swap_all]
    exact hv
def sp_Score_bars_at (CS : Addr) : Sp := spP (fun x : Sw71.Score × List Nat × Nat => [rSc CS x.1, rNs x.2.1, rN x.2.2]) (fun x => Wf x.1 ∧ (∀ k ∈ x.2.1, k < x.1.staves.length) ∧ x.2.1.length ≤ 60 ∧ x.2.2 < x.1.bars.length) (fun x => rBars (x.2.1.map fun k => x.1.barAt k x.2.2))
theorem len_Score_bars_at {CS vs H Q E} (h : sp_Score_bars_at CS vs H Q E) : vs.length = 3 := len_P (fun _ => rfl) h
theorem ok_Score_bars_at {P : Program} {w : World} {K : PySem.W.Frag} {mg : Str → Option Value} {base : Heap} {CR CS : Addr} (T : Tx K mg CR CS) (A : FunM K CS "bars_at" "Score.bars_at" s_Score_bars_at ["self", "part", "at"]) : Mtd P w K mg base CS "bars_at" 1 ["self", "part", "at"] (sp_Score_bars_at CS) := by
  obtain ⟨f, fd, mt, F, b⟩ := A
  refine ⟨f, fd, mt, b, F.ok sc_Score_bars_at (fun vs H Q E h => len_Score_bars_at h) (fun cdv A outer s H vs Q E hr h => ?_)⟩
  obtain ⟨⟨s', ks, i⟩, al, ⟨hw, hks, hkl, hi⟩, k⟩ := h
  replace hkl : ks.length ≤ 60 := hkl
  obtain ⟨v0, _, rfl, h0, al⟩ := al.un_cons
  obtain ⟨v1, _, rfl, h1, al⟩ := al.un_cons
  obtain ⟨v2, _, rfl, h2, al⟩ := al.un_cons
  cases al.un_nil
  have ms := mo_sc CS s'
  have mk := (st_ns ks).mo
  refine ⟨_, (pss_one (ps_ret (pe_lc (own := [("k", 3)]) (g := gName 3) (tt := tYes) rfl sc_Score_bars_at.nd (piL K (pv 1)) (blkOk_by (own := [("k", 3)]) (N := N_Score_bars_at) (sc := defScope s_Score_bars_at) (by decide +kernel)) (fun _ _ _ _ _ => (pg_name (i := 3) sc_Score_bars_at.nd rfl (Or.inl rfl))) (fun _ _ _ _ _ => pts_nil) (fun _ _ _ _ _ => (pe_ix (ixL K) (pe_ix (ixL K) (fldS K (pv 0) rfl) (pv 3) (fun _ _ => rfl)) (pv 2) (fun _ _ => rfl)))))), ?_⟩
  refine s_retR (lcL ks (fun n => rN n) (fun k => rBar (s'.barAt k i)) (evx_var rfl mk h1) (fun _ => st_V.mo) (by omega) (fun _ => (fl_bar _).st) (fun _ => rfl)
    fun a x H3 ha e3 hx => (evx_barAt T (evx_var rfl ms (ms _ _ v0 e3 h0)) (evx_var rfl st_V.mo hx) (evx_var rfl st_V.mo h2) (hks a ha) (by rw [hw.len_at (hks a ha)]; exact hi)).tr (fl_bar _)) fun v H3 e3 hv => k v H3 e3 ?_
  show rL ((ks.map fun k => s'.barAt k i).map rBar) _ _ _
  rw [List.map_map]
  exact hv
def sp_Score_do_rest (CS : Addr) : Sp := spP (fun x : Sw71.Score × List Nat × Nat => [rSc CS x.1, rNs x.2.1, rN x.2.2]) (fun x => Wf x.1 ∧ (∀ k ∈ x.2.1, k < x.1.staves.length) ∧ x.2.1.length ≤ 60 ∧ x.2.2 < x.1.bars.length) (fun x => rB (x.1.silent x.2.1 x.2.2))
theorem len_Score_do_rest {CS vs H Q E} (h : sp_Score_do_rest CS vs H Q E) : vs.length = 3 := len_P (fun _ => rfl) h
theorem ok_Score_do_rest {P : Program} {w : World} {K : PySem.W.Frag} {mg : Str → Option Value} {base : Heap} {CR CS : Addr} (T : Tx K mg CR CS) (A : FunM K CS "do_rest" "Score.do_rest" s_Score_do_rest ["self", "part", "at"]) (D_does_rest : Dfn P w K mg base "does_rest" 1 ["bar"] (sp_does_rest)) (D_Score_bars_at : Mtd P w K mg base CS "bars_at" 1 ["self", "part", "at"] (sp_Score_bars_at CS)) : Mtd P w K mg base CS "do_rest" 2 ["self", "part", "at"] (sp_Score_do_rest CS) := by
  obtain ⟨f, fd, mt, F, b⟩ := A
  obtain ⟨f_does_rest, fd_does_rest, g_does_rest, k_does_rest, b_does_rest, F_does_rest⟩ := D_does_rest
  obtain ⟨f_Score_bars_at, fd_Score_bars_at, m_score_bars_at, b_score_bars_at, F_score_bars_at⟩ := D_Score_bars_at
  refine ⟨f, fd, mt, b, F.ok sc_Score_do_rest (fun vs H Q E h => len_Score_do_rest h) (fun cdv A outer s H vs Q E hr h => ?_)⟩
  obtain ⟨⟨s', ks, i⟩, al, ⟨hw, hks, hkl, hi⟩, k⟩ := h
  replace hkl : ks.length ≤ 60 := hkl
  obtain ⟨v0, _, rfl, h0, al⟩ := al.un_cons
  obtain ⟨v1, _, rfl, h1, al⟩ := al.un_cons
  obtain ⟨v2, _, rfl, h2, al⟩ := al.un_cons
  cases al.un_nil
  have ms := mo_sc CS s'
  have mk := (st_ns ks).mo
  refine ⟨_, (pss_one (ps_ret (pe_callB (allS K rfl) (by rfl) T.all (by decide +kernel) (pa_cons (pe_lc (own := [("bar", 3)]) (g := gName 3) (tt := tYes) rfl sc_Score_do_rest.nd (piL K (pe_meth (pv 0) T.cl_score m_score_bars_at F_score_bars_at (hr.mono (by decide)) b_score_bars_at .nil pass0 (pa_cons (pv 1) (pa_cons (pv 2) pa_nil)))) (blkOk_by (own := [("bar", 3)]) (N := N_Score_do_rest) (sc := defScope s_Score_do_rest) (by decide +kernel)) (fun _ _ _ _ _ => (pg_name (i := 3) sc_Score_do_rest.nd rfl (Or.inl rfl))) (fun _ _ _ _ _ => pts_nil) (fun _ _ _ _ _ => (pe_call F_does_rest (hr.mono (by decide)) (by rfl) g_does_rest k_does_rest b_does_rest .nil pass0 (pa_cons (pv 3) pa_nil)))) pa_nil)))), ?_⟩
  refine s_retX (evx_allM (EvR.tx (lcL (ks.map fun k => s'.barAt k i) rBar (fun b => rB (Sw71.rests b)) (EvR.tx (evr_meth (rs := [rNs ks, rN i]) (s', ks, i) ⟨hw, hks, hkl, hi⟩ (st_bars _) obj_sc ms (evx_var rfl ms h0) (xa_cons (evx_var rfl mk h1) mk (xa_cons (evx_var rfl st_V.mo h2) st_V.mo xa_nil)) rfl) (st_bars _)) (fun b => (fl_bar b).mo) (by rw [List.length_map]; omega) (fun _ => st_V) (fun _ => rfl)
    fun b x H3 hb e3 hx => evr_call b (by
      obtain ⟨k', hk', rfl⟩ := List.mem_map.mp hb
      exact (hw.cap_at (hks k' hk') hi).1) st_V (xa_cons (evx_var rfl (fl_bar b).mo hx) (fl_bar b).mo xa_nil)) (st_L (st_map fun _ => st_V)))) fun v H3 e3 hv => k v H3 e3 ?_
  show v = .bl (s'.silent ks i)
  rw [List.all_map] at hv
  exact hv
end Ps

namespace Ps
open PySem PySem.Spec PyProof.Rows L2 Evl

/-! ### rests: plain laws -/
section
variable {s : Sw71.Score} {ks : List Nat}
theorem rest_succ (f i : Nat) : s.restFrom ks (f + 1) i = if s.bars.length ≤ i ∨ s.silent ks i = false then 0 else if s.breaks.contains (i + 1) = true then 1 else 1 + s.restFrom ks f (i + 1) := rfl
theorem rest_fuel : ∀ (f g i : Nat), s.bars.length ≤ i + f → s.bars.length ≤ i + g → s.restFrom ks f i = s.restFrom ks g i
  | 0, 0, _, _, _ => rfl
  | 0, g + 1, i, h, _ => by
    rw [rest_succ, if_pos (Or.inl (by omega))]
    rfl
  | f + 1, 0, i, _, h => by
    rw [rest_succ, if_pos (Or.inl (by omega))]
    rfl
  | f + 1, g + 1, i, h1, h2 => by
    rw [rest_succ, rest_succ, rest_fuel f g (i + 1) (by omega) (by omega)]
def cont (s : Sw71.Score) (ks : List Nat) (e : Nat) : Nat := if s.breaks.contains e = true then 0 else s.restFrom ks s.bars.length e
theorem rest_first {i : Nat} (h : i < s.bars.length) (hs : s.silent ks i = true) : s.restFrom ks s.bars.length i = 1 + cont s ks (i + 1) := by
  rw [rest_fuel s.bars.length (s.bars.length + 1) i (by omega) (by omega), rest_succ, if_neg (by rw [hs]; simp; omega)]
  unfold cont
  by_cases hb : s.breaks.contains (i + 1) = true
  · rw [if_pos hb, if_pos hb]
  · rw [if_neg hb, if_neg hb]
theorem rest_none {i : Nat} (hs : s.silent ks i = false) : s.restFrom ks s.bars.length i = 0 := by
  rw [rest_fuel s.bars.length (s.bars.length + 1) i (by omega) (by omega), rest_succ, if_pos (Or.inr hs)]
theorem rest_out {i : Nat} (hs : s.bars.length ≤ i) : s.restFrom ks s.bars.length i = 0 := by
  rw [rest_fuel s.bars.length (s.bars.length + 1) i (by omega) (by omega), rest_succ, if_pos (Or.inl hs)]
theorem cont_step {e : Nat} (h : e < s.bars.length) (hb : s.breaks.contains e = false) (hs : s.silent ks e = true) : cont s ks e = 1 + cont s ks (e + 1) := by
  rw [← rest_first h hs, cont, if_neg (by rw [hb]; decide)]
theorem cont_stop {e : Nat} (h : (decide (e < s.bars.length) && (!s.breaks.contains e && s.silent ks e)) = false) : cont s ks e = 0 := by
  unfold cont
  by_cases hb : s.breaks.contains e = true
  · rw [if_pos hb]
  · rw [if_neg hb]
    by_cases hl : e < s.bars.length
    · refine rest_none ?_
      rw [decide_eq_true hl] at h
      cases hs : s.silent ks e with
      | false => rfl
      | true =>
        have : s.breaks.contains e = false := by
          cases hc : s.breaks.contains e with
          | false => rfl
          | true => exact absurd hc hb
        rw [this, hs] at h
        cases h
    · exact rest_out (by omega)
theorem rest_le : ∀ (f i : Nat), i ≤ s.bars.length → i + s.restFrom ks f i ≤ s.bars.length
  | 0, i, h => h
  | f + 1, i, h => by
    rw [rest_succ]
    by_cases h1 : s.bars.length ≤ i ∨ s.silent ks i = false
    · rw [if_pos h1]; exact h
    · rw [if_neg h1]
      have hl : i < s.bars.length := by
        have := fun z => h1 (Or.inl z)
        omega
      by_cases h2 : s.breaks.contains (i + 1) = true
      · rw [if_pos h2]; omega
      · rw [if_neg h2]
        have := rest_le f (i + 1) (by omega)
        omega
end
theorem inV_ns (e : Nat) : ∀ bs : List Nat, inV (.int (e : Int)) (bs.map nV) = bs.contains e
  | [] => rfl
  | b :: bs => by
    have ih := inV_ns e bs
    unfold inV at ih
    show (((b : Int) == (e : Int)) || ((bs.map nV).any fun y => eqV y (.int (e : Int)))) = _
    rw [ih, List.contains_cons]
    congr 1
    rw [Bool.eq_iff_iff]
    simp
    omega
theorem flat_ns : ∀ bs : List Nat, (bs.map nV).all flatV = true
  | [] => rfl
  | b :: bs => flat_ns bs
section
variable {K : PySem.W.Frag} {σ : L2.St} {H : Hp} {ta tb te : TE} {e : Nat} {bs : List Nat}
theorem ns_rV : (bs.map nV).map rV = bs.map fun n => rN n := by
  rw [List.map_map]
  rfl
theorem evx_ninNs (ha : EvX ta σ H (rN e)) (hb : EvX tb σ H (rNs bs)) : EvX (tOp (rIn K true) ta tb) σ H (rB (!bs.contains e)) :=
  (evx_ninL (xs := bs.map nV) ha (hb.is (by rw [ns_rV]; rfl)) rfl (flat_ns bs)).is (by rw [inV_ns])
theorem evx_inNs (ha : EvX ta σ H (rN e)) (hb : EvX tb σ H (rNs bs)) : EvX (tOp (rIn K false) ta tb) σ H (rB (bs.contains e)) :=
  (evx_inL (xs := bs.map nV) ha (hb.is (by rw [ns_rV]; rfl)) rfl (flat_ns bs)).is (by rw [inV_ns])
end
def PartOk (s : Sw71.Score) (ks : List Nat) : Prop := Wf s ∧ (∀ k ∈ ks, k < s.staves.length) ∧ ks.length ≤ 60
section
variable {K : PySem.W.Frag} {CS : Addr} {σ : L2.St} {H : Hp} {te t1 t2 : TE} {s : Sw71.Score} {ks : List Nat} {i : Nat}
theorem evx_doRest (h : EvX te σ H (rSc CS s)) (h1 : EvX t1 σ H (rNs ks)) (h2 : EvX t2 σ H (rN i)) (p : PartOk s ks) (hi : i < s.bars.length) : EvX (tMeth CS "do_rest" (sp_Score_do_rest CS) [] E0 te (tCons t1 (tCons t2 tNil))) σ H (rB (s.silent ks i)) :=
  EvR.txV (evr_meth (rs := [rNs ks, rN i]) (s, ks, i) ⟨p.1, p.2.1, p.2.2, hi⟩ st_V obj_sc (mo_sc CS s) h (xa_cons h1 (st_ns ks).mo (xa_cons h2 st_V.mo xa_nil)) rfl)
end
def sp_Score_rest_end (CS : Addr) : Sp := spP (fun x : Sw71.Score × List Nat × Nat => [rSc CS x.1, rNs x.2.1, rN x.2.2]) (fun x => PartOk x.1 x.2.1 ∧ x.2.2 < x.1.bars.length ∧ x.1.silent x.2.1 x.2.2 = true) (fun x => rN (x.2.2 + x.1.restFrom x.2.1 x.1.bars.length x.2.2))
theorem len_Score_rest_end {CS vs H Q E} (h : sp_Score_rest_end CS vs H Q E) : vs.length = 3 := len_P (fun _ => rfl) h
theorem ok_Score_rest_end {P : Program} {w : World} {K : PySem.W.Frag} {mg : Str → Option Value} {base : Heap} {CR CS : Addr} (T : Tx K mg CR CS) (A : FunM K CS "rest_end" "Score.rest_end" s_Score_rest_end ["self", "part", "at"]) (D_Score_many : Mtd P w K mg base CS "many" 1 ["self"] (sp_Score_many CS)) (D_Score_do_rest : Mtd P w K mg base CS "do_rest" 2 ["self", "part", "at"] (sp_Score_do_rest CS)) : Mtd P w K mg base CS "rest_end" 3 ["self", "part", "at"] (sp_Score_rest_end CS) := by
  obtain ⟨f, fd, mt, F, b⟩ := A
  obtain ⟨f_Score_many, fd_Score_many, m_score_many, b_score_many, F_score_many⟩ := D_Score_many
  obtain ⟨f_Score_do_rest, fd_Score_do_rest, m_score_do_rest, b_score_do_rest, F_score_do_rest⟩ := D_Score_do_rest
  refine ⟨f, fd, mt, b, F.ok sc_Score_rest_end (fun vs H Q E h => len_Score_rest_end h) (fun cdv A outer s H vs Q E hr h => ?_)⟩
  obtain ⟨⟨s', ks, i⟩, al, ⟨hp, hi, hs⟩, k⟩ := h
  replace hi : i < s'.bars.length := hi
  replace hs : s'.silent ks i = true := hs
  obtain ⟨v0, _, rfl, h0, al⟩ := al.un_cons
  obtain ⟨v1, _, rfl, h1, al⟩ := al.un_cons
  obtain ⟨v2, _, rfl, h2, al⟩ := al.un_cons
  cases al.un_nil
  cases h2
  have ms := mo_sc CS s'
  have mk := (st_ns ks).mo
  refine ⟨_, (pss_cons (ps_set (i := 3) sc_Score_rest_end.nd rfl (Or.inl rfl) (pe_op op_add (pv 2) pe_int))
      (pss_cons (ps_while PassesOwn.never (PW.pt (pw_and (pt_cmpR op_lt (pv 3) (pe_meth0 (pv 0) T.cl_score m_score_many F_score_many (hr.mono (by decide)) b_score_many .nil pass0) (nomark _)) (pw_and (pt_cmpR (ninS K) (pv 3) (fldS K (pv 0) rfl) (by rfl)) (pw_and1 (pt_val (pe_meth (pv 0) T.cl_score m_score_do_rest F_score_do_rest (hr.mono (by decide)) b_score_do_rest .nil pass0 (pa_cons (pv 1) (pa_cons (pv 3) pa_nil)))))))) (pss_one (ps_set (i := 3) sc_Score_rest_end.nd rfl (Or.inl rfl) (pe_op op_add (pv 3) pe_int))))
      (pss_one (ps_ret (pv 3))))), ?_⟩
  refine q_asgX (evx_I0 (i := (i : Int)) (j := 1) (evv_var rfl) evx_c) fun z H1 e1 hz => ?_
  cases hz
  refine q_while (fun m σ' H' => ∃ e : Nat, σ' = [some v0, some v1, some (.int (i : Int)), some (.int (e : Int))] ∧ Ex H H' ∧ m = s'.bars.length - e ∧ e ≤ s'.bars.length ∧ e + cont s' ks e = i + s'.restFrom ks s'.bars.length i) (s'.bars.length - (i + 1)) ⟨i + 1, rfl, e1, rfl, by omega, by rw [rest_first hi hs]; omega⟩ ?_
  rintro m σ' H' ⟨e, rfl, ex, rfl, hle, heq⟩
  have g0 := ms _ _ v0 ex h0
  have g1 := mk _ _ v1 ex h1
  refine ⟨decide (e < s'.bars.length) && (!s'.breaks.contains e && s'.silent ks e), et_and (et_is (ett (evx_I0 (evv_var rfl) (evx_many (evx_var rfl ms g0)))) (decL _ _)) fun hl => et_and (ett (evx_ninNs (evv_var rfl) (evx_breaks T (evx_var rfl ms g0)))) fun _ => etb (evx_doRest (evx_var rfl ms g0) (evx_var rfl mk g1) (evv_var rfl) hp (of_decide_eq_true hl)), fun hb H2 e2 => ?_, fun hb H2 e2 => ?_⟩
  · have h3 := (Bool.and_eq_true _ _).mp hb
    have h4 := (Bool.and_eq_true _ _).mp h3.2
    have hl := of_decide_eq_true h3.1
    have hbr : s'.breaks.contains e = false := by simpa using h4.1
    refine ⟨fun σ' H' => σ' = [some v0, some v1, some (.int (i : Int)), some (.int ((e + 1 : Nat) : Int))] ∧ Ex H H', ?_, ?_⟩
    · rintro σ2 H3 ⟨rfl, ex3⟩
      refine ⟨_, ?_, e + 1, rfl, ex3, rfl, by omega, ?_⟩
      · omega
      · rw [cont_step hl hbr h4.2] at heq
        omega
    · refine s_asgX (evx_I0 (i := (e : Int)) (j := 1) (evv_var rfl) evx_c) fun z H3 e3 hz => ?_
      cases hz
      exact ⟨rfl, ex.trans (e2.trans e3)⟩
  · rw [cont_stop hb] at heq
    refine s_retX (evv_var rfl) fun v H3 e3 hv => k v H3 (ex.trans (e2.trans e3)) ?_
    cases hv
    show V.int (e : Int) = V.int ((i + s'.restFrom ks s'.bars.length i : Nat) : Int)
    rw [← heq]
    rfl
/-! ### cues -/
def optV (o : Option Nat) : V := match o with
  | none => .non
  | some k => .int (k : Int)
def sp_Score_cue_staff (CS : Addr) : Sp := spP (fun x : Sw71.Score × List Nat × Nat => [rSc CS x.1, rNs x.2.1, rN x.2.2]) (fun x => Wf x.1 ∧ x.2.2 < x.1.bars.length) (fun x => rV (optV (x.1.cueAt x.2.1 x.2.2)))
theorem len_Score_cue_staff {CS vs H Q E} (h : sp_Score_cue_staff CS vs H Q E) : vs.length = 3 := len_P (fun _ => rfl) h
theorem EvXA.ea {ta : TA} {σ : L2.St} {H : Hp} {vs : List V} (h : EvXA ta σ H (vs.map rV)) : EvA ta σ H vs := fun H1 e Q q => h H1 e Q fun ws H2 e2 al => by
  have := vals_of.mp al
  subst this
  exact q H2 e2
theorem EvX.ev {te : TE} {σ : L2.St} {H : Hp} {v : V} (h : EvX te σ H (rV v)) : Ev te σ H v := fun H1 e Q q => h H1 e Q fun w H2 e2 hw => by
  cases hw
  exact q H2 e2
theorem ok_Score_cue_staff {P : Program} {w : World} {K : PySem.W.Frag} {mg : Str → Option Value} {base : Heap} {CR CS : Addr} (T : Tx K mg CR CS) (A : FunM K CS "cue_staff" "Score.cue_staff" s_Score_cue_staff ["self", "part", "at"]) (D_does_rest : Dfn P w K mg base "does_rest" 1 ["bar"] (sp_does_rest)) : Mtd P w K mg base CS "cue_staff" 2 ["self", "part", "at"] (sp_Score_cue_staff CS) := by
  obtain ⟨f, fd, mt, F, b⟩ := A
  obtain ⟨f_does_rest, fd_does_rest, g_does_rest, k_does_rest, b_does_rest, F_does_rest⟩ := D_does_rest
  refine ⟨f, fd, mt, b, F.ok sc_Score_cue_staff (fun vs H Q E h => len_Score_cue_staff h) (fun cdv A outer s H vs Q E hr h => ?_)⟩
  obtain ⟨⟨s', ks, i⟩, al, ⟨hw, hi⟩, k⟩ := h
  replace hi : i < s'.bars.length := hi
  obtain ⟨v0, _, rfl, h0, al⟩ := al.un_cons
  obtain ⟨v1, _, rfl, h1, al⟩ := al.un_cons
  obtain ⟨v2, _, rfl, h2, al⟩ := al.un_cons
  cases al.un_nil
  cases h2
  have ms := mo_sc CS s'
  have mk := (st_ns ks).mo
  have hfew : s'.staves.length ≤ 8 := hw.few
  refine ⟨_, (pss_cons (ps_setLc (i := 3) (own := [("k", 4)]) (g := gName 4) rfl sc_Score_cue_staff.nd rfl rfl (sw_true rfl rfl rfl (by decide +kernel)) (pi_range1 (by rfl) T.range (pa_cons (pe_callB (lenS K) (by rfl) T.len PySem.boot_len (pa_cons (fldS K (pv 0) rfl) pa_nil)) pa_nil)) (blkOk_by (own := [("k", 4)]) (N := N_Score_cue_staff) (sc := defScope s_Score_cue_staff) (by decide +kernel)) (fun _ _ _ _ _ => (pg_name (i := 4) sc_Score_cue_staff.nd rfl (Or.inl rfl))) (fun _ _ _ _ _ => (pts_one (PW.pt (pw_and (pt_cmpR (ninS K) (pv 4) (pv 1) (by rfl)) (pw_and1 (pt_not (pt_val (pe_call F_does_rest (hr.mono (by decide)) (by rfl) g_does_rest k_does_rest b_does_rest .nil pass0 (pa_cons (pe_ix (ixL K) (pe_ix (ixL K) (fldS K (pv 0) rfl) (pv 4) (fun _ _ => rfl)) (pv 2) (fun _ _ => rfl)) pa_nil))))))))) (fun _ _ _ _ _ => (pv 4)))
      (pss_one (ps_ret (pe_ix (ixL K) (pe_op op_cat (pv 3) (pe_lst (pa_cons pe_non pa_nil))) pe_int (fun _ _ => rfl))))), ?_⟩
  refine q_asgL (el_lcR1 (n := (s'.staves.length : Int)) (fun k => !ks.contains k && !Sw71.rests (s'.barAt k i)) (fun k => .int (k : Int)) (EvXA.ea (vs := [.int (s'.staves.length : Int)]) (xa_cons ((evx_lenL (evx_staves T (evx_var rfl ms h0))).is (by rw [List.length_map])) st_V.mo xa_nil)) (by omega) (fun _ => rfl) ?_ ?_) fun p H1 np e1 hp => ?_
  · intro j H1 e hj
    have g0 := ms _ _ v0 e h0
    have hj' : j < s'.staves.length := by omega
    exact et_and (ett (evx_ninNs (evv_var rfl) (evx_var rfl mk (mk _ _ v1 e h1)))) fun _ => et_not (etb (EvR.txV (evr_call (s'.barAt j i) (hw.cap_at hj' hi).1 st_V (xa_cons (evx_barAt T (evx_var rfl ms g0) (evv_var rfl) (evv_var rfl) hj' (by rw [hw.len_at hj']; exact hi)) (fl_bar _).mo xa_nil))))
  · intro j H1 e hj hf
    exact ev_var rfl
  · have hfind : s'.cueAt ks i = ((List.range s'.staves.length).filter fun k => !ks.contains k && !Sw71.rests (s'.barAt k i)).head? := by
      unfold Sw71.Score.cueAt
      rw [List.head?_filter]
    have hg : given ((s'.staves.length : Int)).toNat (fun k => !ks.contains k && !Sw71.rests (s'.barAt k i)) (fun k => V.int (k : Int)) = ((List.range s'.staves.length).filter fun k => !ks.contains k && !Sw71.rests (s'.barAt k i)).map nV := rfl
    rw [hg] at hp
    generalize hx : ((List.range s'.staves.length).filter fun k => !ks.contains k && !Sw71.rests (s'.barAt k i)) = xs at hp hfind
    have hxl : xs.length ≤ 8 := by
      rw [← hx]
      have := List.length_filter_le (fun k => !ks.contains k && !Sw71.rests (s'.barAt k i)) (List.range s'.staves.length)
      rw [List.length_range] at this
      omega
    refine s_retX (evx_ixL (j := 0) (r := rV (optV xs.head?)) (EvR.tx (evr_catF (evx_var (r := rNs xs) rfl (st_ns xs).mo ⟨p, _, rfl, trivial, hp, ints_of.mpr rfl⟩) (EvR.tx (evr_lst1 evr_c st_V) (st_L (one_st st_V))) (fl_map fun _ => fl_V) (one_fl fl_V) (sz_of (by simp; omega))) (st_L ?_)) evx_c rfl ?_ ?_) fun v H3 e3 hv => k v H3 (e1.trans e3) ?_
    · intro r hr
      rcases List.mem_append.mp hr with hr | hr
      · exact st_map (fun _ => st_V) r hr
      · exact one_st st_V r hr
    · cases xs <;> rfl
    · intro r hr
      rcases List.mem_append.mp hr with hr | hr
      · exact mo_map (fun _ => st_V.mo) r hr
      · exact (one_st st_V r hr).mo
    · show v = optV (s'.cueAt ks i)
      rw [hfind]
      exact hv
/-! ### pieces -/
def rPiece : Sw71.Piece → Rl
  | .rest n => rT [rN 0, rN n]
  | .bar l => rT [rN 1, rBars l]
  | .cue k b => rT [rN 2, rN k, rBar b]
theorem st_piece (p : Sw71.Piece) : St (rPiece p) := by
  cases p with
  | rest n => exact st_T (st_two st_V st_V)
  | bar l => exact st_T (st_two st_V (st_bars l))
  | cue k b => exact st_T (three_st st_V st_V (fl_bar b).st)
section
variable {K : PySem.W.Frag} {σ : L2.St} {H : Hp} {ta tb te : TE} {rs : List Rl}
theorem evr_rep {m : Int} (ha : EvX ta σ H (rL rs)) (hb : EvX tb σ H (rI m)) (hs : ∀ r ∈ rs, Fl r) (hm : 0 ≤ m ∧ m ≤ 1000) (hl : rs.length ≤ 1000) : EvR (tOp rRep ta tb) σ H (rL (List.replicate m.toNat rs).flatten) := fun H1 e Q q =>
  ha H1 e _ fun x H2 e2 ⟨a, vs, ex, fa, ea, al⟩ => hb H2 (e.trans e2) _ fun y H3 e3 hy => by
    subst ex; cases hy
    refine ⟨a, m, vs, rfl, rfl, e3 a _ ea, by omega, by omega, ?_, fun p hp => q _ _ ((e2.trans e3).trans (Ex.new hp)) ⟨p, _, rfl, fresh_back (e2.trans e3) hp, upd_same, ?_⟩⟩
    · have h1 : vs.length ≤ 1000 := by rw [al.1]; exact hl
      have h2 : m.toNat ≤ 1000 := by omega
      exact size24 (Nat.le_trans (Nat.mul_le_mul h1 h2) (by decide))
    · have al' : All2 (fun v (r : Rl) => r (New H1) (upd H3 p (.lst (List.replicate m.toNat vs).flatten)) v) vs rs := al.mono fun v r hr h => (hs r hr).ex (e3.trans (Ex.new hp)) h
      generalize upd H3 p (.lst (List.replicate m.toNat vs).flatten) = Hz at al'
      clear q hp
      induction m.toNat with
      | zero => exact All2.nil
      | succ n ih =>
        rw [List.replicate_succ, List.replicate_succ, List.flatten_cons, List.flatten_cons]
        exact al'.append ih
abbrev rInt1 : List V → Hp → VK → Prop := fun xs H Q => (∃ i, xs = [.int i] ∧ Q (.int i) H) ∨ ∃ k, xs = [.bl k] ∧ Q (.int (if k then 1 else 0)) H
theorem evx_intB {b : Bool} (h : EvX te σ H (rB b)) : EvX (tCB rInt1 (tCons te tNil)) σ H (rI (if b then 1 else 0)) := fun H1 e Q q =>
  h H1 e _ fun v H2 e2 hv => .inr ⟨b, by rw [show v = V.bl b from hv], q _ H2 e2 rfl⟩
end
def cueOf (s : Sw71.Score) (ks : List Nat) (least i n : Nat) : Option Nat := if least ≠ 0 ∧ least ≤ n then s.cueAt ks (i + n - 1) else none
theorem cue_lt {s : Sw71.Score} {ks : List Nat} {i k : Nat} (h : s.cueAt ks i = some k) : k < s.staves.length := by
  unfold Sw71.Score.cueAt at h
  have := List.mem_of_find?_eq_some h
  exact List.mem_range.mp this
def sp_Score_rest_pieces (CS : Addr) : Sp := spP (fun x : Sw71.Score × List Nat × Nat × Nat × Nat => [rSc CS x.1, rNs x.2.1, rN x.2.2.1, rN (x.2.2.1 + x.2.2.2.1), rN x.2.2.2.2]) (fun x => Wf x.1 ∧ 1 ≤ x.2.2.2.1 ∧ x.2.2.1 + x.2.2.2.1 ≤ x.1.bars.length)
  (fun x => rL ((x.1.restOut x.2.1 x.2.2.2.2 x.2.2.1 x.2.2.2.1).map rPiece))
theorem len_Score_rest_pieces {CS vs H Q E} (h : sp_Score_rest_pieces CS vs H Q E) : vs.length = 5 := len_P (fun _ => rfl) h
theorem subN {a b : Nat} : ((a + b : Nat) : Int) - (a : Int) = (b : Int) := by omega
theorem ok_Score_rest_pieces {P : Program} {w : World} {K : PySem.W.Frag} {mg : Str → Option Value} {base : Heap} {CR CS : Addr} (T : Tx K mg CR CS) (A : FunM K CS "rest_pieces" "Score.rest_pieces" s_Score_rest_pieces ["self", "part", "at", "end", "least"]) (D_Score_cue_staff : Mtd P w K mg base CS "cue_staff" 2 ["self", "part", "at"] (sp_Score_cue_staff CS)) : Mtd P w K mg base CS "rest_pieces" 3 ["self", "part", "at", "end", "least"] (sp_Score_rest_pieces CS) := by
  obtain ⟨f, fd, mt, F, b⟩ := A
  obtain ⟨f_Score_cue_staff, fd_Score_cue_staff, m_score_cue_staff, b_score_cue_staff, F_score_cue_staff⟩ := D_Score_cue_staff
  refine ⟨f, fd, mt, b, F.ok sc_Score_rest_pieces (fun vs H Q E h => len_Score_rest_pieces h) (fun cdv A outer s H vs Q E hr h => ?_)⟩
  obtain ⟨⟨s', ks, i, n, least⟩, al, ⟨hw, hn, hi⟩, k⟩ := h
  replace hn : 1 ≤ n := hn
  replace hi : i + n ≤ s'.bars.length := hi
  obtain ⟨v0, _, rfl, h0, al⟩ := al.un_cons
  obtain ⟨v1, _, rfl, h1, al⟩ := al.un_cons
  obtain ⟨v2, _, rfl, h2, al⟩ := al.un_cons
  obtain ⟨v3, _, rfl, h3, al⟩ := al.un_cons
  obtain ⟨v4, _, rfl, h4, al⟩ := al.un_cons
  cases al.un_nil
  cases h2; cases h3; cases h4
  have ms := mo_sc CS s'
  have mk := (st_ns ks).mo
  refine ⟨_, (pss_cons (ps_set (i := 5) sc_Score_rest_pieces.nd rfl (Or.inl rfl) pe_non)
      (pss_cons (ps_if (PW.pt (pw_and (pt_cmpR op_ne (pv 4) pe_int (nomark _)) (pw_and1 (pt_cmpR op_ge (pe_op op_sub (pv 3) (pv 2)) (pv 4) (nomark _))))) (pss_one (ps_set (i := 5) sc_Score_rest_pieces.nd rfl (Or.inl rfl) (pe_meth (pv 0) T.cl_score m_score_cue_staff F_score_cue_staff (hr.mono (by decide)) b_score_cue_staff .nil pass0 (pa_cons (pv 1) (pa_cons (pe_op op_sub (pv 3) pe_int) pa_nil))))) pss_nil)
      (pss_cons (ps_if (pt_cmpR op_isN (pv 5) pe_non (nomark _)) (pss_one (ps_ret (pe_lst (pa_cons (pe_tup (pa_cons (pe_cn T.c_REST) (pa_cons (pe_op op_sub (pv 3) (pv 2)) pa_nil))) pa_nil)))) pss_nil)
      (pss_cons (ps_set (i := 6) sc_Score_rest_pieces.nd rfl (Or.inl rfl) (pe_op op_rep (pe_lst (pa_cons (pe_tup (pa_cons (pe_cn T.c_REST) (pa_cons (pe_op op_sub (pe_op op_sub (pv 3) (pv 2)) pe_int) pa_nil))) pa_nil)) (pe_callTy call_int1 (by rfl) T.int (by decide +kernel) (pa_cons (pe_cmpR op_gt (pe_op op_sub (pv 3) (pv 2)) pe_int (nomark _)) pa_nil))))
      (pss_one (ps_ret (pe_op op_cat (pv 6) (pe_lst (pa_cons (pe_tup (pa_cons (pe_cn T.c_CUE) (pa_cons (pv 5) (pa_cons (pe_ix (ixL K) (pe_ix (ixL K) (fldS K (pv 0) rfl) (pv 5) (fun _ _ => rfl)) (pe_op op_sub (pv 3) pe_int) (fun _ _ => rfl)) pa_nil)))) pa_nil))))))))), ?_⟩
  refine q_asgX evx_c fun z H1 e1 hz => ?_
  cases hz
  have nl : ∀ {σ : L2.St} {H' : Hp}, σ[3]? = some (some (.int ((i + n : Nat) : Int))) → σ[2]? = some (some (.int (i : Int))) → EvX (tOp (rI0 fun i j => .int (i - j)) (tVar 3) (tVar 2)) σ H' (rN n) := fun s3 s2 => (evx_I0 (evv_var s3) (evv_var s2)).is (by show rV (.int _) = _; rw [subN])
  have tail : ∀ (tz : TS) (H2 : Hp), Ex H1 H2 → (∀ {H3 : Hp}, Ex H1 H3 → tz { nx := fun _ H' => Q .non H', rt := Q } [some v0, some v1, some (.int (i : Int)), some (.int ((i + n : Nat) : Int)), some (.int (least : Int)), some (optV (cueOf s' ks least i n)), none] H3) →
      tSeq (tIfS (tAnd (tTest (tOp rNe (tVar 4) (tC (.int 0)))) (tTest (tOp (rI0 fun i j => .bl (decide (j ≤ i))) (tOp (rI0 fun i j => .int (i - j)) (tVar 3) (tVar 2)) (tVar 4)))) (tAsg (tMeth CS "cue_staff" (sp_Score_cue_staff CS) [] E0 (tVar 0) (tCons (tVar 1) (tCons (tOp (rI0 fun i j => .int (i - j)) (tVar 3) (tC (.int 1))) tNil))) (gName 5)) tNext) tz { nx := fun _ H' => Q .non H', rt := Q } [some v0, some v1, some (.int (i : Int)), some (.int ((i + n : Nat) : Int)), some (.int (least : Int)), some .non, none] H2 := fun tz H2 e2 hz => by
    refine q_when (b := !decide (least = 0) && decide (least ≤ n)) (et_and (et_is (ett (evx_ne (evv_var rfl) evx_c rfl)) (congrArg not (decV least 0))) fun _ => et_is (ett (evx_I0 (nl rfl rfl) (evv_var rfl))) (decLe _ _)) ?_ ?_
    · intro hb H3 e3
      have hc := (Bool.and_eq_true _ _).mp hb
      have hq : least ≠ 0 ∧ least ≤ n := ⟨by simpa using hc.1, of_decide_eq_true hc.2⟩
      have e13 := e2.trans e3
      have g0 := ms _ _ v0 (e1.trans e13) h0
      have g1 := mk _ _ v1 (e1.trans e13) h1
      refine s_asgX (EvR.txV (evr_meth (rs := [rNs ks, rN (i + n - 1)]) (s', ks, i + n - 1) ⟨hw, by show i + n - 1 < s'.bars.length; omega⟩ st_V obj_sc ms (evx_var rfl ms g0) (xa_cons (evx_var rfl mk g1) mk (xa_cons ((evx_I0 (i := ((i + n : Nat) : Int)) (j := 1) (evv_var rfl) evx_c).is (by show rV (.int (((i + n : Nat) : Int) - 1)) = rV (.int ((i + n - 1 : Nat) : Int)); congr 2; omega)) st_V.mo xa_nil)) rfl)) fun z H4 e4 hz' => ?_
      have hz4 := hz (e13.trans e4)
      have hcz : cueOf s' ks least i n = s'.cueAt ks (i + n - 1) := if_pos hq
      rw [hcz] at hz4
      have hz'' : z = optV (s'.cueAt ks (i + n - 1)) := hz'
      subst hz''
      exact hz4
    · intro hb H3 e3
      have hz4 := hz (e2.trans e3)
      have hcz : cueOf s' ks least i n = none := if_neg fun hq => by
        rw [decide_eq_true hq.2, decide_eq_false hq.1] at hb
        cases hb
      rw [hcz] at hz4
      exact hz4
  refine tail _ H1 (Ex.refl H1) fun {H3} e13 => ?_
  have ro : s'.restOut ks least i n = match cueOf s' ks least i n with
      | none => [.rest n]
      | some k => (if n = 1 then [] else [.rest (n - 1)]) ++ [.cue k (s'.barAt k (i + n - 1))] := rfl
  clear tail
  have e03 := e1.trans e13
  cases hc : cueOf s' ks least i n with
  | none =>
    rw [hc] at ro
    refine q_when (b := true) (et_is (ett (evx_isN (x := optV none) (evv_var rfl))) rfl) ?_ (fun z => by cases z)
    intro _ H4 e4
    refine s_retR (evr_lst1 (evr_tup2 evr_c st_V (nl rfl rfl).trV st_V) (st_piece (.rest n))) fun v H5 e5 hv => k v H5 (e03.trans (e4.trans e5)) ?_
    show rL ((s'.restOut ks least i n).map rPiece) _ _ _
    rw [ro]
    exact (st_L (one_st (st_piece (.rest n)))).back (e03.trans e4) hv
  | some kk =>
    rw [hc] at ro
    have hkk : kk < s'.staves.length := by
      unfold cueOf at hc
      by_cases hq : least ≠ 0 ∧ least ≤ n
      · rw [if_pos hq] at hc
        exact cue_lt hc
      · rw [if_neg hq] at hc
        cases hc
    refine q_when (b := false) (et_is (ett (evx_isN (x := optV (some kk)) (evv_var rfl))) rfl) (fun z => by cases z) ?_
    intro _ H4 e4
    have fr : Fl (rPiece (.rest (n - 1))) := fl_T (fl_two fl_V fl_V)
    have fc : Fl (rPiece (.cue kk (s'.barAt kk (i + n - 1)))) := fl_T fun r hr => by
      rcases List.mem_cons.mp hr with rfl | hr
      · exact fl_V
      · exact fl_two fl_V (fl_bar _) r hr
    have hpre : (List.replicate ((if decide ((1 : Int) < (n : Int)) then 1 else 0 : Int)).toNat [rPiece (.rest (n - 1))]).flatten = (if n = 1 then [] else [Sw71.Piece.rest (n - 1)]).map rPiece := by
      by_cases h1 : n = 1
      · rw [if_pos h1, decide_eq_false (by omega)]
        rfl
      · rw [if_neg h1, decide_eq_true (by omega)]
        rfl
    refine q_asgR (evr_rep (EvR.tx (evr_lst1 (r := rPiece (.rest (n - 1))) (evr_tup2 evr_c st_V ((evx_I0 (i := (n : Int)) (j := 1) (nl rfl rfl) evx_c).is (by show rV (.int ((n : Int) - 1)) = rV (.int ((n - 1 : Nat) : Int)); congr 2; omega)).trV st_V) (st_piece _)) (st_L (one_st (st_piece _)))) (evx_intB (evx_I0 (nl rfl rfl) evx_c)) (one_fl fr) (by split <;> omega) (by simp)) fun va H5 e5 ha => ?_
    rw [hpre] at ha
    have e05 := e03.trans (e4.trans e5)
    have g0 := ms _ _ v0 e05 h0
    have fpre : ∀ r ∈ (if n = 1 then [] else [Sw71.Piece.rest (n - 1)]).map rPiece, Fl r := fun r hr => by
      by_cases h1 : n = 1
      · rw [if_pos h1] at hr; cases hr
      · rw [if_neg h1] at hr
        exact one_fl fr r hr
    have spre := st_L fun r hr => (fpre r hr).st
    refine s_retR (evr_catF (evx_var rfl spre.mo (spre.any ha)) (EvR.tx (evr_lst1 (r := rPiece (.cue kk (s'.barAt kk (i + n - 1)))) (evr_tup3 evr_c st_V (evv_var rfl).trV st_V ((evx_barAt T (evx_var rfl ms g0) (evv_var rfl) ((evx_I0 (i := ((i + n : Nat) : Int)) (j := 1) (evv_var rfl) evx_c).is (by show rV (.int (((i + n : Nat) : Int) - 1)) = rV (.int ((i + n - 1 : Nat) : Int)); congr 2; omega)) hkk (by rw [hw.len_at hkk]; show i + n - 1 < s'.bars.length; omega)).tr (fl_bar _)) (fl_bar _).st) (st_piece _)) (st_L (one_st (st_piece _)))) fpre (one_fl fc) (sz_of (by by_cases h1 : n = 1 <;> simp [h1]))) fun v H6 e6 hv => k v H6 (e05.trans e6) ?_
    show rL ((s'.restOut ks least i n).map rPiece) _ _ _
    rw [ro, List.map_append]
    refine (st_L fun r hr => ?_).back e05 hv
    rcases List.mem_append.mp hr with hr | hr
    · exact (fpre r hr).st
    · exact one_st (st_piece _) r hr
end Ps

namespace Ps
open PySem PySem.Spec PyProof.Rows L2 Evl

/-! ### a part drawn out -/
section
variable {s : Sw71.Score} {ks : List Nat} {least : Nat}
theorem draw_succ (f i : Nat) : s.drawFrom ks least (f + 1) i = if s.bars.length ≤ i then [] else if s.restFrom ks s.bars.length i = 0 then .bar (ks.map fun k => s.barAt k i) :: s.drawFrom ks least f (i + 1)
    else s.restOut ks least i (s.restFrom ks s.bars.length i) ++ s.drawFrom ks least f (i + s.restFrom ks s.bars.length i) := rfl
theorem draw_fuel : ∀ (f g i : Nat), s.bars.length ≤ i + f → s.bars.length ≤ i + g → s.drawFrom ks least f i = s.drawFrom ks least g i
  | 0, 0, _, _, _ => rfl
  | 0, g + 1, i, h, _ => by
    rw [draw_succ, if_pos (by omega)]
    rfl
  | f + 1, 0, i, _, h => by
    rw [draw_succ, if_pos (by omega)]
    rfl
  | f + 1, g + 1, i, h1, h2 => by
    rw [draw_succ, draw_succ]
    by_cases hl : s.bars.length ≤ i
    · rw [if_pos hl, if_pos hl]
    · rw [if_neg hl, if_neg hl]
      by_cases hr : s.restFrom ks s.bars.length i = 0
      · rw [if_pos hr, if_pos hr, draw_fuel f g (i + 1) (by omega) (by omega)]
      · rw [if_neg hr, if_neg hr, draw_fuel f g (i + s.restFrom ks s.bars.length i) (by omega) (by omega)]
theorem draw_end {i : Nat} (h : s.bars.length ≤ i) : s.drawFrom ks least s.bars.length i = [] := by
  rw [draw_fuel s.bars.length (s.bars.length + 1) i (by omega) (by omega), draw_succ, if_pos h]
theorem draw_bar {i : Nat} (h : i < s.bars.length) (hs : s.silent ks i = false) : s.drawFrom ks least s.bars.length i = .bar (ks.map fun k => s.barAt k i) :: s.drawFrom ks least s.bars.length (i + 1) := by
  rw [draw_fuel s.bars.length (s.bars.length + 1) i (by omega) (by omega), draw_succ, if_neg (by omega), if_pos (rest_none hs)]
theorem draw_rest {i : Nat} (h : i < s.bars.length) (hs : s.silent ks i = true) : s.drawFrom ks least s.bars.length i = s.restOut ks least i (s.restFrom ks s.bars.length i) ++ s.drawFrom ks least s.bars.length (i + s.restFrom ks s.bars.length i) := by
  have := rest_first h hs
  rw [draw_fuel s.bars.length (s.bars.length + 1) i (by omega) (by omega), draw_succ, if_neg (by omega), if_neg (by omega)]
theorem out_len {i n : Nat} (hn : 1 ≤ n) : (s.restOut ks least i n).length ≤ n := by
  unfold Sw71.Score.restOut
  split
  · simpa using hn
  · by_cases h1 : n = 1
    · rw [if_pos h1, h1]; simp
    · rw [if_neg h1]; simp; omega
end
def DrInv (H : Hp) (v0 v1 v2 : V) (D : Addr) (s : Sw71.Score) (ks : List Nat) (least : Nat) (m : Nat) (σ' : L2.St) (H' : Hp) : Prop := ∃ (i : Nat) (y5 : Option V) (ys : List V) (done : List Sw71.Piece), σ' = [some v0, some v1, some v2, some (.ref D), some (.int (i : Int)), y5] ∧ Ex H H' ∧ H' D = some (.lst ys) ∧
  All2 (fun v (r : Rl) => r (fun p => H p = none ∧ p ≠ D) H' v) ys (done.map rPiece) ∧ done ++ s.drawFrom ks least s.bars.length i = s.drawFrom ks least s.bars.length 0 ∧ done.length ≤ i ∧ i ≤ s.bars.length ∧ m = s.bars.length - i
def sp_Score_drawn (CS : Addr) : Sp := spP (fun x : Sw71.Score × List Nat × Nat => [rSc CS x.1, rNs x.2.1, rN x.2.2]) (fun x => PartOk x.1 x.2.1) (fun x => rL ((x.1.draw x.2.1 x.2.2).map rPiece))
theorem len_Score_drawn {CS vs H Q E} (h : sp_Score_drawn CS vs H Q E) : vs.length = 3 := len_P (fun _ => rfl) h
theorem ok_Score_drawn {P : Program} {w : World} {K : PySem.W.Frag} {mg : Str → Option Value} {base : Heap} {CR CS : Addr} (T : Tx K mg CR CS) (A : FunM K CS "drawn" "Score.drawn" s_Score_drawn ["self", "part", "least"]) (D_Score_many : Mtd P w K mg base CS "many" 1 ["self"] (sp_Score_many CS)) (D_Score_do_rest : Mtd P w K mg base CS "do_rest" 2 ["self", "part", "at"] (sp_Score_do_rest CS)) (D_Score_rest_end : Mtd P w K mg base CS "rest_end" 3 ["self", "part", "at"] (sp_Score_rest_end CS)) (D_Score_rest_pieces : Mtd P w K mg base CS "rest_pieces" 3 ["self", "part", "at", "end", "least"] (sp_Score_rest_pieces CS)) (D_Score_bars_at : Mtd P w K mg base CS "bars_at" 1 ["self", "part", "at"] (sp_Score_bars_at CS)) : Mtd P w K mg base CS "drawn" 4 ["self", "part", "least"] (sp_Score_drawn CS) := by
  obtain ⟨f, fd, mt, F, b⟩ := A
  obtain ⟨f_Score_many, fd_Score_many, m_score_many, b_score_many, F_score_many⟩ := D_Score_many
  obtain ⟨f_Score_do_rest, fd_Score_do_rest, m_score_do_rest, b_score_do_rest, F_score_do_rest⟩ := D_Score_do_rest
  obtain ⟨f_Score_rest_end, fd_Score_rest_end, m_score_rest_end, b_score_rest_end, F_score_rest_end⟩ := D_Score_rest_end
  obtain ⟨f_Score_rest_pieces, fd_Score_rest_pieces, m_score_rest_pieces, b_score_rest_pieces, F_score_rest_pieces⟩ := D_Score_rest_pieces
  obtain ⟨f_Score_bars_at, fd_Score_bars_at, m_score_bars_at, b_score_bars_at, F_score_bars_at⟩ := D_Score_bars_at
  refine ⟨f, fd, mt, b, F.ok sc_Score_drawn (fun vs H Q E h => len_Score_drawn h) (fun cdv A outer s H vs Q E hr h => ?_)⟩
  obtain ⟨⟨s', ks, least⟩, al, hp, k⟩ := h
  replace hp : PartOk s' ks := hp
  obtain ⟨v0, _, rfl, h0, al⟩ := al.un_cons
  obtain ⟨v1, _, rfl, h1, al⟩ := al.un_cons
  obtain ⟨v2, _, rfl, h2, al⟩ := al.un_cons
  cases al.un_nil
  cases h2
  have ms := mo_sc CS s'
  have mk := (st_ns ks).mo
  have hm40 := hp.1.many
  refine ⟨_, (pss_cons (ps_set (i := 3) sc_Score_drawn.nd rfl (Or.inl rfl) (pe_lst pa_nil))
      (pss_cons (ps_set (i := 4) sc_Score_drawn.nd rfl (Or.inl rfl) pe_int)
      (pss_cons (ps_while PassesOwn.never (pt_cmpR op_lt (pv 4) (pe_meth0 (pv 0) T.cl_score m_score_many F_score_many (hr.mono (by decide)) b_score_many .nil pass0) (nomark _)) (pss_one (ps_if (pt_val (pe_meth (pv 0) T.cl_score m_score_do_rest F_score_do_rest (hr.mono (by decide)) b_score_do_rest .nil pass0 (pa_cons (pv 1) (pa_cons (pv 4) pa_nil)))) (pss_cons (ps_set (i := 5) sc_Score_drawn.nd rfl (Or.inl rfl) (pe_meth (pv 0) T.cl_score m_score_rest_end F_score_rest_end (hr.mono (by decide)) b_score_rest_end .nil pass0 (pa_cons (pv 1) (pa_cons (pv 4) pa_nil))))
          (pss_cons (ps_expr (pe_bm PySem.F.plainAttrs_list PySem.F.slot_list_extend PySem.F.type_list_extend mt_extend (pv 3) (pa_cons (pe_meth (pv 0) T.cl_score m_score_rest_pieces F_score_rest_pieces (hr.mono (by decide)) b_score_rest_pieces .nil pass0 (pa_cons (pv 1) (pa_cons (pv 4) (pa_cons (pv 5) (pa_cons (pv 2) pa_nil))))) pa_nil)))
          (pss_one (ps_set (i := 4) sc_Score_drawn.nd rfl (Or.inl rfl) (pv 5))))) (pss_cons (ps_expr (pe_bm PySem.F.plainAttrs_list PySem.F.slot_list_append PySem.F.type_list_append mt_append (pv 3) (pa_cons (pe_tup (pa_cons (pe_cn T.c_BAR) (pa_cons (pe_meth (pv 0) T.cl_score m_score_bars_at F_score_bars_at (hr.mono (by decide)) b_score_bars_at .nil pass0 (pa_cons (pv 1) (pa_cons (pv 4) pa_nil))) pa_nil))) pa_nil)))
          (pss_one (ps_set (i := 4) sc_Score_drawn.nd rfl (Or.inl rfl) (pe_op op_add (pv 4) pe_int)))))))
      (pss_one (ps_ret (pv 3)))))), ?_⟩
  refine q_asgR evr_nilL fun D H1 e1 hD => ?_
  obtain ⟨D, vs, rfl, nD, hD, al⟩ := hD
  cases al.un_nil
  refine q_asgX evx_c fun z H2 e2 hz => ?_
  cases hz
  refine q_while (DrInv H v0 v1 (.int (least : Int)) D s' ks least) s'.bars.length ⟨0, none, [], [], rfl, e1.trans e2, e2 D _ hD, All2.nil, rfl, Nat.le_refl _, Nat.zero_le _, rfl⟩ ?_
  rintro m σ' H' ⟨i, y5, ys, done, rfl, e, hD', al3, hd, hl, hil, rfl⟩
  have g0 := ms _ _ v0 e h0
  have g1 := mk _ _ v1 e h1
  have grow : ∀ {H5 : Hp} {zs : List V} {new : List Sw71.Piece}, Ex H' H5 → All2 (fun v (r : Rl) => r (New H') H5 v) zs (new.map rPiece) → All2 (fun v (r : Rl) => r (fun p => H p = none ∧ p ≠ D) (upd H5 D (.lst (ys ++ zs))) v) (ys ++ zs) ((done ++ new).map rPiece) := fun {H5 zs new} e5 alz => by
    rw [List.map_append]
    refine keep_D (ys := ys) ?_ (e5 D _ hD') (fun a h => h.2) ((al3.mono fun v r hr h => (st_map st_piece r hr).ex e5 h).append (alz.mono fun v r hr h => ?_))
    · intro r hr
      rcases List.mem_append.mp hr with hr | hr
      · exact st_map st_piece r hr
      · exact st_map st_piece r hr
    · refine st_map st_piece r hr _ _ H5 H5 v (fun p hp => ⟨fresh_back e hp, fun z => ?_⟩) Tr.rf h
      subst z
      rw [show H' p = none from hp] at hD'
      cases hD'
  refine ⟨decide (i < s'.bars.length), et_is (ett (evx_I0 (evv_var rfl) (evx_many (evx_var rfl ms g0)))) (decL _ _), fun hb H3 e3 => ?_, fun hb H3 e3 => ?_⟩
  · have hi := of_decide_eq_true hb
    refine ⟨fun σ2 H4 => ∃ m', m' < s'.bars.length - i ∧ DrInv H v0 v1 (.int (least : Int)) D s' ks least m' σ2 H4, fun _ _ h => h, ?_⟩
    have f0 := ms _ _ v0 e3 g0
    have f1 := mk _ _ v1 e3 g1
    refine s_if (etb (evx_doRest (evx_var rfl ms f0) (evx_var rfl mk f1) (evv_var rfl) hp hi)) ?_ ?_
    · intro hs H4 e4
      have e34 := e3.trans e4
      have hr1 := rest_first hi hs
      have hr2 := rest_le (s := s') (ks := ks) s'.bars.length i hil
      generalize hn : s'.restFrom ks s'.bars.length i = n at hr1 hr2
      refine q_asgX (r := rN (i + n)) ((EvR.txV (evr_meth (rs := [rNs ks, rN i]) (s', ks, i) ⟨hp, hi, hs⟩ st_V obj_sc ms (evx_var rfl ms (ms _ _ v0 e34 g0)) (xa_cons (evx_var rfl mk (mk _ _ v1 e34 g1)) mk (xa_cons (evv_var rfl) st_V.mo xa_nil)) rfl)).is (by rw [hn])) fun z H5 e5 hz => ?_
      cases hz
      have e35 := e34.trans e5
      refine q_extR (e35 D _ hD') (ev_var rfl) (evr_meth (rs := [rNs ks, rN i, rN (i + n), rN least]) (s', ks, i, n, least) ⟨hp.1, by show 1 ≤ n; omega, hr2⟩ (st_L (st_map st_piece)) obj_sc ms (evx_var rfl ms (ms _ _ v0 e35 g0)) (xa_cons (evx_var rfl mk (mk _ _ v1 e35 g1)) mk (xa_cons (evv_var rfl) st_V.mo (xa_cons (evv_var rfl) st_V.mo (xa_cons (evv_var rfl) st_V.mo xa_nil)))) rfl) (st_map st_piece) ?_ fun zs H6 e6 alz => ?_
      · have := out_len (s := s') (ks := ks) (least := least) (i := i) (n := n) (by omega)
        refine sz_of ?_
        rw [al3.1, List.length_map, List.length_map]
        show done.length + (s'.restOut ks least i n).length ≤ 100000
        omega
      · refine s_asgX (evv_var rfl) fun z H7 e7 hz => ?_
        cases hz
        have e36 := e35.trans e6
        have al4 := grow (new := s'.restOut ks least i n) e36 (alz.mono fun v r hr h => (st_map st_piece r hr).back e35 h)
        have o1 := out_len (s := s') (ks := ks) (least := least) (i := i) (n := n) (by omega)
        refine ⟨s'.bars.length - (i + n), by omega, i + n, _, ys ++ zs, done ++ s'.restOut ks least i n, rfl, (Ex.mut (e.trans e36) nD).trans e7, e7 D _ upd_same, al4.mono fun v r hr h => (st_map st_piece r hr).ex e7 h, ?_, by rw [List.length_append]; omega, hr2, rfl⟩
        rw [← hd, draw_rest hi hs, hn, List.append_assoc]
    · intro hs H4 e4
      have e34 := e3.trans e4
      refine q_appR (r := rPiece (.bar (ks.map fun k => s'.barAt k i))) (e34 D _ hD') (ev_var rfl) (evr_tup2 evr_c st_V (evr_meth (rs := [rNs ks, rN i]) (s', ks, i) ⟨hp.1, hp.2.1, hp.2.2, hi⟩ (st_bars _) obj_sc ms (evx_var rfl ms (ms _ _ v0 e34 g0)) (xa_cons (evx_var rfl mk (mk _ _ v1 e34 g1)) mk (xa_cons (evv_var rfl) st_V.mo xa_nil)) rfl) (st_bars _)) (st_piece _) ?_ fun v H6 e6 hv => ?_
      · rw [al3.1, List.length_map]
        exact sz_lt (by omega)
      · refine s_asgX (evx_I0 (i := (i : Int)) (j := 1) (evv_var rfl) evx_c) fun z H7 e7 hz => ?_
        cases hz
        have e36 := e34.trans e6
        have al4 := grow (zs := [v]) (new := [.bar (ks.map fun k => s'.barAt k i)]) e36 (All2.cons ((st_piece _).back e34 hv) All2.nil)
        refine ⟨s'.bars.length - (i + 1), by omega, i + 1, y5, ys ++ [v], done ++ [.bar (ks.map fun k => s'.barAt k i)], rfl, (Ex.mut (e.trans e36) nD).trans e7, e7 D _ upd_same, al4.mono fun v r hr h => (st_map st_piece r hr).ex e7 h, ?_, by rw [List.length_append]; simp; omega, hi, rfl⟩
        rw [← hd, draw_bar hi hs, List.append_assoc]
        rfl
  · have hi := of_decide_eq_false hb
    refine s_retX (evv_var rfl) fun v H4 e4 hv => ?_
    cases hv
    refine k _ H4 (e.trans (e3.trans e4)) ⟨D, ys, rfl, nD, (e3.trans e4) D _ hD', ?_⟩
    rw [draw_end (by omega), List.append_nil] at hd
    show All2 _ ys ((s'.draw ks least).map rPiece)
    unfold Sw71.Score.draw
    rw [← hd]
    exact al3.mono fun v r hr h => st_map st_piece r hr _ _ H' H4 v (fun p hp => hp.1) (Tr.ex (e3.trans e4)) h
/-! ### put back -/
def isRest (s : Sw71.Score) (i n : Nat) : Bool := decide (1 ≤ n) && (decide (i + n ≤ s.bars.length) && (List.range n).all fun j => j == 0 || !s.breaks.contains (i + j))
def sp_Score_is_rest (CS : Addr) : Sp := spP (fun x : Sw71.Score × Nat × Nat => [rSc CS x.1, rN x.2.1, rN x.2.2]) (fun x => Wf x.1) (fun x => rB (isRest x.1 x.2.1 x.2.2))
theorem len_Score_is_rest {CS vs H Q E} (h : sp_Score_is_rest CS vs H Q E) : vs.length = 3 := len_P (fun _ => rfl) h
theorem range_any (p : Nat → Bool) (n : Nat) (hn : 1 ≤ n) : ((List.range n).all fun j => j == 0 || !p j) = !((List.range (n - 1)).any fun j => p (j + 1)) := by
  obtain ⟨m, rfl⟩ : ∃ m, n = m + 1 := ⟨n - 1, by omega⟩
  rw [List.range_succ_eq_map, List.all_cons, List.all_map, Nat.add_sub_cancel, List.not_any_eq_all_not]
  simp [Function.comp_def]
theorem ok_Score_is_rest {P : Program} {w : World} {K : PySem.W.Frag} {mg : Str → Option Value} {base : Heap} {CR CS : Addr} (T : Tx K mg CR CS) (A : FunM K CS "is_rest" "Score.is_rest" s_Score_is_rest ["self", "at", "many"]) (D_Score_many : Mtd P w K mg base CS "many" 1 ["self"] (sp_Score_many CS)) : Mtd P w K mg base CS "is_rest" 2 ["self", "at", "many"] (sp_Score_is_rest CS) := by
  obtain ⟨f, fd, mt, F, b⟩ := A
  obtain ⟨f_Score_many, fd_Score_many, m_score_many, b_score_many, F_score_many⟩ := D_Score_many
  refine ⟨f, fd, mt, b, F.ok sc_Score_is_rest (fun vs H Q E h => len_Score_is_rest h) (fun cdv A outer s H vs Q E hr h => ?_)⟩
  obtain ⟨⟨s', i, n⟩, al, hw, k⟩ := h
  replace hw : Wf s' := hw
  obtain ⟨v0, _, rfl, h0, al⟩ := al.un_cons
  obtain ⟨v1, _, rfl, h1, al⟩ := al.un_cons
  obtain ⟨v2, _, rfl, h2, al⟩ := al.un_cons
  cases al.un_nil
  cases h1; cases h2
  have ms := mo_sc CS s'
  have hm := hw.many
  refine ⟨_, (pss_cons (ps_if (PW.pt (pw_or (pt_cmpR op_lt (pv 2) pe_int (nomark _)) (pw_or1 (pt_cmpR op_gt (pe_op op_add (pv 1) (pv 2)) (pe_meth0 (pv 0) T.cl_score m_score_many F_score_many (hr.mono (by decide)) b_score_many .nil pass0) (nomark _))))) (pss_one (ps_ret pe_bl)) pss_nil)
      (pss_one (ps_ret (pe_not (pe_callB (anyS K rfl) (by rfl) T.any (by decide +kernel) (pa_cons (pe_lc (own := [("k", 3)]) (g := gName 3) (tt := tYes) rfl sc_Score_is_rest.nd (pi_range2 (by rfl) T.range (pa_cons (pe_op op_add (pv 1) pe_int) (pa_cons (pe_op op_add (pv 1) (pv 2)) pa_nil))) (blkOk_by (own := [("k", 3)]) (N := N_Score_is_rest) (sc := defScope s_Score_is_rest) (by decide +kernel)) (fun _ _ _ _ _ => (pg_name (i := 3) sc_Score_is_rest.nd rfl (Or.inl rfl))) (fun _ _ _ _ _ => pts_nil) (fun _ _ _ _ _ => (pe_cmpR (inS K) (pv 3) (fldS K (pv 0) rfl) (by rfl)))) pa_nil)))))), ?_⟩
  refine q_when (b := decide (n < 1) || decide (s'.bars.length < i + n)) (et_or (et_is (ett (evx_I0 (evv_var rfl) evx_c)) (decL n 1)) fun _ => et_is (ett (evx_I0 (i := ((i + n : Nat) : Int)) ((evx_I0 (i := (i : Int)) (j := (n : Int)) (evv_var rfl) (evv_var rfl))) (evx_many (evx_var rfl ms h0)))) (decL _ _)) ?_ ?_
  · intro hb H2 e
    refine s_retR evr_c fun v H3 e3 hv => k v H3 (e.trans e3) ?_
    show v = .bl (isRest s' i n)
    unfold isRest
    rcases Bool.or_eq_true _ _ |>.mp hb with hb | hb
    · have := of_decide_eq_true hb
      rw [decide_eq_false (by omega : ¬ 1 ≤ n)]
      exact hv
    · have := of_decide_eq_true hb
      rw [decide_eq_false (by omega : ¬ i + n ≤ s'.bars.length), Bool.false_and, Bool.and_false]
      exact hv
  · intro hb H2 e
    have hb2 := Bool.or_eq_false_iff.mp hb
    have q1 := of_decide_eq_false hb2.1
    have q2 := of_decide_eq_false hb2.2
    refine s_retX (evx_notV (evx_anyM (f := fun j => s'.breaks.contains (i + (j + 1))) (EvR.tx (lcR2 (lo := (i : Int) + 1) (hi := (i : Int) + (n : Int)) (n - 1) (fun j => rB (s'.breaks.contains (i + (j + 1)))) (xa_cons (evx_I0 (evv_var rfl) evx_c) st_V.mo (xa_cons (evx_I0 (evv_var rfl) (evv_var rfl)) st_V.mo xa_nil)) (by omega) (by omega) (fun _ => st_V) (fun _ => rfl)
      fun j H3 hj e3 => ((evx_inNs ((evv_var rfl).is (by show rV (.int ((i : Int) + 1 + (j : Int))) = rV (.int ((i + (j + 1) : Nat) : Int)); congr 2; omega)) (evx_breaks T (evx_var rfl ms (ms _ _ v0 (e.trans e3) h0))))).trV) (st_L (st_map fun _ => st_V))))) fun v H3 e3 hv => k v H3 (e.trans e3) ?_
    show v = .bl (isRest s' i n)
    unfold isRest
    rw [decide_eq_true (by omega : 1 ≤ n), decide_eq_true (by omega : i + n ≤ s'.bars.length), range_any (fun j => s'.breaks.contains (i + j)) n (by omega)]
    exact hv
def isFull (s : Sw71.Score) (i m : Nat) (b : List Sw71.Bar) : Bool := match s.bars[i]? with
  | some n => decide (b.length = m) && (b.all (Sw71.barOk n) && !b.all Sw71.rests)
  | none => false
def sp_Score_is_full (CS : Addr) : Sp := spP (fun x : Sw71.Score × Nat × Nat × List Sw71.Bar => [rSc CS x.1, rN x.2.1, rN x.2.2.1, rBars x.2.2.2]) (fun x => CapL x.2.2.2) (fun x => rB (isFull x.1 x.2.1 x.2.2.1 x.2.2.2))
theorem len_Score_is_full {CS vs H Q E} (h : sp_Score_is_full CS vs H Q E) : vs.length = 4 := len_P (fun _ => rfl) h
theorem evx_lengthAt {K : PySem.W.Frag} {mg : Str → Option Value} {CR CS : Addr} {σ : L2.St} {H : Hp} {te tb : TE} {s : Sw71.Score} (T : Tx K mg CR CS) {i n : Nat} (h : EvX te σ H (rSc CS s)) (hi : EvX tb σ H (rN i)) (hn : s.bars[i]? = some n) : EvX (tOp (rIxL K) (tFld K te "lengths") tb) σ H (rN n) :=
  evx_ixL (j := i) (evx_lengths T h) hi rfl (by rw [List.getElem?_map, hn]; rfl) (mo_map fun _ => st_V.mo)
theorem ok_Score_is_full {P : Program} {w : World} {K : PySem.W.Frag} {mg : Str → Option Value} {base : Heap} {CR CS : Addr} (T : Tx K mg CR CS) (A : FunM K CS "is_full" "Score.is_full" s_Score_is_full ["self", "at", "m", "bars"]) (D_is_bar : Dfn P w K mg base "is_bar" 2 ["bar", "length"] (sp_is_bar)) (D_does_rest : Dfn P w K mg base "does_rest" 1 ["bar"] (sp_does_rest)) (D_Score_many : Mtd P w K mg base CS "many" 1 ["self"] (sp_Score_many CS)) : Mtd P w K mg base CS "is_full" 3 ["self", "at", "m", "bars"] (sp_Score_is_full CS) := by
  obtain ⟨f, fd, mt, F, b⟩ := A
  obtain ⟨f_is_bar, fd_is_bar, g_is_bar, k_is_bar, b_is_bar, F_is_bar⟩ := D_is_bar
  obtain ⟨f_does_rest, fd_does_rest, g_does_rest, k_does_rest, b_does_rest, F_does_rest⟩ := D_does_rest
  obtain ⟨f_Score_many, fd_Score_many, m_score_many, b_score_many, F_score_many⟩ := D_Score_many
  refine ⟨f, fd, mt, b, F.ok sc_Score_is_full (fun vs H Q E h => len_Score_is_full h) (fun cdv A outer s H vs Q E hr h => ?_)⟩
  obtain ⟨⟨s', i, m, b⟩, al, hp, k⟩ := h
  replace hp : CapL b := hp
  obtain ⟨v0, _, rfl, h0, al⟩ := al.un_cons
  obtain ⟨v1, _, rfl, h1, al⟩ := al.un_cons
  obtain ⟨v2, _, rfl, h2, al⟩ := al.un_cons
  obtain ⟨v3, _, rfl, h3, al⟩ := al.un_cons
  cases al.un_nil
  cases h1; cases h2
  have ms := mo_sc CS s'
  have mb := (st_bars b).mo
  have hbl : b.length ≤ 60 := hp.1
  refine ⟨_, (pss_cons (ps_if (PW.pt (pw_or (pt_cmpR op_ge (pv 1) (pe_meth0 (pv 0) T.cl_score m_score_many F_score_many (hr.mono (by decide)) b_score_many .nil pass0) (nomark _)) (pw_or (pt_cmpR op_ne (pe_callB (lenS K) (by rfl) T.len PySem.boot_len (pa_cons (pv 3) pa_nil)) (pv 2) (nomark _)) (pw_or1 (pt_not (pt_val (pe_callB (allS K rfl) (by rfl) T.all (by decide +kernel) (pa_cons (pe_lc (own := [("bar", 4)]) (g := gName 4) (tt := tYes) rfl sc_Score_is_full.nd (piL K (pv 3)) (blkOk_by (own := [("bar", 4)]) (N := N_Score_is_full) (sc := defScope s_Score_is_full) (by decide +kernel)) (fun _ _ _ _ _ => (pg_name (i := 4) sc_Score_is_full.nd rfl (Or.inl rfl))) (fun _ _ _ _ _ => pts_nil) (fun _ _ _ _ _ => (pe_call F_is_bar (hr.mono (by decide)) (by rfl) g_is_bar k_is_bar b_is_bar .nil pass0 (pa_cons (pv 4) (pa_cons (pe_ix (ixL K) (fldS K (pv 0) rfl) (pv 1) (fun _ _ => rfl)) pa_nil))))) pa_nil)))))))) (pss_one (ps_ret pe_bl)) pss_nil)
      (pss_one (ps_ret (pe_not (pe_callB (allS K rfl) (by rfl) T.all (by decide +kernel) (pa_cons (pe_lc (own := [("bar", 4)]) (g := gName 4) (tt := tYes) rfl sc_Score_is_full.nd (piL K (pv 3)) (blkOk_by (own := [("bar", 4)]) (N := N_Score_is_full) (sc := defScope s_Score_is_full) (by decide +kernel)) (fun _ _ _ _ _ => (pg_name (i := 4) sc_Score_is_full.nd rfl (Or.inl rfl))) (fun _ _ _ _ _ => pts_nil) (fun _ _ _ _ _ => (pe_call F_does_rest (hr.mono (by decide)) (by rfl) g_does_rest k_does_rest b_does_rest .nil pass0 (pa_cons (pv 4) pa_nil)))) pa_nil)))))), ?_⟩
  refine q_when (b := decide (s'.bars.length ≤ i) || (!decide (b.length = m) || !(b.all (Sw71.barOk (s'.bars.getD i 0))))) (et_or (et_is (ett (evx_I0 (evv_var rfl) (evx_many (evx_var rfl ms h0)))) (decLe _ _)) fun hi => et_or (et_is (ett (evx_ne ((evx_lenL (evx_var rfl mb h3)).is (by rw [List.length_map])) (evv_var rfl) rfl)) (congrArg not (decV _ _))) fun _ => et_not (etb (evx_allM (EvR.tx (lcL b rBar (fun x => rB (Sw71.barOk (s'.bars.getD i 0) x)) (evx_var rfl mb h3) (fun a => (fl_bar a).mo) (by omega) (fun _ => st_V) (fun _ => rfl)
      fun a v H2 ha e hv => evr_call (a, s'.bars.getD i 0) (hp.2 a ha) st_V (xa_cons (evx_var rfl (fl_bar a).mo hv) (fl_bar a).mo (xa_cons (evx_lengthAt T (evx_var rfl ms (ms _ _ v0 e h0)) (evv_var rfl) (by
        have h1 : ¬ s'.bars.length ≤ i := of_decide_eq_false hi
        have h2 : s'.bars[i]? = some (s'.bars.getD i 0) := by
          rw [List.getD_eq_getElem?_getD, List.getElem?_eq_getElem (by omega)]
          rfl
        exact h2)) st_V.mo xa_nil))) (st_L (st_map fun _ => st_V)))))) ?_ ?_
  · intro hb H2 e
    refine s_retR evr_c fun v H3 e3 hv => k v H3 (e.trans e3) ?_
    show v = .bl (isFull s' i m b)
    unfold isFull
    by_cases hi : s'.bars.length ≤ i
    · rw [List.getElem?_eq_none hi]
      exact hv
    · rw [decide_eq_false hi, List.getD_eq_getElem?_getD, List.getElem?_eq_getElem (by omega)] at hb
      rw [List.getElem?_eq_getElem (by omega)]
      simp only [Option.getD_some, Bool.false_or] at hb
      have : (decide (b.length = m) && (b.all (Sw71.barOk (s'.bars[i]'(by omega))) && !b.all Sw71.rests)) = false := by
        rcases Bool.or_eq_true _ _ |>.mp hb with hb | hb
        · have : decide (b.length = m) = false := by simpa using hb
          rw [this]; rfl
        · have : b.all (Sw71.barOk (s'.bars[i]'(by omega))) = false := by simpa using hb
          rw [this, Bool.false_and, Bool.and_false]
      show v = .bl (decide (b.length = m) && (b.all (Sw71.barOk (s'.bars[i]'(by omega))) && !b.all Sw71.rests))
      rw [this]
      exact hv
  · intro hb H2 e
    refine s_retX (evx_notV (evx_allM (EvR.tx (lcL b rBar (fun x => rB (Sw71.rests x)) (evx_var rfl mb (mb _ _ v3 e h3)) (fun a => (fl_bar a).mo) (by omega) (fun _ => st_V) (fun _ => rfl)
      fun a v H3 ha e3 hv => evr_call a (hp.2 a ha).1 st_V (xa_cons (evx_var rfl (fl_bar a).mo hv) (fl_bar a).mo xa_nil)) (st_L (st_map fun _ => st_V))))) fun v H3 e3 hv => k v H3 (e.trans e3) ?_
    show v = .bl (isFull s' i m b)
    have hb1 := Bool.or_eq_false_iff.mp hb
    have hi := of_decide_eq_false hb1.1
    have hb2 := Bool.or_eq_false_iff.mp hb1.2
    have q1 : decide (b.length = m) = true := by simpa using hb2.1
    have q2 : b.all (Sw71.barOk (s'.bars.getD i 0)) = true := by simpa using hb2.2
    unfold isFull
    rw [List.getD_eq_getElem?_getD, List.getElem?_eq_getElem (by omega)] at q2
    rw [List.getElem?_eq_getElem (by omega)]
    show v = .bl (decide (b.length = m) && (b.all (Sw71.barOk (s'.bars[i]'(by omega))) && !b.all Sw71.rests))
    rw [q1, show b.all (Sw71.barOk (s'.bars[i]'(by omega))) = true from q2]
    exact hv
end Ps

namespace Ps
open PySem PySem.Spec PyProof.Rows L2 Evl

/-! ### columns -/
def colsOf (s : Sw71.Score) (i m : Nat) : Sw71.Piece → Option (List (List Sw71.Bar))
  | .rest n => if isRest s i n = true then some ((List.range n).map fun j => List.replicate m [⟨s.bars.getD (i + j) 0, []⟩]) else none
  | .bar b => if isFull s i m b = true then some [b.map fun x => asStaff x (s.bars.getD i 0)] else none
  | .cue _ b => if i < s.bars.length ∧ Sw71.barOk (s.bars.getD i 0) b = true then some [List.replicate m [⟨s.bars.getD i 0, []⟩]] else none
def rCols (o : Option (List (List Sw71.Bar))) : Rl := match o with
  | none => rV .non
  | some cs => rL (cs.map rBars)
theorem st_cols (o : Option (List (List Sw71.Bar))) : St (rCols o) := by
  cases o with
  | none => exact st_V
  | some cs => exact st_L (st_map st_bars)
def CapP : Sw71.Piece → Prop
  | .rest n => n < 2 ^ 32
  | .bar b => CapL b
  | .cue _ b => Cap b
def sp_Score_columns_of (CS : Addr) : Sp := spP (fun x : Sw71.Score × Nat × Nat × Sw71.Piece => [rSc CS x.1, rN x.2.1, rN x.2.2.1, rPiece x.2.2.2]) (fun x => Wf x.1 ∧ x.2.2.1 ≤ 8 ∧ CapP x.2.2.2) (fun x => rCols (colsOf x.1 x.2.1 x.2.2.1 x.2.2.2))
theorem len_Score_columns_of {CS vs H Q E} (h : sp_Score_columns_of CS vs H Q E) : vs.length = 4 := len_P (fun _ => rfl) h
section
variable {K : PySem.W.Frag} {σ : L2.St} {H : Hp} {te tl th : TE}
theorem evr_slN {ns : List Nat} {n m : Nat} (h : EvX te σ H (rNs ns)) (hl : EvX tl σ H (rN n)) (hh : EvX th σ H (rN m)) : EvR (tSl (rSlL K) te (tPart tl) (tPart th)) σ H (rNs ((ns.drop n).take (m - n))) := fun H1 e Q q =>
  h H1 e _ fun x H2 e2 ⟨p, vs, ex, _, ep, al⟩ => hl H2 (e.trans e2) _ fun y H3 e3 hy => ⟨n, hy, hh H3 ((e.trans e2).trans e3) _ fun z H4 e4 hz => ⟨m, hz, by
    subst ex
    cases ints_of.mp al
    have e24 := e3.trans e4
    exact ⟨p, _, rfl, SqL.of (e24 p _ ep), fun l hl => q _ _ ((e2.trans e24).trans (Ex.new hl)) ⟨l, _, rfl, fresh_back (e2.trans e24) hl, upd_same, ints_of.mpr (cut_keys ns n m)⟩⟩⟩⟩
theorem flat_one {α : Type} (r : α) : ∀ m : Nat, (List.replicate m [r]).flatten = List.replicate m r
  | 0 => rfl
  | m + 1 => by
    rw [List.replicate_succ, List.flatten_cons, flat_one r m, List.replicate_succ]
    rfl
theorem evr_repBar {tb : TE} {b : Sw71.Bar} {m : Nat} (ha : EvR te σ H (rBar b)) (hb : EvX tb σ H (rN m)) (hm : m ≤ 8) : EvR (tOp rRep (tLst (tCons te tNil)) tb) σ H (rBars (List.replicate m b)) := by
  have h := evr_rep (m := (m : Int)) (EvR.tx (evr_lst1 ha (fl_bar b).st) (st_L (one_st (fl_bar b).st))) hb (one_fl (fl_bar b)) (by omega) (by simp)
  rw [Int.toNat_natCast, flat_one] at h
  exact h.is (by unfold rBars; rw [List.map_replicate])
end
def sortOf : Sw71.Piece → Nat
  | .rest _ => 0
  | .bar _ => 1
  | .cue _ _ => 2
theorem evx_sort {K : PySem.W.Frag} {σ : L2.St} {H : Hp} {i : Nat} {v : V} {p : Sw71.Piece} (hs : σ[i]? = some (some v)) (h : rPiece p Any H v) : EvX (tOp (rIxT K) (tVar i) (tC (.int 0))) σ H (rN (sortOf p)) := by
  cases p with
  | rest n => exact evx_ixT (j := 0) (rs := [rN 0, rN n]) (evx_var hs (st_piece (.rest n)).mo h) evx_c rfl rfl (mo_two st_V.mo st_V.mo)
  | bar l => exact evx_ixT (j := 0) (rs := [rN 1, rBars l]) (evx_var hs (st_piece (.bar l)).mo h) evx_c rfl rfl (mo_two st_V.mo (st_bars l).mo)
  | cue k b =>
    refine evx_ixT (j := 0) (rs := [rN 2, rN k, rBar b]) (evx_var hs (st_piece (.cue k b)).mo h) evx_c rfl rfl fun r hr => ?_
    rcases List.mem_cons.mp hr with rfl | hr
    · exact st_V.mo
    · exact mo_two st_V.mo (fl_bar b).mo r hr
theorem lens_cut {ns : List Nat} {i n : Nat} (h : i + n ≤ ns.length) : (ns.drop i).take n = (List.range n).map fun j => ns.getD (i + j) 0 := by
  refine List.ext_getElem (by rw [List.length_take, List.length_drop, List.length_map, List.length_range]; omega) fun j h1 h2 => ?_
  rw [List.getElem_take, List.getElem_drop, List.getElem_map, List.getElem_range, List.getD_eq_getElem?_getD, List.getElem?_eq_getElem (by
    rw [List.length_map, List.length_range] at h2
    omega)]
  rfl
theorem ok_Score_columns_of {P : Program} {w : World} {K : PySem.W.Frag} {mg : Str → Option Value} {base : Heap} {CR CS : Addr} (T : Tx K mg CR CS) (A : FunM K CS "columns_of" "Score.columns_of" s_Score_columns_of ["self", "at", "m", "piece"]) (D_rest_of : Dfn P w K mg base "rest_of" 1 ["length"] (sp_rest_of)) (D_as_staff_has : Dfn P w K mg base "as_staff_has" 2 ["bar", "length"] (sp_as_staff_has)) (D_is_bar : Dfn P w K mg base "is_bar" 2 ["bar", "length"] (sp_is_bar)) (D_Score_is_rest : Mtd P w K mg base CS "is_rest" 2 ["self", "at", "many"] (sp_Score_is_rest CS)) (D_Score_is_full : Mtd P w K mg base CS "is_full" 3 ["self", "at", "m", "bars"] (sp_Score_is_full CS)) (D_Score_many : Mtd P w K mg base CS "many" 1 ["self"] (sp_Score_many CS)) : Mtd P w K mg base CS "columns_of" 4 ["self", "at", "m", "piece"] (sp_Score_columns_of CS) := by
  obtain ⟨f, fd, mt, F, b⟩ := A
  obtain ⟨f_rest_of, fd_rest_of, g_rest_of, k_rest_of, b_rest_of, F_rest_of⟩ := D_rest_of
  obtain ⟨f_as_staff_has, fd_as_staff_has, g_as_staff_has, k_as_staff_has, b_as_staff_has, F_as_staff_has⟩ := D_as_staff_has
  obtain ⟨f_is_bar, fd_is_bar, g_is_bar, k_is_bar, b_is_bar, F_is_bar⟩ := D_is_bar
  obtain ⟨f_Score_is_rest, fd_Score_is_rest, m_score_is_rest, b_score_is_rest, F_score_is_rest⟩ := D_Score_is_rest
  obtain ⟨f_Score_is_full, fd_Score_is_full, m_score_is_full, b_score_is_full, F_score_is_full⟩ := D_Score_is_full
  obtain ⟨f_Score_many, fd_Score_many, m_score_many, b_score_many, F_score_many⟩ := D_Score_many
  refine ⟨f, fd, mt, b, F.ok sc_Score_columns_of (fun vs H Q E h => len_Score_columns_of h) (fun cdv A outer s H vs Q E hr h => ?_)⟩
  obtain ⟨⟨s', i, m, p⟩, al, ⟨hw, hm, hc⟩, k⟩ := h
  replace hw : Wf s' := hw
  replace hm : m ≤ 8 := hm
  obtain ⟨v0, _, rfl, h0, al⟩ := al.un_cons
  obtain ⟨v1, _, rfl, h1, al⟩ := al.un_cons
  obtain ⟨v2, _, rfl, h2, al⟩ := al.un_cons
  obtain ⟨v3, _, rfl, h3, al⟩ := al.un_cons
  cases al.un_nil
  cases h1; cases h2
  have ms := mo_sc CS s'
  have mp := (st_piece p).mo
  have hm40 := hw.many
  refine ⟨_, (pss_cons (ps_if (pt_cmpR op_eq (pe_ix (ixT K) (pv 3) pe_int (fun _ _ => rfl)) (pe_cn T.c_REST) (nomark _)) (pss_cons (ps_if (pt_not (pt_val (pe_meth (pv 0) T.cl_score m_score_is_rest F_score_is_rest (hr.mono (by decide)) b_score_is_rest .nil pass0 (pa_cons (pv 1) (pa_cons (pe_ix (ixT K) (pv 3) pe_int (fun _ _ => rfl)) pa_nil))))) (pss_one (ps_ret pe_non)) pss_nil)
        (pss_one (ps_ret (pe_lc (own := [("length", 4)]) (g := gName 4) (tt := tYes) rfl sc_Score_columns_of.nd (piL K (pe_slice (slL K) (fldS K (pv 0) rfl) (po_some (pv 1)) (po_some (pe_op op_add (pv 1) (pe_ix (ixT K) (pv 3) pe_int (fun _ _ => rfl)))))) (blkOk_by (own := [("length", 4)]) (N := N_Score_columns_of) (sc := defScope s_Score_columns_of) (by decide +kernel)) (fun _ _ _ _ _ => (pg_name (i := 4) sc_Score_columns_of.nd rfl (Or.inl rfl))) (fun _ _ _ _ _ => pts_nil) (fun _ _ _ _ _ => (pe_op op_rep (pe_lst (pa_cons (pe_call F_rest_of (hr.mono (by decide)) (by rfl) g_rest_of k_rest_of b_rest_of .nil pass0 (pa_cons (pv 4) pa_nil)) pa_nil)) (pv 2))))))) pss_nil)
      (pss_cons (ps_if (pt_cmpR op_eq (pe_ix (ixT K) (pv 3) pe_int (fun _ _ => rfl)) (pe_cn T.c_BAR) (nomark _)) (pss_cons (ps_if (pt_not (pt_val (pe_meth (pv 0) T.cl_score m_score_is_full F_score_is_full (hr.mono (by decide)) b_score_is_full .nil pass0 (pa_cons (pv 1) (pa_cons (pv 2) (pa_cons (pe_ix (ixT K) (pv 3) pe_int (fun _ _ => rfl)) pa_nil)))))) (pss_one (ps_ret pe_non)) pss_nil)
        (pss_one (ps_ret (pe_lst (pa_cons (pe_lc (own := [("bar", 5)]) (g := gName 5) (tt := tYes) rfl sc_Score_columns_of.nd (piL K (pe_ix (ixT K) (pv 3) pe_int (fun _ _ => rfl))) (blkOk_by (own := [("bar", 5)]) (N := N_Score_columns_of) (sc := defScope s_Score_columns_of) (by decide +kernel)) (fun _ _ _ _ _ => (pg_name (i := 5) sc_Score_columns_of.nd rfl (Or.inl rfl))) (fun _ _ _ _ _ => pts_nil) (fun _ _ _ _ _ => (pe_call F_as_staff_has (hr.mono (by decide)) (by rfl) g_as_staff_has k_as_staff_has b_as_staff_has .nil pass0 (pa_cons (pv 5) (pa_cons (pe_ix (ixL K) (fldS K (pv 0) rfl) (pv 1) (fun _ _ => rfl)) pa_nil))))) pa_nil))))) pss_nil)
      (pss_cons (ps_if (PW.pt (pw_or (pt_cmpR op_ge (pv 1) (pe_meth0 (pv 0) T.cl_score m_score_many F_score_many (hr.mono (by decide)) b_score_many .nil pass0) (nomark _)) (pw_or1 (pt_not (pt_val (pe_call F_is_bar (hr.mono (by decide)) (by rfl) g_is_bar k_is_bar b_is_bar .nil pass0 (pa_cons (pe_ix (ixT K) (pv 3) pe_int (fun _ _ => rfl)) (pa_cons (pe_ix (ixL K) (fldS K (pv 0) rfl) (pv 1) (fun _ _ => rfl)) pa_nil)))))))) (pss_one (ps_ret pe_non)) pss_nil)
      (pss_one (ps_ret (pe_lst (pa_cons (pe_op op_rep (pe_lst (pa_cons (pe_call F_rest_of (hr.mono (by decide)) (by rfl) g_rest_of k_rest_of b_rest_of .nil pass0 (pa_cons (pe_ix (ixL K) (fldS K (pv 0) rfl) (pv 1) (fun _ _ => rfl)) pa_nil)) pa_nil)) (pv 2)) pa_nil))))))), ?_⟩
  have sq : ∀ {H' : Hp} {c : Nat}, Ex H H' → EvT (tTest (tOp rEq (tOp (rIxT K) (tVar 3) (tC (.int 0))) (tC (.int (c : Int))))) (start N_Score_columns_of [v0, .int (i : Int), .int (m : Int), v3]) H' (decide (sortOf p = c)) := fun {H' c} e => et_is (ett (evx_eq (evx_sort rfl (mp _ _ v3 e h3)) evx_c rfl)) (decV _ _)
  refine q_when (sq (c := 0) (Ex.refl H)) ?_ ?_
  · intro hb H2 e
    obtain ⟨n, rfl⟩ : ∃ n, p = .rest n := by
      cases p with
      | rest n => exact ⟨n, rfl⟩
      | bar l => cases hb
      | cue kk b => cases hb
    have g0 := ms _ _ v0 e h0
    have g3 := mp _ _ v3 e h3
    have nx : ∀ {σ : L2.St} {H' : Hp}, Ex H H' → σ[3]? = some (some v3) → EvX (tOp (rIxT K) (tVar 3) (tC (.int 1))) σ H' (rN n) := fun e' hs => evx_ixT (j := 1) (rs := [rN 0, rN n]) (evx_var hs mp (mp _ _ v3 e' h3)) evx_c rfl rfl (mo_two st_V.mo st_V.mo)
    refine q_when (et_not (etb (EvR.txV (evr_meth (rs := [rN i, rN n]) (s', i, n) hw st_V obj_sc ms (evx_var rfl ms g0) (xa_cons (evv_var rfl) st_V.mo (xa_cons (nx e rfl) st_V.mo xa_nil)) rfl)))) ?_ ?_
    · intro hr H3 e3
      have hr' : isRest s' i n = false := by simpa using hr
      refine s_retR evr_c fun v H4 e4 hv => k v H4 (e.trans (e3.trans e4)) ?_
      show rCols (colsOf s' i m (.rest n)) _ _ _
      rw [colsOf, hr', if_neg Bool.false_ne_true]
      exact hv
    · intro hr H3 e3
      have hr' : isRest s' i n = true := by simpa using hr
      have hin : i + n ≤ s'.bars.length := by
        unfold isRest at hr'
        have := (Bool.and_eq_true _ _).mp hr'
        exact of_decide_eq_true ((Bool.and_eq_true _ _).mp this.2).1
      have e03 := e.trans e3
      refine s_retR (lcL ((s'.bars.drop i).take n) (fun a => rN a) (fun a => rBars (List.replicate m [⟨a, []⟩])) (EvR.tx ((evr_slN (n := i) (m := i + n) (evx_lengths T (evx_var rfl ms (ms _ _ v0 e03 h0))) (evv_var rfl) (evx_I0 (i := (i : Int)) (j := (n : Int)) (evv_var rfl) (nx e03 rfl))).is (by rw [Nat.add_sub_cancel_left]; rfl)) (st_ns _)) (fun _ => st_V.mo) (by rw [List.length_take, List.length_drop]; omega) (fun _ => st_bars _) (fun _ => rfl)
        fun a v H4 ha e4 hv => evr_repBar (evr_call a trivial (fl_bar _).st (xa_cons (evx_var rfl st_V.mo hv) st_V.mo xa_nil)) (evv_var rfl) hm) fun v H4 e4 hv => k v H4 (e03.trans e4) ?_
      show rCols (colsOf s' i m (.rest n)) _ _ _
      rw [colsOf, if_pos hr']
      rw [lens_cut hin, List.map_map] at hv
      show rL (((List.range n).map fun j => List.replicate m [(⟨s'.bars.getD (i + j) 0, []⟩ : Sw71.Item)]).map rBars) _ _ _
      rw [List.map_map]
      exact (st_L (st_map fun _ => st_bars _)).back e03 hv
  intro hb H2 e
  have n0 := of_decide_eq_false hb
  refine q_when (sq (c := 1) e) ?_ ?_
  · intro hc1 H3 e3
    obtain ⟨l, rfl⟩ : ∃ l, p = .bar l := by
      cases p with
      | rest n => cases hc1
      | bar l => exact ⟨l, rfl⟩
      | cue kk b => cases hc1
    replace hc : CapL l := hc
    have hll : l.length ≤ 60 := hc.1
    have e03 := e.trans e3
    have lx : ∀ {σ : L2.St} {H' : Hp}, Ex H H' → σ[3]? = some (some v3) → EvX (tOp (rIxT K) (tVar 3) (tC (.int 1))) σ H' (rBars l) := fun e' hs => evx_ixT (j := 1) (rs := [rN 1, rBars l]) (evx_var hs mp (mp _ _ v3 e' h3)) evx_c rfl rfl (mo_two st_V.mo (st_bars l).mo)
    refine q_when (et_not (etb (EvR.txV (evr_meth (rs := [rN i, rN m, rBars l]) (s', i, m, l) hc st_V obj_sc ms (evx_var rfl ms (ms _ _ v0 e03 h0)) (xa_cons (evv_var rfl) st_V.mo (xa_cons (evv_var rfl) st_V.mo (xa_cons (lx e03 rfl) (st_bars l).mo xa_nil))) rfl)))) ?_ ?_
    · intro hr H4 e4
      have hr' : isFull s' i m l = false := by simpa using hr
      refine s_retR evr_c fun v H5 e5 hv => k v H5 (e03.trans (e4.trans e5)) ?_
      show rCols (colsOf s' i m (.bar l)) _ _ _
      rw [colsOf, hr', if_neg Bool.false_ne_true]
      exact hv
    · intro hr H4 e4
      have hr' : isFull s' i m l = true := by simpa using hr
      have e04 := e03.trans e4
      have hi : i < s'.bars.length := by
        by_cases hi : i < s'.bars.length
        · exact hi
        · unfold isFull at hr'
          rw [List.getElem?_eq_none (by omega)] at hr'
          cases hr'
      have hn : s'.bars[i]? = some (s'.bars.getD i 0) := by
        rw [List.getD_eq_getElem?_getD, List.getElem?_eq_getElem hi]
        rfl
      refine s_retR (evr_lst1 (r := rBars (l.map fun x => asStaff x (s'.bars.getD i 0))) ((lcL l rBar (fun x => rBar (asStaff x (s'.bars.getD i 0))) (lx e04 rfl) (fun a => (fl_bar a).mo) (by omega) (fun _ => (fl_bar _).st) (fun _ => rfl)
        fun a v H5 ha e5 hv => evr_call (a, s'.bars.getD i 0) (hc.2 a ha).1 (fl_bar _).st (xa_cons (evx_var rfl (fl_bar a).mo hv) (fl_bar a).mo (xa_cons (evx_lengthAt T (evx_var rfl ms (ms _ _ v0 (e04.trans e5) h0)) (evv_var rfl) hn) st_V.mo xa_nil))).is (by unfold rBars; rw [List.map_map]; rfl)) (st_bars _)) fun v H5 e5 hv => k v H5 (e04.trans e5) ?_
      show rCols (colsOf s' i m (.bar l)) _ _ _
      rw [colsOf, if_pos hr']
      exact (st_L (one_st (st_bars _))).back e04 hv
  intro hc1 H3 e3
  have n1 := of_decide_eq_false hc1
  obtain ⟨kk, b, rfl⟩ : ∃ kk b, p = .cue kk b := by
    cases p with
    | rest n => exact absurd rfl n0
    | bar l => exact absurd rfl n1
    | cue kk b => exact ⟨kk, b, rfl⟩
  replace hc : Cap b := hc
  have e03 := e.trans e3
  have bx : ∀ {σ : L2.St} {H' : Hp}, Ex H H' → σ[3]? = some (some v3) → EvX (tOp (rIxT K) (tVar 3) (tC (.int 2))) σ H' (rBar b) := fun e' hs => evx_ixT (j := 2) (rs := [rN 2, rN kk, rBar b]) (evx_var hs mp (mp _ _ v3 e' h3)) evx_c rfl rfl fun r hr => by
    rcases List.mem_cons.mp hr with rfl | hr
    · exact st_V.mo
    · exact mo_two st_V.mo (fl_bar b).mo r hr
  have hn : ¬ s'.bars.length ≤ i → s'.bars[i]? = some (s'.bars.getD i 0) := fun hi => by
    rw [List.getD_eq_getElem?_getD, List.getElem?_eq_getElem (by omega)]
    rfl
  refine q_when (b := decide (s'.bars.length ≤ i) || !(Sw71.barOk (s'.bars.getD i 0) b)) (et_or (et_is (ett (evx_I0 (evv_var rfl) (evx_many (evx_var rfl ms (ms _ _ v0 e03 h0))))) (decLe _ _)) fun hi => et_not (etb (EvR.txV (evr_call (b, s'.bars.getD i 0) hc st_V (xa_cons (bx e03 rfl) (fl_bar b).mo (xa_cons (evx_lengthAt T (evx_var rfl ms (ms _ _ v0 e03 h0)) (evv_var rfl) (hn (of_decide_eq_false hi))) st_V.mo xa_nil)))))) ?_ ?_
  · intro hd H4 e4
    refine s_retR evr_c fun v H5 e5 hv => k v H5 (e03.trans (e4.trans e5)) ?_
    show rCols (colsOf s' i m (.cue kk b)) _ _ _
    rw [colsOf, if_neg (fun z => by
      rw [decide_eq_false (by omega : ¬ s'.bars.length ≤ i), z.2] at hd
      cases hd)]
    exact hv
  · intro hd H4 e4
    have hd2 := Bool.or_eq_false_iff.mp hd
    have hi := of_decide_eq_false hd2.1
    have hok : Sw71.barOk (s'.bars.getD i 0) b = true := by simpa using hd2.2
    have e04 := e03.trans e4
    refine s_retR (evr_lst1 (r := rBars (List.replicate m [⟨s'.bars.getD i 0, []⟩])) (evr_repBar (evr_call (s'.bars.getD i 0) trivial (fl_bar _).st (xa_cons (evx_lengthAt T (evx_var rfl ms (ms _ _ v0 e04 h0)) (evv_var rfl) (hn hi)) st_V.mo xa_nil)) (evv_var rfl) hm) (st_bars _)) fun v H5 e5 hv => k v H5 (e04.trans e5) ?_
    show rCols (colsOf s' i m (.cue kk b)) _ _ _
    rw [colsOf, if_pos ⟨by omega, hok⟩]
    exact (st_L (one_st (st_bars _))).back e04 hv
end Ps

namespace Ps
open PySem PySem.Spec PyProof.Rows L2 Evl

/-! ### put back: plain laws -/
theorem plain_rest (n : Nat) : Sw71.plain [⟨n, []⟩] = [⟨n, []⟩] := by
  unfold Sw71.plain
  rw [if_pos ⟨rfl, by simp⟩, total_eq]
  simp
theorem plain_ok {n : Nat} {b : Sw71.Bar} (hn : 1 ≤ n) (h : Sw71.barOk n b = true) : Sw71.plain b = asStaff b n := by
  have ht : Sw71.total b = n := by
    unfold Sw71.barOk at h
    exact of_decide_eq_true ((Bool.and_eq_true _ _).mp h).1
  unfold Sw71.plain asStaff
  by_cases hr : Sw71.rests b = true
  · have hb : b ≠ [] := fun z => by
      subst z
      rw [total_eq] at ht
      simp at ht
      omega
    rw [if_pos ⟨hr, hb⟩, if_pos hr, ht]
  · rw [if_neg (fun z => hr z.1), if_neg hr]
section
variable {s : Sw71.Score} {m : Nat}
/-- the columns of pieces from a bar on, as they're told -/
def colsAll (s : Sw71.Score) (m c : Nat) (l : List Sw71.Piece) : List (List Sw71.Bar) := (Sw71.back s.bars m c l).map fun x => x.map Sw71.plain
theorem back_rest (ls : List Nat) (c n : Nat) (l : List Sw71.Piece) : Sw71.back ls m c (.rest n :: l) = ((List.range n).map fun j => List.replicate m (Sw71.restBar (ls.getD (c + j) 0))) ++ Sw71.back ls m (c + n) l := rfl
theorem back_cue (ls : List Nat) (c k : Nat) (b : Sw71.Bar) (l : List Sw71.Piece) : Sw71.back ls m c (.cue k b :: l) = List.replicate m (Sw71.restBar (ls.getD c 0)) :: Sw71.back ls m (c + 1) l := rfl
theorem back_bar (ls : List Nat) (c : Nat) (b : List Sw71.Bar) (l : List Sw71.Piece) : Sw71.back ls m c (.bar b :: l) = b :: Sw71.back ls m (c + 1) l := rfl
theorem getD_pos (hw : Wf s) {i : Nat} (h : i < s.bars.length) : 1 ≤ s.bars.getD i 0 := by
  rw [List.getD_eq_getElem?_getD, List.getElem?_eq_getElem h]
  exact hw.pos _ (List.getElem_mem _)
theorem getD_some {i : Nat} (h : i < s.bars.length) : s.bars[i]? = some (s.bars.getD i 0) := by
  rw [List.getD_eq_getElem?_getD, List.getElem?_eq_getElem h]
  rfl
theorem piece_none (hw : Wf s) {c : Nat} {p : Sw71.Piece} (l : List Sw71.Piece) (h : colsOf s c m p = none) : Sw71.pieceOk s m c (p :: l) = false := by
  cases p with
  | rest n =>
    have hr : isRest s c n = false := by
      cases hr : isRest s c n with
      | false => rfl
      | true => rw [colsOf, if_pos hr] at h; cases h
    show (decide (1 ≤ n) && (decide (c + n ≤ s.bars.length) && (((List.range n).all fun j => j == 0 || !s.breaks.contains (c + j)) && Sw71.pieceOk s m (c + n) l))) = false
    unfold isRest at hr
    rw [← Bool.and_assoc, ← Bool.and_assoc]
    rw [← Bool.and_assoc] at hr
    rw [hr, Bool.false_and]
  | bar b =>
    have hr : isFull s c m b = false := by
      cases hr : isFull s c m b with
      | false => rfl
      | true => rw [colsOf, if_pos hr] at h; cases h
    show (isFull s c m b && Sw71.pieceOk s m (c + 1) l) = false
    rw [hr, Bool.false_and]
  | cue k b =>
    show ((match s.bars[c]? with
      | some n => Sw71.barOk n b
      | none => false) && Sw71.pieceOk s m (c + 1) l) = false
    by_cases hc : c < s.bars.length
    · rw [getD_some hc]
      have hb : Sw71.barOk (s.bars.getD c 0) b = false := by
        cases hb : Sw71.barOk (s.bars.getD c 0) b with
        | false => rfl
        | true => rw [colsOf, if_pos ⟨hc, hb⟩] at h; cases h
      show (Sw71.barOk (s.bars.getD c 0) b && _) = false
      rw [hb, Bool.false_and]
    · rw [List.getElem?_eq_none (by omega)]
      rfl
theorem piece_some (hw : Wf s) {c : Nat} {p : Sw71.Piece} (l : List Sw71.Piece) {cs : List (List Sw71.Bar)} (h : colsOf s c m p = some cs) :
    Sw71.pieceOk s m c (p :: l) = Sw71.pieceOk s m (c + cs.length) l ∧ colsAll s m c (p :: l) = cs ++ colsAll s m (c + cs.length) l ∧ (∀ x ∈ cs, x.length = m) ∧ c + cs.length ≤ s.bars.length := by
  cases p with
  | rest n =>
    have hr : isRest s c n = true := by
      cases hr : isRest s c n with
      | true => rfl
      | false => rw [colsOf, hr, if_neg Bool.false_ne_true] at h; cases h
    rw [colsOf, if_pos hr] at h
    cases h
    have hlen : ((List.range n).map fun j => List.replicate m [(⟨s.bars.getD (c + j) 0, []⟩ : Sw71.Item)]).length = n := by rw [List.length_map, List.length_range]
    rw [hlen]
    have h3 := hr
    unfold isRest at h3
    have h4 := (Bool.and_eq_true _ _).mp h3
    have hle := of_decide_eq_true ((Bool.and_eq_true _ _).mp h4.2).1
    refine ⟨?_, ?_, ?_, hle⟩
    · show (decide (1 ≤ n) && (decide (c + n ≤ s.bars.length) && (((List.range n).all fun j => j == 0 || !s.breaks.contains (c + j)) && Sw71.pieceOk s m (c + n) l))) = _
      unfold isRest at hr
      rw [← Bool.and_assoc, ← Bool.and_assoc]
      rw [← Bool.and_assoc] at hr
      rw [hr, Bool.true_and]
    · unfold colsAll
      rw [back_rest, List.map_append, List.map_map]
      congr 1
      refine List.map_congr_left fun j hj => ?_
      have hj' : c + j < s.bars.length := by
        have := List.mem_range.mp hj
        omega
      show (List.replicate m (Sw71.restBar (s.bars.getD (c + j) 0))).map Sw71.plain = _
      rw [List.map_replicate, restBar_pos (getD_pos hw hj'), plain_rest]
    · intro x hx
      obtain ⟨j, _, rfl⟩ := List.mem_map.mp hx
      exact List.length_replicate
  | bar b =>
    have hr : isFull s c m b = true := by
      cases hr : isFull s c m b with
      | true => rfl
      | false => rw [colsOf, hr, if_neg Bool.false_ne_true] at h; cases h
    rw [colsOf, if_pos hr] at h
    cases h
    have hc : c < s.bars.length := by
      by_cases hc : c < s.bars.length
      · exact hc
      · unfold isFull at hr
        rw [List.getElem?_eq_none (by omega)] at hr
        cases hr
    have hr2 := hr
    unfold isFull at hr2
    rw [getD_some hc] at hr2
    have h4 := (Bool.and_eq_true _ _).mp hr2
    have h5 := (Bool.and_eq_true _ _).mp h4.2
    refine ⟨?_, ?_, ?_, hc⟩
    · show (isFull s c m b && Sw71.pieceOk s m (c + 1) l) = _
      rw [hr, Bool.true_and]
      rfl
    · unfold colsAll
      rw [back_bar, List.map_cons]
      show _ :: _ = _ :: _
      congr 1
      refine List.map_congr_left fun x hx => ?_
      exact plain_ok (getD_pos hw hc) (List.all_eq_true.mp h5.1 x hx)
    · intro x hx
      rcases List.mem_cons.mp hx with rfl | hx
      · rw [List.length_map]
        exact of_decide_eq_true h4.1
      · cases hx
  | cue k b =>
    by_cases hcb : c < s.bars.length ∧ Sw71.barOk (s.bars.getD c 0) b = true
    · rw [colsOf, if_pos hcb] at h
      cases h
      refine ⟨?_, ?_, ?_, hcb.1⟩
      · show ((match s.bars[c]? with
          | some n => Sw71.barOk n b
          | none => false) && Sw71.pieceOk s m (c + 1) l) = _
        rw [getD_some hcb.1]
        show (Sw71.barOk (s.bars.getD c 0) b && _) = _
        rw [hcb.2, Bool.true_and]
        rfl
      · unfold colsAll
        rw [back_cue, List.map_cons]
        show _ :: _ = _ :: _
        congr 1
        rw [List.map_replicate, restBar_pos (getD_pos hw hcb.1), plain_rest]
      · intro x hx
        rcases List.mem_cons.mp hx with rfl | hx
        · exact List.length_replicate
        · cases hx
    · rw [colsOf, if_neg hcb] at h
      cases h
theorem put_eq (l : List Sw71.Piece) : (List.range m).map (fun k => (colsAll s m 0 l).map fun x => x.getD k []) = Sw71.putBack s.bars m l := by
  unfold Sw71.putBack colsAll
  refine List.map_congr_left fun k _ => ?_
  rw [List.map_map]
  refine List.map_congr_left fun x _ => ?_
  show (x.map Sw71.plain).getD k [] = Sw71.plain (x.getD k [])
  rw [List.getD_eq_getElem?_getD, List.getD_eq_getElem?_getD, List.getElem?_map]
  cases x[k]? <;> rfl
end
def sp_Score_put_back (CS : Addr) : Sp := spP (fun x : Sw71.Score × Nat × List Sw71.Piece => [rSc CS x.1, rN x.2.1, rL (x.2.2.map rPiece)]) (fun x => Wf x.1 ∧ x.2.1 ≤ 8 ∧ x.2.2.length ≤ 60 ∧ ∀ p ∈ x.2.2, CapP p) (fun x => rCols (if Sw71.pieceOk x.1 x.2.1 0 x.2.2 = true then some (Sw71.putBack x.1.bars x.2.1 x.2.2) else none))
theorem len_Score_put_back {CS vs H Q E} (h : sp_Score_put_back CS vs H Q E) : vs.length = 3 := len_P (fun _ => rfl) h
def PbInv (H : Hp) (v0 : V) (a D : Addr) (s : Sw71.Score) (m : Nat) (l : List Sw71.Piece) (i : Nat) (σ' : L2.St) (H' : Hp) : Prop := ∃ (y4 y5 y6 y7 : Option V) (ys : List V) (cs : List (List Sw71.Bar)), σ' = [some v0, some (.int (m : Int)), some (.ref a), some (.ref D), y4, y5, y6, y7] ∧ Ex H H' ∧ H' D = some (.lst ys) ∧
  All2 (fun v (r : Rl) => r (fun p => H p = none ∧ p ≠ D) H' v) ys (cs.map rBars) ∧ Sw71.pieceOk s m 0 l = Sw71.pieceOk s m cs.length (l.drop i) ∧ colsAll s m 0 l = cs ++ colsAll s m cs.length (l.drop i) ∧ cs.length ≤ s.bars.length ∧ ∀ x ∈ cs, x.length = m
theorem ok_Score_put_back {P : Program} {w : World} {K : PySem.W.Frag} {mg : Str → Option Value} {base : Heap} {CR CS : Addr} (T : Tx K mg CR CS) (A : FunM K CS "put_back" "Score.put_back" s_Score_put_back ["self", "m", "pieces"]) (D_Score_columns_of : Mtd P w K mg base CS "columns_of" 4 ["self", "at", "m", "piece"] (sp_Score_columns_of CS)) (D_Score_many : Mtd P w K mg base CS "many" 1 ["self"] (sp_Score_many CS)) : Mtd P w K mg base CS "put_back" 5 ["self", "m", "pieces"] (sp_Score_put_back CS) := by
  obtain ⟨f, fd, mt, F, b⟩ := A
  obtain ⟨f_Score_columns_of, fd_Score_columns_of, m_score_columns_of, b_score_columns_of, F_score_columns_of⟩ := D_Score_columns_of
  obtain ⟨f_Score_many, fd_Score_many, m_score_many, b_score_many, F_score_many⟩ := D_Score_many
  refine ⟨f, fd, mt, b, F.ok sc_Score_put_back (fun vs H Q E h => len_Score_put_back h) (fun cdv A outer s H vs Q E hr h => ?_)⟩
  obtain ⟨⟨s', m, l⟩, al, ⟨hw, hm, hll, hcap⟩, k⟩ := h
  replace hw : Wf s' := hw
  replace hm : m ≤ 8 := hm
  replace hll : l.length ≤ 60 := hll
  obtain ⟨v0, _, rfl, h0, al⟩ := al.un_cons
  obtain ⟨v1, _, rfl, h1, al⟩ := al.un_cons
  obtain ⟨v2, _, rfl, h2, al⟩ := al.un_cons
  cases al.un_nil
  cases h1
  have ms := mo_sc CS s'
  have hm40 := hw.many
  refine ⟨_, (pss_cons (ps_set (i := 3) sc_Score_put_back.nd rfl (Or.inr rfl) (pe_lst pa_nil))
      (pss_cons (ps_for PassesOwn.never rfl (piL K (pv 2)) (pg_name (i := 4) sc_Score_put_back.nd rfl (Or.inl rfl)) (pss_cons (ps_set (i := 5) sc_Score_put_back.nd rfl (Or.inl rfl) (pe_meth (pv 0) T.cl_score m_score_columns_of F_score_columns_of (hr.mono (by decide)) b_score_columns_of .nil pass0 (pa_cons (pe_callB (lenS K) (by rfl) T.len PySem.boot_len (pa_cons (pv 3) pa_nil)) (pa_cons (pv 1) (pa_cons (pv 4) pa_nil)))))
        (pss_cons (ps_if (pt_cmpR op_isN (pv 5) pe_non (nomark _)) (pss_one (ps_ret pe_non)) pss_nil)
        (pss_one (ps_expr (pe_bm PySem.F.plainAttrs_list PySem.F.slot_list_extend PySem.F.type_list_extend mt_extend (pv 3) (pa_cons (pv 5) pa_nil)))))))
      (pss_cons (ps_if (pt_cmpR op_ne (pe_callB (lenS K) (by rfl) T.len PySem.boot_len (pa_cons (pv 3) pa_nil)) (pe_meth0 (pv 0) T.cl_score m_score_many F_score_many (hr.mono (by decide)) b_score_many .nil pass0) (nomark _)) (pss_one (ps_ret pe_non)) pss_nil)
      (pss_one (ps_ret (pe_lc (own := [("k", 6)]) (g := gName 6) (tt := tYes) rfl sc_Score_put_back.nd (pi_range1 (by rfl) T.range (pa_cons (pv 1) pa_nil)) (blkOk_by (own := [("k", 6)]) (N := N_Score_put_back) (sc := defScope s_Score_put_back) (by decide +kernel)) (fun _ _ _ _ _ => (pg_name (i := 6) sc_Score_put_back.nd rfl (Or.inr rfl))) (fun _ _ _ _ _ => pts_nil) (fun _ _ _ _ _ => (pe_lc (own := [("column", 7)]) (g := gName 7) (tt := tYes) rfl sc_Score_put_back.nd (piL K (pv 3)) (blkOk_by (own := [("column", 7)]) (N := N_Score_put_back) (sc := relS _ (defScope s_Score_put_back)) (by decide +kernel)) (fun _ _ _ _ _ => (pg_name (i := 7) sc_Score_put_back.nd rfl (Or.inl rfl))) (fun _ _ _ _ _ => pts_nil) (fun _ _ _ _ _ => (pe_ix (ixL K) (pv 7) (pv 6) (fun _ _ => rfl))))))))))), ?_⟩
  refine q_asgR evr_nilL fun D H1 e1 hD => ?_
  obtain ⟨D, vs, rfl, nD, hD, al⟩ := hD
  cases al.un_nil
  obtain ⟨a, vs, rfl, _, ha, al0⟩ := h2
  have lv : vs.length = l.length := by rw [al0.1, List.length_map]
  refine q_forLn (xs := vs) (ev_var rfl) (SqL.of (e1 a _ ha)) (PbInv H v0 a D s' m l) (fun H2 e2 => ⟨none, none, none, none, [], [], rfl, e1.trans e2, e2 D _ hD, All2.nil, rfl, rfl, Nat.zero_le _, fun _ h => by cases h⟩) (fun i σ' H' _ ⟨_, _, _, _, _, _, _, e, _⟩ => SqL.of (e a _ ha)) ?_ ?_
  · rintro i v σ' H' hi ⟨y4, y5, y6, y7, ys, cs, rfl, e, hD', al3, hok, hcols, hle, hxm⟩
    obtain ⟨q, hq, hv⟩ := al0.get' hi
    rw [List.getElem?_map] at hq
    cases ex : l[i]? with
    | none => rw [ex] at hq; cases hq
    | some p =>
    rw [ex] at hq
    cases hq
    have hv' := (st_piece p).mo _ _ v e hv
    have dl : l.drop i = p :: l.drop (i + 1) := by
      rw [List.drop_eq_getElem_cons (List.getElem?_eq_some_iff.mp ex).1, (List.getElem?_eq_some_iff.mp ex).2]
    rw [dl] at hok hcols
    have hlenD : rL (cs.map rBars) Any H' (.ref D) := ⟨D, ys, rfl, trivial, hD', al3.mono fun v r hr h => (st_map st_bars r hr).any h⟩
    have mL := (st_L (st_map (l := cs) st_bars)).mo
    refine q_asgR (evr_meth (rs := [rN cs.length, rN m, rPiece p]) (s', cs.length, m, p) ⟨hw, hm, hcap p (List.mem_of_getElem? ex)⟩ (st_cols _) obj_sc ms (evx_var rfl ms (ms _ _ v0 e h0)) (xa_cons ((evx_lenL (evx_var rfl mL hlenD)).is (by rw [List.length_map])) st_V.mo (xa_cons (evv_var rfl) st_V.mo (xa_cons (evx_var rfl (st_piece p).mo hv') (st_piece p).mo xa_nil))) rfl) fun w H3 e3 hw3 => ?_
    replace hw3 : rCols (colsOf s' cs.length m p) (New H') H3 w := hw3
    cases hco : colsOf s' cs.length m p with
    | none =>
      rw [hco] at hw3
      cases hw3
      refine q_when (b := true) (et_is (ett (evx_isN (x := .non) (evv_var rfl))) rfl) ?_ (fun z => by cases z)
      intro _ H4 e4
      refine s_retR evr_c fun v H5 e5 hv => k v H5 (e.trans (e3.trans (e4.trans e5))) ?_
      show rCols (if Sw71.pieceOk s' m 0 l = true then some (Sw71.putBack s'.bars m l) else none) _ _ _
      rw [hok, piece_none hw _ hco, if_neg Bool.false_ne_true]
      exact hv
    | some new =>
      rw [hco] at hw3
      replace hw3 : rL (new.map rBars) (New H') H3 w := hw3
      obtain ⟨o1, o2, o3, o4⟩ := piece_some hw (l.drop (i + 1)) hco
      obtain ⟨wa, zs, rfl, nwa, hwa, alz⟩ := hw3
      refine q_when (b := false) (et_is (ett (evx_isN (x := .ref wa) (evv_var rfl))) rfl) (fun z => by cases z) ?_
      intro _ H4 e4
      have e34 := e3.trans e4
      have hD4 := e34 D _ hD'
      have hwa4 := e4 wa _ hwa
      refine ⟨_, rfl, Or.inl ⟨rfl, ys, sq_of hD4⟩, _, rfl, D, wa, ys, zs, rfl, rfl, hD4, hwa4, ?_, ?_⟩
      · have b1 : ys.length = cs.length := by rw [al3.1, List.length_map]
        have b2 : zs.length = new.length := by rw [alz.1, List.length_map]
        exact sz_of (by omega)
      · refine ⟨_, _, y6, y7, ys ++ zs, cs ++ new, rfl, Ex.mut (e.trans e34) nD, upd_same, ?_, ?_, ?_, by rw [List.length_append]; exact o4, ?_⟩
        · rw [List.map_append]
          refine keep_D (ys := ys) ?_ hD4 (fun a h => h.2) ((al3.mono fun v r hr h => (st_map st_bars r hr).ex e34 h).append (alz.mono fun v r hr h => ?_))
          · intro r hr
            rcases List.mem_append.mp hr with hr | hr
            · exact st_map st_bars r hr
            · exact st_map st_bars r hr
          · refine st_map st_bars r hr _ _ H3 H4 v (fun p hp => ⟨fresh_back e hp, fun z => ?_⟩) (Tr.ex e4) h
            subst z
            rw [show H' p = none from hp] at hD'
            cases hD'
        · rw [hok, o1, List.length_append]
        · rw [hcols, o2, List.length_append, List.append_assoc]
        · intro x hx
          rcases List.mem_append.mp hx with hx | hx
          · exact hxm x hx
          · exact o3 x hx
  · rintro σ' H' ⟨y4, y5, y6, y7, ys, cs, rfl, e, hD', al3, hok, hcols, hle, hxm⟩
    have dl : l.drop vs.length = [] := List.drop_eq_nil_of_le (by omega)
    rw [dl] at hok hcols
    have hlenD : rL (cs.map rBars) Any H' (.ref D) := ⟨D, ys, rfl, trivial, hD', al3.mono fun v r hr h => (st_map st_bars r hr).any h⟩
    have mL := (st_L (st_map (l := cs) st_bars)).mo
    refine q_when (b := !decide (cs.length = s'.bars.length)) (et_is (ett (evx_ne ((evx_lenL (evx_var rfl mL hlenD)).is (by rw [List.length_map])) (evx_many (evx_var rfl ms (ms _ _ v0 e h0))) rfl)) (congrArg not (decV _ _))) ?_ ?_
    · intro hb H3 e3
      have hne : cs.length ≠ s'.bars.length := by simpa using hb
      refine s_retR evr_c fun v H4 e4 hv => k v H4 (e.trans (e3.trans e4)) ?_
      show rCols (if Sw71.pieceOk s' m 0 l = true then some (Sw71.putBack s'.bars m l) else none) _ _ _
      rw [hok, show Sw71.pieceOk s' m cs.length [] = false from beq_eq_false_iff_ne.mpr hne, if_neg Bool.false_ne_true]
      exact hv
    · intro hb H3 e3
      have heq : cs.length = s'.bars.length := by simpa using hb
      refine s_retR (lcR (m := (m : Int)) m (fun kk => rBars (cs.map fun x => x.getD kk [])) (xa_cons (evv_var rfl) st_V.mo xa_nil) (by omega) (by omega) (fun _ => st_bars _) (fun _ => rfl)
        fun kk H4 hk e4 => (lcL cs rBars (fun x => rBar (x.getD kk [])) (evx_var rfl mL (mL _ _ _ (e3.trans e4) hlenD)) (fun a => (st_bars a).mo) (by omega) (fun _ => (fl_bar _).st) (fun _ => rfl)
          fun x v H5 hx e5 hv => ?_).is (by unfold rBars; rw [List.map_map]; rfl)) fun v H4 e4 hv => k v H4 (e.trans (e3.trans e4)) ?_
      · refine (evx_ixL (j := kk) (evx_var (r := rBars x) rfl (st_bars x).mo hv) (evv_var rfl) rfl (bars_get ?_) (mo_map fun b => (fl_bar b).mo)).tr (fl_bar _)
        rw [hxm x hx]
        exact hk
      · show rCols (if Sw71.pieceOk s' m 0 l = true then some (Sw71.putBack s'.bars m l) else none) _ _ _
        rw [hok, show Sw71.pieceOk s' m cs.length [] = true from beq_iff_eq.mpr heq, if_pos rfl]
        have hcs : cs = colsAll s' m 0 l := by
          rw [hcols]
          show cs = cs ++ []
          rw [List.append_nil]
        rw [hcs] at hv
        show rL ((Sw71.putBack s'.bars m l).map rBars) _ _ _
        rw [← put_eq, List.map_map]
        exact (st_L (st_map fun _ => st_bars _)).back (e.trans e3) hv
/-! ### a staff more -/
def sp_Score_add (CS : Addr) : Sp := fun vs H Q _ => ∃ (a dx la ba sa : Addr) (svs : List V) (ns : List Nat) (l : List Sw71.Bar) (v1 : V), vs = [.ref a, v1] ∧ H a = some (.ins CS dx (scF la ba sa)) ∧ H la = some (.lst (ns.map nV)) ∧ H sa = some (.lst svs) ∧ svs.length ≤ 1000 ∧ rBars l Any H v1 ∧
  (∀ b ∈ l, b.length ≤ 60) ∧ l.length ≤ 60 ∧ ∀ v2 H1, Ex H H1 → rBars ((l.zip ns).map fun p => asStaff p.1 p.2) (New H) H1 v2 → Q (.int (svs.length : Int)) (upd H1 sa (.lst (svs ++ [v2])))
theorem len_Score_add {CS vs H Q E} (h : sp_Score_add CS vs H Q E) : vs.length = 2 := by
  obtain ⟨a, dx, la, ba, sa, svs, ns, l, v1, rfl, _⟩ := h
  rfl
theorem ok_Score_add {P : Program} {w : World} {K : PySem.W.Frag} {mg : Str → Option Value} {base : Heap} {CR CS : Addr} (T : Tx K mg CR CS) (A : FunM K CS "add" "Score.add" s_Score_add ["self", "bars"]) (D_as_staff_has : Dfn P w K mg base "as_staff_has" 2 ["bar", "length"] (sp_as_staff_has)) : Mtd P w K mg base CS "add" 3 ["self", "bars"] (sp_Score_add CS) := by
  obtain ⟨f, fd, mt, F, b⟩ := A
  obtain ⟨f_as_staff_has, fd_as_staff_has, g_as_staff_has, k_as_staff_has, b_as_staff_has, F_as_staff_has⟩ := D_as_staff_has
  refine ⟨f, fd, mt, b, F.ok sc_Score_add (fun vs H Q E h => len_Score_add h) (fun cdv A outer s H vs Q E hr h => ?_)⟩
  obtain ⟨a, dx, la, ba, sa, svs, ns, l, v1, rfl, ha, hla, hsa, hsz, h1, hcap, hll, k⟩ := h
  have ml := (st_bars l).mo
  refine ⟨_, (pss_cons (ps_expr (pe_bm PySem.F.plainAttrs_list PySem.F.slot_list_append PySem.F.type_list_append mt_append (fldS K (pv 0) rfl) (pa_cons (pe_lc (own := [("bar", 2), ("length", 3)]) (g := gTup K 2 (gCons (gName 2) (gCons (gName 3) gNil))) (tt := tYes) rfl sc_Score_add.nd (pi_zip (by rfl) T.zip (pa_cons (pv 1) (pa_cons (fldS K (pv 0) rfl) pa_nil))) (blkOk_by (own := [("bar", 2), ("length", 3)]) (N := N_Score_add) (sc := defScope s_Score_add) (by decide +kernel)) (fun _ _ _ _ _ => (pg_tup rfl (pgs_cons (pg_name (i := 2) sc_Score_add.nd rfl (Or.inl rfl)) (pgs_cons (pg_name (i := 3) sc_Score_add.nd rfl (Or.inl rfl)) pgs_nil)))) (fun _ _ _ _ _ => pts_nil) (fun _ _ _ _ _ => (pe_call F_as_staff_has (hr.mono (by decide)) (by rfl) g_as_staff_has k_as_staff_has b_as_staff_has .nil pass0 (pa_cons (pv 2) (pa_cons (pv 3) pa_nil))))) pa_nil)))
      (pss_one (ps_ret (pe_op op_sub (pe_callB (lenS K) (by rfl) T.len PySem.boot_len (pa_cons (fldS K (pv 0) rfl) pa_nil)) pe_int)))), ?_⟩
  have nsa : a ≠ sa := ne_of ha hsa (by intro z; cases z)
  refine q_appR (r := rBars ((l.zip ns).map fun p => asStaff p.1 p.2)) hsa ?_ ((lcZ l ns rBar (fun n => rN n) (fun p => rBar (asStaff p.1 p.2)) (evx_var rfl ml h1) ?_ (fun b => (fl_bar b).mo) (fun _ => st_V.mo) (by omega) (fun _ => (fl_bar _).st) (fun _ _ => rfl)
    fun b n x y H3 hab e3 hx hy => evr_call (b, n) (hcap b (List.of_mem_zip hab).1) (fl_bar _).st (xa_cons (evx_var rfl (fl_bar b).mo hx) (fl_bar b).mo (xa_cons (evx_var rfl st_V.mo hy) st_V.mo xa_nil))).is (by unfold rBars; rw [List.map_map]; rfl)) (st_bars _) (sz_lt (by omega)) fun v2 H1 e1 hv2 => ?_
  · exact fun H1 e Q q => ⟨_, rfl, a, CS, dx, _, _, rfl, e a _ ha, T.cl_score, T.n_staves, scF_staves, q H1 (Ex.refl H1)⟩
  · exact fun H1 e Q q => ⟨_, rfl, a, CS, dx, _, _, rfl, e a _ ha, T.cl_score, T.n_lengths, scF_lengths, q _ H1 (Ex.refl H1) ⟨la, _, rfl, trivial, e la _ hla, ints_of.mpr rfl⟩⟩
  · have ha2 : upd H1 sa (.lst (svs ++ [v2])) a = some (.ins CS dx (scF la ba sa)) := by
      rw [upd_ne nsa]
      exact e1 a _ ha
    refine ⟨_, rfl, a, CS, dx, scF la ba sa, _, rfl, ha2, T.cl_score, T.n_staves, scF_staves, sa, svs ++ [v2], rfl, .inl (SqL.of upd_same), _, _, rfl, rfl, ?_⟩
    · have e2 : ((svs ++ [v2]).length : Int) - 1 = (svs.length : Int) := by
        rw [List.length_append]
        simp
      show Q (.int (((svs ++ [v2]).length : Int) - 1)) _
      rw [e2]
      exact k v2 H1 e1 hv2
end Ps

namespace Ps
open PySem PySem.Spec PyProof.Rows L2 Evl

/-! ### the reader as an object -/
def rdF (ra : Addr) (p : Nat) : List (Str × V) := [("row", .ref ra), ("at", .int (p : Int))]
def RdAt (C : Addr) (H : Hp) (a ra : Addr) (l : List Int) : Prop := ∃ (dx : Addr) (row : List Int) (p : Nat), H a = some (.ins C dx (rdF ra p)) ∧ H ra = some (.lst (row.map V.int)) ∧ row.drop p = l
def KeepA (a : Addr) (H H' : Hp) : Prop := ∀ b o, b ≠ a → H b = some o → H' b = some o
theorem KeepA.rf {a : Addr} {H : Hp} : KeepA a H H := fun _ _ _ h => h
theorem KeepA.trans {a : Addr} {H H1 H2 : Hp} (h : KeepA a H H1) (h2 : KeepA a H1 H2) : KeepA a H H2 := fun b o n e => h2 b o n (h b o n e)
theorem KeepA.ex {a : Addr} {H H' : Hp} (e : Ex H H') : KeepA a H H' := fun b o _ h => e b o h
/-- what is fresh behind is fresh ahead, where the reader itself is there -/
theorem KeepA.back {a p : Addr} {H H' : Hp} (h : KeepA a H H') {o : HO} (ha : H' a = some o) (hp : H' p = none) : H p = none := by
  cases hq : H p with
  | none => rfl
  | some u =>
    by_cases z : p = a
    · rw [z, ha] at hp
      cases hp
    · rw [h p u z hq] at hp
      cases hp
theorem KeepA.tr {a : Addr} {H H' : Hp} {F : Addr → Prop} {C dx : Addr} {fs : List (Str × V)} (h : KeepA a H H') (ha : H a = some (.ins C dx fs)) : Tr F H H' :=
  ⟨fun b xs e => h b _ (ne_of e ha (by intro z; cases z)) e, fun b xs _ e => h b _ (ne_of e ha (by intro z; cases z)) e⟩
theorem rdF_row {ra : Addr} {p : Nat} : (rdF ra p).lookup ("row" : Str) = some (V.ref ra) := lkS_here
theorem rdF_at {ra : Addr} {p : Nat} : (rdF ra p).lookup ("at" : Str) = some (V.int (p : Int)) := (lkS_past (by decide +kernel)).trans lkS_here
theorem rdF_no {ra : Addr} {p : Nat} {m : Str} (h1 : (m == ("row" : Str)) = false) (h2 : (m == ("at" : Str)) = false) : (rdF ra p).lookup m = none := (lkS_past h1).trans ((lkS_past h2).trans rfl)
theorem rdF_put {ra : Addr} {p : Nat} {y : Nat} : putF "at" (.int (y : Int)) (rdF ra p) = rdF ra y := (put_past (by decide +kernel)).trans (congrArg _ put_here)
def spRd {α : Type} (C : Addr) (p : List Int → Option (α × List Int)) (R : α → Rl) : Sp := fun vs H Q _ => ∃ (a ra : Addr) (l : List Int) (x : α) (l' : List Int), vs = [.ref a] ∧ RdAt C H a ra l ∧ p l = some (x, l') ∧ ∀ H' v, RdAt C H' a ra l' → KeepA a H H' → R x (New H) H' v → Q v H'
theorem len_Rd {α : Type} {C : Addr} {p : List Int → Option (α × List Int)} {R : α → Rl} {vs H Q E} (h : spRd C p R vs H Q E) : vs.length = 1 := by
  obtain ⟨a, ra, l, x, l', rfl, _⟩ := h
  rfl
section
variable {σ : L2.St} {H : Hp} {Q : VK} {α : Type} {C a ra : Addr} {p : List Int → Option (α × List Int)} {R : α → Rl} {i : Nat} {l l' : List Int} {x : α}
theorem rd_meth {m : Str} (hs : σ[i]? = some (some (.ref a))) (r : RdAt C H a ra l) (hp : p l = some (x, l')) (h1 : (m == ("row" : Str)) = false) (h2 : (m == ("at" : Str)) = false) (k : ∀ H' v, RdAt C H' a ra l' → KeepA a H H' → R x (New H) H' v → Q v H') :
    tMeth C m (spRd C p R) [] E0 (tVar i) tNil σ H Q := by
  have r0 := r
  obtain ⟨dx, row, q, ha, _⟩ := r
  exact ⟨_, hs, a, dx, _, rfl, ha, rdF_no h1 h2, a, ra, l, x, l', rfl, r0, hp, k⟩
theorem rd_call (hs : σ[i]? = some (some (.ref a))) (r : RdAt C H a ra l) (hp : p l = some (x, l')) (k : ∀ H' v, RdAt C H' a ra l' → KeepA a H H' → R x (New H) H' v → Q v H') :
    tCall (spRd C p R) [] E0 (tCons (tVar i) tNil) σ H Q := ⟨_, hs, a, ra, l, x, l', rfl, r, hp, k⟩
end
theorem many_succ {A : Type} {p : List Int → Option (A × List Int)} {k : Nat} {l l' : List Int} {xs : List A} (h : Sw71Neutral.many_ p (k + 1) l = some (xs, l')) : ∃ x r l2, xs = x :: r ∧ p l = some (x, l2) ∧ Sw71Neutral.many_ p k l2 = some (r, l') := by
  have h' : ((p l).bind fun x => (Sw71Neutral.many_ p k x.2).map fun y => (x.1 :: y.1, y.2)) = some (xs, l') := h
  cases e : p l with
  | none => rw [e] at h'; cases h'
  | some y =>
    rw [e] at h'
    have h' : ((Sw71Neutral.many_ p k y.2).map fun z => (y.1 :: z.1, z.2)) = some (xs, l') := h'
    cases e2 : Sw71Neutral.many_ p k y.2 with
    | none => rw [e2] at h'; cases h'
    | some z =>
      rw [e2] at h'
      cases h'
      exact ⟨y.1, z.1, y.2, rfl, rfl, e2⟩
theorem many_zero {A : Type} {p : List Int → Option (A × List Int)} {l l' : List Int} {xs : List A} (h : Sw71Neutral.many_ p 0 l = some (xs, l')) : xs = [] ∧ l' = l := by
  cases h
  exact ⟨rfl, rfl⟩
theorem many_len {A : Type} {p : List Int → Option (A × List Int)} : ∀ {k : Nat} {l l' : List Int} {xs : List A}, Sw71Neutral.many_ p k l = some (xs, l') → xs.length = k
  | 0, _, _, _, h => by rw [(many_zero h).1]; rfl
  | k + 1, _, _, _, h => by
    obtain ⟨x, r, l2, rfl, _, h2⟩ := many_succ h
    rw [List.length_cons, many_len h2]
theorem many_all {A : Type} {p : List Int → Option (A × List Int)} {P : A → Prop} (hp : ∀ l x l', p l = some (x, l') → P x) : ∀ {k : Nat} {l l' : List Int} {xs : List A}, Sw71Neutral.many_ p k l = some (xs, l') → ∀ x ∈ xs, P x
  | 0, _, _, _, h => by rw [(many_zero h).1]; exact fun x hx => by cases hx
  | k + 1, _, _, _, h => by
    obtain ⟨x, r, l2, rfl, h1, h2⟩ := many_succ h
    intro y hy
    rcases List.mem_cons.mp hy with rfl | hy
    · exact hp _ _ _ h1
    · exact many_all hp h2 y hy
theorem list_cases {A : Type} {p : List Int → Option (A × List Int)} {l l' : List Int} {xs : List A} (h : Sw71Neutral.listIn p l = some (xs, l')) : ∃ (n : Nat) (r : List Int), l = (n : Int) :: r ∧ n ≤ 60 ∧ Sw71Neutral.many_ p n r = some (xs, l') := by
  cases l with
  | nil => cases h
  | cons n r =>
    have h' : (if 0 ≤ n ∧ n ≤ 60 then Sw71Neutral.many_ p n.toNat r else none) = some (xs, l') := h
    by_cases hn : 0 ≤ n ∧ n ≤ 60
    · rw [if_pos hn] at h'
      exact ⟨n.toNat, r, by rw [Int.toNat_of_nonneg hn.1], by omega, h'⟩
    · rw [if_neg hn] at h'
      cases h'
theorem nat_cases {l l' : List Int} {n : Nat} (h : Sw71Neutral.natIn l = some (n, l')) : l = (n : Int) :: l' ∧ n < 2 ^ 32 := by
  cases l with
  | nil => cases h
  | cons z r =>
    have h' : (if 0 ≤ z ∧ z < 2 ^ 32 then some (z.toNat, r) else none) = some (n, l') := h
    by_cases hz : 0 ≤ z ∧ z < 2 ^ 32
    · rw [if_pos hz] at h'
      cases h'
      exact ⟨by rw [Int.toNat_of_nonneg hz.1], by omega⟩
    · rw [if_neg hz] at h'
      cases h'
theorem nat_at (n : Nat) (r : List Int) (h : n < 2 ^ 32) : Sw71Neutral.natIn ((n : Int) :: r) = some (n, r) := by
  simp only [Sw71Neutral.natIn]
  rw [if_pos ⟨Int.natCast_nonneg n, by omega⟩, Int.toNat_natCast]
/-- a comprehension that reads -/
theorem lc_read {te : TE} {σ : L2.St} {H1 : Hp} {Q : VK} {α : Type} {C a ra : Addr} {p : List Int → Option (α × List Int)} {R : α → Rl} {i j n : Nat} {l l' : List Int} {xs : List α} {vs : List Nat} (hst : ∀ x, St (R x)) (hs : σ[i]? = some (some (.int (n : Int)))) (hn : n ≤ 60)
    (hm : Sw71Neutral.many_ p n l = some (xs, l')) (r : RdAt C H1 a ra l) (hw : ∀ x, wipe ((wipe σ vs).set j (some x)) vs = wipe σ vs)
    (he : ∀ (t : V) (H2 : Hp) (l2 : List Int) (x : α) (l3 : List Int) (k : VK), RdAt C H2 a ra l2 → p l2 = some (x, l3) → (∀ H3 v, RdAt C H3 a ra l3 → KeepA a H2 H3 → R x (New H2) H3 v → k v H3) → te ((wipe σ vs).set j (some t)) H2 k)
    (k : ∀ D H', RdAt C H' a ra l' → KeepA a H1 H' → rL (xs.map R) (New H1) H' (.ref D) → Q (.ref D) H') : tLc (iRng1 (tCons (tVar i) tNil)) (gName j) tYes te vs σ H1 Q := by
  refine ⟨_, hs, (n : Int), rfl, by omega, by omega, fun D hD => ?_⟩
  obtain ⟨dx0, row0, q0, ha0, hra0, hd0⟩ := id r
  have naD : a ≠ D := ne_of_none ha0 hD
  have nrD : ra ≠ D := ne_of_none hra0 hD
  have hxl := many_len hm
  rw [Int.toNat_natCast]
  refine lc_range (lo := 0) (n := n) (fun i H' => ∃ (li : List Int) (ys : List V), Sw71Neutral.many_ p (n - i) li = some (xs.drop i, l') ∧ RdAt C H' a ra li ∧ KeepA a H1 H' ∧ H' D = some (.lst ys) ∧ All2 (fun v (r : Rl) => r (fun q => H1 q = none ∧ q ≠ D) H' v) ys ((xs.take i).map R)) ?_ ?_ ?_
  · refine ⟨l, [], by simpa using hm, ?_, KeepA.ex (Ex.new hD), upd_same, by rw [List.take_zero]; exact All2.nil⟩
    exact ⟨dx0, row0, q0, (Ex.new hD) a _ ha0, (Ex.new hD) ra _ hra0, hd0⟩
  · rintro i H' hi ⟨li, ys, hmi, ri, kp, hD', al⟩
    refine ⟨hw _, ?_⟩
    have hni : n - i = (n - (i + 1)) + 1 := by omega
    rw [hni] at hmi
    obtain ⟨x, xr, l2, hxs, hpx, hm2⟩ := many_succ hmi
    have hxi : xs[i]? = some x := by
      have := congrArg (fun l => l[0]?) hxs
      simpa using this
    have hxr : xs.drop (i + 1) = xr := by
      have := congrArg (fun l => l.drop 1) hxs
      simpa [List.drop_drop, Nat.add_comm] using this
    obtain ⟨dx, row, q, ha, hra, hd⟩ := id ri
    show te _ H' _
    refine he _ H' li x l2 _ ri hpx fun H3 v r3 k3 hv => ?_
    have hD3 : H3 D = some (.lst ys) := k3 D _ naD.symm hD'
    obtain ⟨dx3, row3, q3, ha3, hra3, hd3⟩ := id r3
    have hyl : ys.length = i := by rw [al.1, List.length_map, List.length_take]; omega
    refine ⟨ys, hD3, sz_lt (by omega), l2, ys ++ [v], by rw [hxr]; exact hm2, ?_, ?_, upd_same, ?_⟩
    · exact ⟨dx3, row3, q3, (upd_ne naD).trans ha3, (upd_ne nrD).trans hra3, hd3⟩
    · exact fun b o nb hb => by
        rw [upd_ne (ne_of_none hb hD)]
        exact (kp.trans k3) b o nb hb
    · rw [List.take_add_one, hxi, List.map_append]
      refine keep_D (ys := ys) ?_ hD3 (fun q h => h.2) (All2.snoc (al.mono fun v r hr h => ?_) ?_)
      · intro r hr
        rcases List.mem_append.mp hr with hr | hr
        · exact st_map hst r hr
        · exact st_map hst r hr
      · exact st_map hst r hr _ _ H' H3 v (fun _ z => z) (k3.tr ha) h
      · refine hst x _ _ H3 H3 v (fun q hq => ⟨kp.back ha hq, fun z => ?_⟩) Tr.rf hv
        subst z
        rw [show H' q = none from hq] at hD'
        cases hD'
  · rintro H' ⟨li, ys, hmi, ri, kp, hD', al⟩
    rw [Nat.sub_self] at hmi
    obtain ⟨hx0, rfl⟩ := many_zero hmi
    refine k D H' ri kp ⟨D, ys, rfl, hD, hD', ?_⟩
    rw [List.take_of_length_le (by omega)] at al
    exact al.mono fun v r hr h => st_map hst r hr _ _ H' H' v (fun q hq => hq.1) Tr.rf h
def sp_Reader___init__ (CR : Addr) : Sp := fun vs H Q _ => ∃ (p dx ra : Addr), vs = [.ref p, .ref ra] ∧ H p = some (.ins CR dx []) ∧ ∀ H', H' p = some (.ins CR dx (rdF ra 0)) → KeepA p H H' → Q .non H'
theorem len_Reader___init__ {CR vs H Q E} (h : sp_Reader___init__ CR vs H Q E) : vs.length = 2 := by
  obtain ⟨p, dx, ra, rfl, _⟩ := h
  rfl
theorem ok_Reader___init__ {P : Program} {w : World} {K : PySem.W.Frag} {mg : Str → Option Value} {base : Heap} {CR CS : Addr} (T : Tx K mg CR CS) (A : FunI K CR "Reader.__init__" s_Reader___init__ ["self", "row"]) : Mki P w K mg base CR 1 ["self", "row"] (sp_Reader___init__ CR) := by
  obtain ⟨f, fd, mk, F, b⟩ := A
  refine ⟨f, fd, mk, b, F.ok sc_Reader___init__ (fun vs H Q E h => len_Reader___init__ h) (fun cdv A outer s H vs Q E hr h => ?_)⟩
  obtain ⟨p, dx, ra, rfl, hp, k⟩ := h
  refine ⟨_, (pss_cons (ps_fld (pv 0) (pv 1) rfl)
      (pss_one (ps_fld (pv 0) pe_int rfl))), ?_⟩
  refine ⟨_, rfl, _, rfl, p, CR, dx, [], rfl, hp, T.cl_reader, T.n_row, (by show 0 < 1000; decide), ?_⟩
  refine ⟨_, rfl, p, CR, dx, _, rfl, upd_same, T.cl_reader, T.n_at, (by show 1 < 1000; decide), ?_⟩
  refine k _ ?_ fun b o nb hb => ?_
  · rw [upd_same]
    have e2 : putF "at" (.int 0) [(("row" : Str), V.ref ra)] = rdF ra 0 := (put_past (by decide +kernel)).trans rfl
    exact congrArg (fun z => some (HO.ins CR dx z)) e2
  · rw [upd_ne nb, upd_ne nb]
    exact hb
def sp_Reader_number (CR : Addr) : Sp := spRd CR Sw71Neutral.natIn (fun n => rN n)
theorem len_Reader_number {CR vs H Q E} (h : sp_Reader_number CR vs H Q E) : vs.length = 1 := len_Rd h
theorem ok_Reader_number {P : Program} {w : World} {K : PySem.W.Frag} {mg : Str → Option Value} {base : Heap} {CR CS : Addr} (T : Tx K mg CR CS) (A : FunM K CR "number" "Reader.number" s_Reader_number ["self"]) : Mtd P w K mg base CR "number" 1 ["self"] (sp_Reader_number CR) := by
  obtain ⟨f, fd, mt, F, b⟩ := A
  refine ⟨f, fd, mt, b, F.ok sc_Reader_number (fun vs H Q E h => len_Reader_number h) (fun cdv A outer s H vs Q E hr h => ?_)⟩
  obtain ⟨a, ra, l, n, l', rfl, ⟨dx, row, p, ha, hra, hd⟩, hp, k⟩ := h
  obtain ⟨rfl, hn⟩ := nat_cases hp
  have nra : ra ≠ a := ne_of hra ha (by intro z; cases z)
  refine ⟨_, (pss_cons (ps_fld (pv 0) (pe_op op_add (fldS K (pv 0) rfl) pe_int) rfl)
      (pss_one (ps_ret (pe_ix (ixL K) (fldS K (pv 0) rfl) (pe_op op_sub (fldS K (pv 0) rfl) pe_int) (fun _ _ => rfl))))), ?_⟩
  refine ⟨_, rfl, a, CR, dx, _, _, rfl, ha, T.cl_reader, T.n_at, rdF_at, _, _, rfl, rfl, _, rfl, a, CR, dx, rdF ra p, rfl, ha, T.cl_reader, T.n_at, (by show 2 < 1000; decide), ?_⟩
  have ha2 : upd H a (.ins CR dx (putF "at" (.int ((p : Int) + 1)) (rdF ra p))) a = some (.ins CR dx (rdF ra (p + 1))) := by
    rw [upd_same]
    exact congrArg (fun z => some (HO.ins CR dx z)) (rdF_put (y := p + 1))
  have hra2 : upd H a (.ins CR dx (putF "at" (.int ((p : Int) + 1)) (rdF ra p))) ra = some (.lst (row.map V.int)) := (upd_ne nra).trans hra
  have hrow : row[p]? = some (n : Int) := by
    have := congrArg (fun l => l[0]?) hd
    simpa using this
  refine ⟨_, rfl, a, CR, dx, _, _, rfl, ha2, T.cl_reader, T.n_row, rdF_row, _, rfl, a, CR, dx, _, _, rfl, ha2, T.cl_reader, T.n_at, rdF_at, _, _, rfl, rfl, ra, row.map V.int, _, .int (n : Int), rfl, rfl, SqL.of hra2, atI_of (j := p) (by show ((p + 1 : Nat) : Int) - 1 = (p : Int); omega) (by rw [List.getElem?_map, hrow]; rfl), ?_⟩
  refine k _ _ ⟨dx, row, p + 1, ha2, hra2, ?_⟩ (fun b o nb hb => (upd_ne nb).trans hb) rfl
  have := congrArg (fun l => l.drop 1) hd
  simpa [List.drop_drop, Nat.add_comm] using this
theorem keys_many {k : Nat} {l l' : List Int} {ks : List Nat} : True := trivial
def sp_Reader_item (CR : Addr) : Sp := spRd CR Sw71Neutral.itemIn rItem
theorem len_Reader_item {CR vs H Q E} (h : sp_Reader_item CR vs H Q E) : vs.length = 1 := len_Rd h
theorem item_cases {l l' : List Int} {x : Sw71.Item} (h : Sw71Neutral.itemIn l = some (x, l')) : ∃ (n : Nat) (r : List Int), l = (x.long : Int) :: (n : Int) :: r ∧ x.long < 2 ^ 32 ∧ n ≤ 60 ∧ Sw71Neutral.many_ Sw71Neutral.natIn n r = some (x.keys, l') := by
  have h' : ((Sw71Neutral.natIn l).bind fun n => (Sw71Neutral.rowIn n.2).map fun k => ((⟨n.1, k.1⟩ : Sw71.Item), k.2)) = some (x, l') := h
  cases e : Sw71Neutral.natIn l with
  | none => rw [e] at h'; cases h'
  | some y =>
    rw [e] at h'
    have h' : ((Sw71Neutral.rowIn y.2).map fun k => ((⟨y.1, k.1⟩ : Sw71.Item), k.2)) = some (x, l') := h'
    cases e2 : Sw71Neutral.rowIn y.2 with
    | none => rw [e2] at h'; cases h'
    | some z =>
      rw [e2] at h'
      cases h'
      obtain ⟨e3, e4⟩ := nat_cases e
      obtain ⟨n, r, e5, e6, e7⟩ := list_cases e2
      exact ⟨n, r, by rw [e3, e5], e4, e6, e7⟩
theorem ok_Reader_item {P : Program} {w : World} {K : PySem.W.Frag} {mg : Str → Option Value} {base : Heap} {CR CS : Addr} (T : Tx K mg CR CS) (A : FunM K CR "item" "Reader.item" s_Reader_item ["self"]) (D_Reader_number : Mtd P w K mg base CR "number" 1 ["self"] (sp_Reader_number CR)) : Mtd P w K mg base CR "item" 2 ["self"] (sp_Reader_item CR) := by
  obtain ⟨f, fd, mt, F, b⟩ := A
  obtain ⟨f_Reader_number, fd_Reader_number, m_reader_number, b_reader_number, F_reader_number⟩ := D_Reader_number
  refine ⟨f, fd, mt, b, F.ok sc_Reader_item (fun vs H Q E h => len_Reader_item h) (fun cdv A outer s H vs Q E hr h => ?_)⟩
  obtain ⟨a, ra, l, x, l', rfl, r0, hp, k⟩ := h
  obtain ⟨n, r, rfl, hlong, hn, hm⟩ := item_cases hp
  refine ⟨_, (pss_cons (ps_set (i := 1) sc_Reader_item.nd rfl (Or.inl rfl) (pe_meth0 (pv 0) T.cl_reader m_reader_number F_reader_number (hr.mono (by decide)) b_reader_number .nil pass0))
      (pss_cons (ps_set (i := 2) sc_Reader_item.nd rfl (Or.inl rfl) (pe_meth0 (pv 0) T.cl_reader m_reader_number F_reader_number (hr.mono (by decide)) b_reader_number .nil pass0))
      (pss_one (ps_ret (pe_tup (pa_cons (pv 1) (pa_cons (pe_callTy (tupleOf K) (by rfl) T.tuple (by decide +kernel) (pa_cons (pe_lc (own := [("k", 3)]) (g := gName 3) (tt := tYes) rfl sc_Reader_item.nd (pi_range1 (by rfl) T.range (pa_cons (pv 2) pa_nil)) (blkOk_by (own := [("k", 3)]) (N := N_Reader_item) (sc := defScope s_Reader_item) (by decide +kernel)) (fun _ _ _ _ _ => (pg_name (i := 3) sc_Reader_item.nd rfl (Or.inl rfl))) (fun _ _ _ _ _ => pts_nil) (fun _ _ _ _ _ => (pe_meth0 (pv 0) T.cl_reader m_reader_number F_reader_number (hr.mono (by decide)) b_reader_number .nil pass0))) pa_nil)) pa_nil))))))), ?_⟩
  refine rd_meth (i := 0) rfl r0 (nat_at x.long ((n : Int) :: r) hlong) (by decide +kernel) (by decide +kernel) fun H1 v r1 k1 hv => ?_
  cases hv
  refine rd_meth (i := 0) rfl r1 (nat_at n r (by omega)) (by decide +kernel) (by decide +kernel) fun H2 v r2 k2 hv => ?_
  cases hv
  refine ⟨_, rfl, ?_⟩
  refine lc_read (R := fun n => rN n) (te := tMeth CR "number" (sp_Reader_number CR) [] E0 (tVar 0) tNil) (Q := fun y H1 => rTupOf K [y] H1 fun z H2 => [V.int (x.long : Int), z].length ≤ sizeLine ∧ ∀ p, H2 p = none → Q (.ref p) (upd H2 p (.tup [V.int (x.long : Int), z]))) (σ := [some (.ref a), some (.int (x.long : Int)), some (.int (n : Int)), none]) (vs := [3]) (i := 2) (j := 3) (n := n) (fun _ => st_V) rfl hn hm r2 (fun _ => rfl) ?_ fun D H3 r3 k3 hD => ?_
  · exact fun t H3 l2 x l3 kk r3 hx hk => rd_meth (i := 0) rfl r3 hx (by decide +kernel) (by decide +kernel) hk
  obtain ⟨D', ys, hDD, nD, hD, al⟩ := hD
  cases hDD
  have hys := ints_of.mp al
  subst hys
  refine ⟨D, _, rfl, .inl ⟨SqL.of hD, fun p np => ?_⟩⟩
  refine ⟨by show 2 ≤ sizeLine; decide, fun q nq => ?_⟩
  obtain ⟨dx3, row3, q3, ha3, hra3, hd3⟩ := id r3
  have ex : Ex H3 (upd (upd H3 p (.tup (x.keys.map nV))) q (.tup [.int (x.long : Int), .ref p])) := (Ex.new np).trans (Ex.new nq)
  refine k _ _ ⟨dx3, row3, q3, ex a _ ha3, ex ra _ hra3, hd3⟩ ((k1.trans (k2.trans k3)).trans (KeepA.ex ex)) ⟨q, _, rfl, upd_same, All2.cons rfl (All2.cons ⟨p, _, rfl, (Ex.new nq) p _ upd_same, ints_of.mpr rfl⟩ All2.nil)⟩
def sp_Reader_bar (CR : Addr) : Sp := spRd CR Sw71Neutral.barIn rBar
theorem len_Reader_bar {CR vs H Q E} (h : sp_Reader_bar CR vs H Q E) : vs.length = 1 := len_Rd h
theorem ok_Reader_bar {P : Program} {w : World} {K : PySem.W.Frag} {mg : Str → Option Value} {base : Heap} {CR CS : Addr} (T : Tx K mg CR CS) (A : FunM K CR "bar" "Reader.bar" s_Reader_bar ["self"]) (D_Reader_number : Mtd P w K mg base CR "number" 1 ["self"] (sp_Reader_number CR)) (D_Reader_item : Mtd P w K mg base CR "item" 2 ["self"] (sp_Reader_item CR)) : Mtd P w K mg base CR "bar" 3 ["self"] (sp_Reader_bar CR) := by
  obtain ⟨f, fd, mt, F, b⟩ := A
  obtain ⟨f_Reader_number, fd_Reader_number, m_reader_number, b_reader_number, F_reader_number⟩ := D_Reader_number
  obtain ⟨f_Reader_item, fd_Reader_item, m_reader_item, b_reader_item, F_reader_item⟩ := D_Reader_item
  refine ⟨f, fd, mt, b, F.ok sc_Reader_bar (fun vs H Q E h => len_Reader_bar h) (fun cdv A outer s H vs Q E hr h => ?_)⟩
  obtain ⟨a, ra, l, x, l', rfl, r0, hp, k⟩ := h
  obtain ⟨n, r, rfl, hn, hm⟩ := list_cases hp
  refine ⟨_, (pss_cons (ps_set (i := 1) sc_Reader_bar.nd rfl (Or.inl rfl) (pe_meth0 (pv 0) T.cl_reader m_reader_number F_reader_number (hr.mono (by decide)) b_reader_number .nil pass0))
      (pss_one (ps_ret (pe_callTy (tupleOf K) (by rfl) T.tuple (by decide +kernel) (pa_cons (pe_lc (own := [("k", 2)]) (g := gName 2) (tt := tYes) rfl sc_Reader_bar.nd (pi_range1 (by rfl) T.range (pa_cons (pv 1) pa_nil)) (blkOk_by (own := [("k", 2)]) (N := N_Reader_bar) (sc := defScope s_Reader_bar) (by decide +kernel)) (fun _ _ _ _ _ => (pg_name (i := 2) sc_Reader_bar.nd rfl (Or.inl rfl))) (fun _ _ _ _ _ => pts_nil) (fun _ _ _ _ _ => (pe_meth0 (pv 0) T.cl_reader m_reader_item F_reader_item (hr.mono (by decide)) b_reader_item .nil pass0))) pa_nil))))), ?_⟩
  refine rd_meth (i := 0) rfl r0 (nat_at n r (by omega)) (by decide +kernel) (by decide +kernel) fun H1 v r1 k1 hv => ?_
  cases hv
  refine lc_read (te := tMeth CR "item" (sp_Reader_item CR) [] E0 (tVar 0) tNil) (Q := fun y H1 => rTupOf K [y] H1 Q) (σ := [some (.ref a), some (.int (n : Int)), none]) (vs := [2]) (i := 1) (j := 2) (n := n) (fun x => (fl_item x).st) rfl hn hm r1 (fun _ => rfl) ?_ fun D H3 r3 k3 hD => ?_
  · exact fun t H3 l2 x l3 kk r3 hx hk => rd_meth (i := 0) rfl r3 hx (by decide +kernel) (by decide +kernel) hk
  obtain ⟨D', ys, hDD, nD, hD, al⟩ := hD
  cases hDD
  refine ⟨D, _, rfl, .inl ⟨SqL.of hD, fun p np => ?_⟩⟩
  obtain ⟨dx3, row3, q3, ha3, hra3, hd3⟩ := id r3
  have ex : Ex H3 (upd H3 p (.tup ys)) := Ex.new np
  exact k _ _ ⟨dx3, row3, q3, ex a _ ha3, ex ra _ hra3, hd3⟩ ((k1.trans k3).trans (KeepA.ex ex)) ⟨p, ys, rfl, upd_same, al.mono fun v r hr h => (fl_map fl_item r hr).ex ex h⟩
def sp_Reader_bars (CR : Addr) : Sp := spRd CR (Sw71Neutral.listIn Sw71Neutral.barIn) rBars
theorem len_Reader_bars {CR vs H Q E} (h : sp_Reader_bars CR vs H Q E) : vs.length = 1 := len_Rd h
theorem ok_Reader_bars {P : Program} {w : World} {K : PySem.W.Frag} {mg : Str → Option Value} {base : Heap} {CR CS : Addr} (T : Tx K mg CR CS) (A : FunM K CR "bars" "Reader.bars" s_Reader_bars ["self"]) (D_Reader_number : Mtd P w K mg base CR "number" 1 ["self"] (sp_Reader_number CR)) (D_Reader_bar : Mtd P w K mg base CR "bar" 3 ["self"] (sp_Reader_bar CR)) : Mtd P w K mg base CR "bars" 4 ["self"] (sp_Reader_bars CR) := by
  obtain ⟨f, fd, mt, F, b⟩ := A
  obtain ⟨f_Reader_number, fd_Reader_number, m_reader_number, b_reader_number, F_reader_number⟩ := D_Reader_number
  obtain ⟨f_Reader_bar, fd_Reader_bar, m_reader_bar, b_reader_bar, F_reader_bar⟩ := D_Reader_bar
  refine ⟨f, fd, mt, b, F.ok sc_Reader_bars (fun vs H Q E h => len_Reader_bars h) (fun cdv A outer s H vs Q E hr h => ?_)⟩
  obtain ⟨a, ra, l, x, l', rfl, r0, hp, k⟩ := h
  obtain ⟨n, r, rfl, hn, hm⟩ := list_cases hp
  refine ⟨_, (pss_cons (ps_set (i := 1) sc_Reader_bars.nd rfl (Or.inl rfl) (pe_meth0 (pv 0) T.cl_reader m_reader_number F_reader_number (hr.mono (by decide)) b_reader_number .nil pass0))
      (pss_one (ps_ret (pe_lc (own := [("k", 2)]) (g := gName 2) (tt := tYes) rfl sc_Reader_bars.nd (pi_range1 (by rfl) T.range (pa_cons (pv 1) pa_nil)) (blkOk_by (own := [("k", 2)]) (N := N_Reader_bars) (sc := defScope s_Reader_bars) (by decide +kernel)) (fun _ _ _ _ _ => (pg_name (i := 2) sc_Reader_bars.nd rfl (Or.inl rfl))) (fun _ _ _ _ _ => pts_nil) (fun _ _ _ _ _ => (pe_meth0 (pv 0) T.cl_reader m_reader_bar F_reader_bar (hr.mono (by decide)) b_reader_bar .nil pass0)))))), ?_⟩
  refine rd_meth (i := 0) rfl r0 (nat_at n r (by omega)) (by decide +kernel) (by decide +kernel) fun H1 v r1 k1 hv => ?_
  cases hv
  have hra := r0
  obtain ⟨dx0, row0, q0, ha0, _⟩ := hra
  refine lc_read (σ := [some (.ref a), some (.int (n : Int)), none]) (vs := [2]) (i := 1) (j := 2) (n := n) (fun x => (fl_bar x).st) rfl hn hm r1 (fun _ => rfl) ?_ fun D H3 r3 k3 hD => ?_
  · exact fun t H3 l2 x l3 kk r3 hx hk => rd_meth (i := 0) rfl r3 hx (by decide +kernel) (by decide +kernel) hk
  obtain ⟨dx1, row1, q1, ha1, _⟩ := r1
  exact k _ _ r3 (k1.trans k3) (st_bars x _ _ H3 H3 _ (fun q hq => k1.back ha1 hq) Tr.rf hD)
end Ps

namespace Ps
open PySem PySem.Spec PyProof.Rows L2 Evl

/-! ### what is read is small -/
theorem cap_item {l l' : List Int} {x : Sw71.Item} (h : Sw71Neutral.itemIn l = some (x, l')) : x.keys.length ≤ 60 := by
  obtain ⟨n, r, _, _, hn, hm⟩ := item_cases h
  rw [many_len hm]
  exact hn
theorem cap_bar {l l' : List Int} {b : Sw71.Bar} (h : Sw71Neutral.barIn l = some (b, l')) : Cap b := by
  obtain ⟨n, r, _, hn, hm⟩ := list_cases h
  refine ⟨by rw [many_len hm]; exact hn, fun x hx => ?_⟩
  have := many_all (P := fun x : Sw71.Item => x.keys.length ≤ 60) (fun l x l' h => cap_item h) hm x hx
  omega
theorem cap_bars {l l' : List Int} {bs : List Sw71.Bar} (h : Sw71Neutral.listIn Sw71Neutral.barIn l = some (bs, l')) : CapL bs := by
  obtain ⟨n, r, _, hn, hm⟩ := list_cases h
  exact ⟨by rw [many_len hm]; exact hn, many_all (fun l x l' h => cap_bar h) hm⟩
theorem piece_cases {l l' : List Int} {p : Sw71.Piece} (h : Sw71Neutral.pieceIn l = some (p, l')) :
    (∃ n r, l = 0 :: r ∧ Sw71Neutral.natIn r = some (n, l') ∧ p = .rest n) ∨ (∃ bs r, l = 1 :: r ∧ Sw71Neutral.listIn Sw71Neutral.barIn r = some (bs, l') ∧ p = .bar bs) ∨
    (∃ k b r r2, l = 2 :: r ∧ Sw71Neutral.natIn r = some (k, r2) ∧ Sw71Neutral.barIn r2 = some (b, l') ∧ p = .cue k b) := by
  unfold Sw71Neutral.pieceIn at h
  split at h
  · rename_i r
    cases e : Sw71Neutral.natIn r with
    | none => rw [e] at h; cases h
    | some y => rw [e] at h; cases h; exact .inl ⟨y.1, r, rfl, e, rfl⟩
  · rename_i r
    cases e : Sw71Neutral.listIn Sw71Neutral.barIn r with
    | none => rw [e] at h; cases h
    | some y => rw [e] at h; cases h; exact .inr (.inl ⟨y.1, r, rfl, e, rfl⟩)
  · rename_i r
    cases e : Sw71Neutral.natIn r with
    | none => rw [e] at h; cases h
    | some y =>
      rw [e] at h
      have h : ((Sw71Neutral.barIn y.2).map fun b => (Sw71.Piece.cue y.1 b.1, b.2)) = some (p, l') := h
      cases e2 : Sw71Neutral.barIn y.2 with
      | none => rw [e2] at h; cases h
      | some z => rw [e2] at h; cases h; exact .inr (.inr ⟨y.1, z.1, r, y.2, rfl, e, e2, rfl⟩)
  · cases h
theorem cap_piece {l l' : List Int} {p : Sw71.Piece} (h : Sw71Neutral.pieceIn l = some (p, l')) : CapP p := by
  rcases piece_cases h with ⟨n, r, _, h1, rfl⟩ | ⟨bs, r, _, h1, rfl⟩ | ⟨k, b, r, r2, _, _, h1, rfl⟩
  · exact (nat_cases h1).2
  · exact cap_bars h1
  · exact cap_bar h1
theorem both_cases {l l' : List Int} {x : Sw71.Both} (h : Sw71Neutral.bothIn l = some (x, l')) : ∃ r, Sw71Neutral.natIn l = some (x.label, r) ∧ Sw71Neutral.listIn Sw71Neutral.barIn r = some (x.lines, l') := by
  have h' : ((Sw71Neutral.natIn l).bind fun n => (Sw71Neutral.listIn Sw71Neutral.barIn n.2).map fun b => ((⟨n.1, b.1⟩ : Sw71.Both), b.2)) = some (x, l') := h
  cases e : Sw71Neutral.natIn l with
  | none => rw [e] at h'; cases h'
  | some y =>
    rw [e] at h'
    have h' : ((Sw71Neutral.listIn Sw71Neutral.barIn y.2).map fun b => ((⟨y.1, b.1⟩ : Sw71.Both), b.2)) = some (x, l') := h'
    cases e2 : Sw71Neutral.listIn Sw71Neutral.barIn y.2 with
    | none => rw [e2] at h'; cases h'
    | some z => rw [e2] at h'; cases h'; exact ⟨y.2, rfl, e2⟩
/-! ### pieces read -/
section
variable {σ : L2.St} {H : Hp} {D : Ends} {tz : TS} {te : TE} {i : Nat}
theorem q_asgC (h : te σ H fun v H1 => tz D (σ.set i (some v)) H1) : tSeq (tAsg te (gName i)) tz D σ H := h
theorem s_asgC (h : te σ H fun v H1 => D.nx (σ.set i (some v)) H1) : tAsg te (gName i) D σ H := h
theorem s_retC (h : te σ H D.rt) : tRet te D σ H := h
end
section
variable {σ : L2.St} {H : Hp} {D : Ends} {te : TE} {i j : Nat} {v0 v1 : V} {G : V → Hp → Prop}
theorem ret_tup2 (hs : σ[i]? = some (some v0)) (h : ∀ k : VK, (∀ y H2, G y H2 → k y H2) → te σ H k) (k : ∀ y H2 p, G y H2 → H2 p = none → D.rt (.ref p) (upd H2 p (.tup [v0, y]))) : tRet (tTup (tCons (tVar i) (tCons te tNil))) D σ H :=
  ⟨v0, hs, h _ fun y H2 g => ⟨by show 2 ≤ sizeLine; decide, fun p hp => k y H2 p g hp⟩⟩
theorem ret_tup3 (hs : σ[i]? = some (some v0)) (hs2 : σ[j]? = some (some v1)) (h : ∀ k : VK, (∀ y H2, G y H2 → k y H2) → te σ H k) (k : ∀ y H2 p, G y H2 → H2 p = none → D.rt (.ref p) (upd H2 p (.tup [v0, v1, y]))) : tRet (tTup (tCons (tVar i) (tCons (tVar j) (tCons te tNil)))) D σ H :=
  ⟨v0, hs, v1, hs2, h _ fun y H2 g => ⟨by show 3 ≤ sizeLine; decide, fun p hp => k y H2 p g hp⟩⟩
end
theorem RdAt.ex {C : Addr} {H H' : Hp} {a ra : Addr} {l : List Int} (r : RdAt C H a ra l) (e : Ex H H') : RdAt C H' a ra l := by
  obtain ⟨dx, row, q, ha, hra, hd⟩ := r
  exact ⟨dx, row, q, e a _ ha, e ra _ hra, hd⟩
theorem RdAt.back {C : Addr} {H0 H H' : Hp} {a ra : Addr} {l : List Int} {r : Rl} (s : St r) (x : RdAt C H a ra l) (k : KeepA a H0 H) {v : V} (h : r (New H) H' v) : r (New H0) H' v := by
  obtain ⟨dx, row, q, ha, _⟩ := x
  exact s _ _ H' H' v (fun p hp => k.back ha hp) Tr.rf h
def sp_read_piece (CR : Addr) : Sp := spRd CR Sw71Neutral.pieceIn rPiece
theorem len_read_piece {CR vs H Q E} (h : sp_read_piece CR vs H Q E) : vs.length = 1 := len_Rd h
theorem ok_read_piece {P : Program} {w : World} {K : PySem.W.Frag} {mg : Str → Option Value} {base : Heap} {CR CS : Addr} (T : Tx K mg CR CS) (A : FunAt K mg "read_piece" s_read_piece ["reader"]) (D_Reader_number : Mtd P w K mg base CR "number" 1 ["self"] (sp_Reader_number CR)) (D_Reader_bars : Mtd P w K mg base CR "bars" 4 ["self"] (sp_Reader_bars CR)) (D_Reader_bar : Mtd P w K mg base CR "bar" 3 ["self"] (sp_Reader_bar CR)) : Dfn P w K mg base "read_piece" 5 ["reader"] (sp_read_piece CR) := by
  obtain ⟨f, fd, g, F, b⟩ := A
  obtain ⟨f_Reader_number, fd_Reader_number, m_reader_number, b_reader_number, F_reader_number⟩ := D_Reader_number
  obtain ⟨f_Reader_bars, fd_Reader_bars, m_reader_bars, b_reader_bars, F_reader_bars⟩ := D_Reader_bars
  obtain ⟨f_Reader_bar, fd_Reader_bar, m_reader_bar, b_reader_bar, F_reader_bar⟩ := D_Reader_bar
  refine ⟨f, fd, g, F.kp, b, F.ok sc_read_piece (fun vs H Q E h => len_read_piece h) (fun cdv A outer s H vs Q E hr h => ?_)⟩
  obtain ⟨a, ra, l, x, l', rfl, r0, hp, k⟩ := h
  refine ⟨_, (pss_cons (ps_set (i := 1) sc_read_piece.nd rfl (Or.inl rfl) (pe_meth0 (pv 0) T.cl_reader m_reader_number F_reader_number (hr.mono (by decide)) b_reader_number .nil pass0))
      (pss_cons (ps_if (pt_cmpR op_eq (pv 1) (pe_cn T.c_REST) (nomark _)) (pss_one (ps_ret (pe_tup (pa_cons (pv 1) (pa_cons (pe_meth0 (pv 0) T.cl_reader m_reader_number F_reader_number (hr.mono (by decide)) b_reader_number .nil pass0) pa_nil))))) pss_nil)
      (pss_cons (ps_if (pt_cmpR op_eq (pv 1) (pe_cn T.c_BAR) (nomark _)) (pss_one (ps_ret (pe_tup (pa_cons (pv 1) (pa_cons (pe_meth0 (pv 0) T.cl_reader m_reader_bars F_reader_bars (hr.mono (by decide)) b_reader_bars .nil pass0) pa_nil))))) pss_nil)
      (pss_cons (ps_set (i := 2) sc_read_piece.nd rfl (Or.inl rfl) (pe_meth0 (pv 0) T.cl_reader m_reader_number F_reader_number (hr.mono (by decide)) b_reader_number .nil pass0))
      (pss_one (ps_ret (pe_tup (pa_cons (pv 1) (pa_cons (pv 2) (pa_cons (pe_meth0 (pv 0) T.cl_reader m_reader_bar F_reader_bar (hr.mono (by decide)) b_reader_bar .nil pass0) pa_nil)))))))))), ?_⟩
  rcases piece_cases hp with ⟨n, r, rfl, h1, rfl⟩ | ⟨bs, r, rfl, h1, rfl⟩ | ⟨kk, b, r, r2, rfl, h1, h2, rfl⟩
  · refine rd_meth (i := 0) rfl r0 (nat_at 0 r (by decide)) (by decide +kernel) (by decide +kernel) fun H1 v r1 k1 hv => ?_
    cases hv
    refine q_when (b := true) (et_is (ett (evx_eq (evv_var rfl) evx_c rfl)) rfl) ?_ (fun z => by cases z)
    intro _ H2 e2
    refine ret_tup2 (G := fun y H3 => RdAt CR H3 a ra l' ∧ KeepA a H2 H3 ∧ rN n (New H2) H3 y) rfl (fun kq hq => rd_meth (i := 0) rfl (r1.ex e2) h1 (by decide +kernel) (by decide +kernel) fun H3 v r3 k3 hv => hq v H3 ⟨r3, k3, hv⟩) ?_
    rintro y H3 p ⟨r3, k3, rfl⟩ np
    exact k _ _ (r3.ex (Ex.new np)) ((k1.trans (KeepA.ex e2)).trans (k3.trans (KeepA.ex (Ex.new np)))) ⟨p, _, rfl, upd_same, All2.cons rfl (All2.cons rfl All2.nil)⟩
  · refine rd_meth (i := 0) rfl r0 (nat_at 1 r (by decide)) (by decide +kernel) (by decide +kernel) fun H1 v r1 k1 hv => ?_
    cases hv
    refine q_when (b := false) (et_is (ett (evx_eq (evv_var rfl) evx_c rfl)) rfl) (fun z => by cases z) ?_
    intro _ H2 e2
    refine q_when (b := true) (et_is (ett (evx_eq (evv_var rfl) evx_c rfl)) rfl) ?_ (fun z => by cases z)
    intro _ H3 e3
    have e23 := e2.trans e3
    refine ret_tup2 (G := fun y H4 => RdAt CR H4 a ra l' ∧ KeepA a H3 H4 ∧ rBars bs (New H3) H4 y) rfl (fun kq hq => rd_meth (i := 0) rfl (r1.ex e23) h1 (by decide +kernel) (by decide +kernel) fun H4 v r4 k4 hv => hq v H4 ⟨r4, k4, hv⟩) ?_
    rintro y H4 p ⟨r4, k4, hy⟩ np
    have k03 := k1.trans (KeepA.ex e23)
    exact k _ _ (r4.ex (Ex.new np)) (k03.trans (k4.trans (KeepA.ex (Ex.new np)))) ⟨p, _, rfl, upd_same, All2.cons rfl (All2.cons ((st_bars bs).ex (Ex.new np) ((r1.ex e23).back (st_bars bs) k03 hy)) All2.nil)⟩
  · refine rd_meth (i := 0) rfl r0 (nat_at 2 r (by decide)) (by decide +kernel) (by decide +kernel) fun H1 v r1 k1 hv => ?_
    cases hv
    refine q_when (b := false) (et_is (ett (evx_eq (evv_var rfl) evx_c rfl)) rfl) (fun z => by cases z) ?_
    intro _ H2 e2
    refine q_when (b := false) (et_is (ett (evx_eq (evv_var rfl) evx_c rfl)) rfl) (fun z => by cases z) ?_
    intro _ H3 e3
    have e23 := e2.trans e3
    refine rd_meth (i := 0) rfl (r1.ex e23) h1 (by decide +kernel) (by decide +kernel) fun H4 v r4 k4 hv => ?_
    cases hv
    refine ret_tup3 (G := fun y H5 => RdAt CR H5 a ra l' ∧ KeepA a H4 H5 ∧ rBar b (New H4) H5 y) rfl rfl (fun kq hq => rd_meth (i := 0) rfl r4 h2 (by decide +kernel) (by decide +kernel) fun H5 v r5 k5 hv => hq v H5 ⟨r5, k5, hv⟩) ?_
    rintro y H5 p ⟨r5, k5, hy⟩ np
    exact k _ _ (r5.ex (Ex.new np)) ((k1.trans (KeepA.ex e23)).trans (k4.trans (k5.trans (KeepA.ex (Ex.new np))))) ⟨p, _, rfl, upd_same, All2.cons rfl (All2.cons rfl (All2.cons ((fl_bar b).ex (Ex.new np) hy) All2.nil))⟩
def sp_read_labelled (CR : Addr) : Sp := spRd CR Sw71Neutral.bothIn rBoth
theorem len_read_labelled {CR vs H Q E} (h : sp_read_labelled CR vs H Q E) : vs.length = 1 := len_Rd h
theorem ok_read_labelled {P : Program} {w : World} {K : PySem.W.Frag} {mg : Str → Option Value} {base : Heap} {CR CS : Addr} (T : Tx K mg CR CS) (A : FunAt K mg "read_labelled" s_read_labelled ["reader"]) (D_Reader_number : Mtd P w K mg base CR "number" 1 ["self"] (sp_Reader_number CR)) (D_Reader_bars : Mtd P w K mg base CR "bars" 4 ["self"] (sp_Reader_bars CR)) : Dfn P w K mg base "read_labelled" 5 ["reader"] (sp_read_labelled CR) := by
  obtain ⟨f, fd, g, F, b⟩ := A
  obtain ⟨f_Reader_number, fd_Reader_number, m_reader_number, b_reader_number, F_reader_number⟩ := D_Reader_number
  obtain ⟨f_Reader_bars, fd_Reader_bars, m_reader_bars, b_reader_bars, F_reader_bars⟩ := D_Reader_bars
  refine ⟨f, fd, g, F.kp, b, F.ok sc_read_labelled (fun vs H Q E h => len_read_labelled h) (fun cdv A outer s H vs Q E hr h => ?_)⟩
  obtain ⟨a, ra, l, x, l', rfl, r0, hp, k⟩ := h
  obtain ⟨r, h1, h2⟩ := both_cases hp
  refine ⟨_, (pss_cons (ps_set (i := 1) sc_read_labelled.nd rfl (Or.inl rfl) (pe_meth0 (pv 0) T.cl_reader m_reader_number F_reader_number (hr.mono (by decide)) b_reader_number .nil pass0))
      (pss_one (ps_ret (pe_tup (pa_cons (pv 1) (pa_cons (pe_meth0 (pv 0) T.cl_reader m_reader_bars F_reader_bars (hr.mono (by decide)) b_reader_bars .nil pass0) pa_nil)))))), ?_⟩
  refine rd_meth (i := 0) rfl r0 h1 (by decide +kernel) (by decide +kernel) fun H1 v r1 k1 hv => ?_
  cases hv
  refine ret_tup2 (G := fun y H4 => RdAt CR H4 a ra l' ∧ KeepA a H1 H4 ∧ rBars x.lines (New H1) H4 y) rfl (fun kq hq => rd_meth (i := 0) rfl r1 h2 (by decide +kernel) (by decide +kernel) fun H4 v r4 k4 hv => hq v H4 ⟨r4, k4, hv⟩) ?_
  rintro y H4 p ⟨r4, k4, hy⟩ np
  exact k _ _ (r4.ex (Ex.new np)) (k1.trans (k4.trans (KeepA.ex (Ex.new np)))) ⟨p, _, rfl, upd_same, All2.cons rfl (All2.cons ((st_bars x.lines).ex (Ex.new np) (r1.back (st_bars x.lines) k1 hy)) All2.nil)⟩
def rIs (row : List Int) : Rl := rL (row.map fun n => rI n)
theorem st_is (row : List Int) : St (rIs row) := st_L (st_map fun _ => st_V)
theorem is_of {F : Addr → Prop} {H : Hp} {vs : List V} {ns : List Int} : All2 (fun v (r : Rl) => r F H v) vs (ns.map fun n => rI n) ↔ vs = ns.map V.int := by
  rw [all2_map]
  exact all2_eq (f := V.int)
theorem make_reader {CR : Addr} {σ : L2.St} {H : Hp} {Q : VK} {i : Nat} {v : V} {row : List Int} (hs : σ[i]? = some (some v)) (hv : rIs row Any H v) (k : ∀ x ra H', H x = none → RdAt CR H' x ra row → Ex H H' → Q (.ref x) H') :
    tMake CR (sp_Reader___init__ CR) [] E0 (tCons (tVar i) tNil) σ H Q := by
  obtain ⟨ra, vs, rfl, _, hra, al⟩ := hv
  have := is_of.mp al
  subst this
  refine ⟨_, hs, fun x dx nx ndx ne => ⟨x, dx, ra, rfl, upd_same, fun H' h1 kp => ⟨rfl, ?_⟩⟩⟩
  have keep : Ex H H' := fun b o hb => kp b o (ne_of_none hb nx) (by rw [upd_ne (ne_of_none hb nx), upd_ne (ne_of_none hb ndx)]; exact hb)
  exact k x ra H' nx ⟨dx, row, 0, h1, keep ra _ hra, rfl⟩ keep
theorem ex_keepA {a : Addr} {H H1 H' : Hp} (e : Ex H H1) (k : KeepA a H1 H') (na : H a = none) : Ex H H' := fun b o hb => k b o (ne_of_none hb na) (e b o hb)
def sp_read_pieces : Sp := spP (fun x : List Int × List Sw71.Piece × List Int => [rIs x.1]) (fun x => Sw71Neutral.listIn Sw71Neutral.pieceIn x.1 = some (x.2.1, x.2.2)) (fun x => rL (x.2.1.map rPiece))
theorem len_read_pieces {vs H Q E} (h : sp_read_pieces vs H Q E) : vs.length = 1 := len_P (fun _ => rfl) h
theorem ok_read_pieces {P : Program} {w : World} {K : PySem.W.Frag} {mg : Str → Option Value} {base : Heap} {CR CS : Addr} (T : Tx K mg CR CS) (A : FunAt K mg "read_pieces" s_read_pieces ["row"]) (D_read_piece : Dfn P w K mg base "read_piece" 5 ["reader"] (sp_read_piece CR)) (D_Reader___init__ : Mki P w K mg base CR 1 ["self", "row"] (sp_Reader___init__ CR)) (D_Reader_number : Mtd P w K mg base CR "number" 1 ["self"] (sp_Reader_number CR)) : Dfn P w K mg base "read_pieces" 6 ["row"] (sp_read_pieces) := by
  obtain ⟨f, fd, g, F, b⟩ := A
  obtain ⟨f_read_piece, fd_read_piece, g_read_piece, k_read_piece, b_read_piece, F_read_piece⟩ := D_read_piece
  obtain ⟨f_Reader___init__, fd_Reader___init__, mk_reader, b_reader___init__, F_reader___init__⟩ := D_Reader___init__
  obtain ⟨f_Reader_number, fd_Reader_number, m_reader_number, b_reader_number, F_reader_number⟩ := D_Reader_number
  refine ⟨f, fd, g, F.kp, b, F.ok sc_read_pieces (fun vs H Q E h => len_read_pieces h) (fun cdv A outer s H vs Q E hr h => ?_)⟩
  obtain ⟨⟨row, ps, rest⟩, al, hp, k⟩ := h
  replace hp : Sw71Neutral.listIn Sw71Neutral.pieceIn row = some (ps, rest) := hp
  obtain ⟨v0, _, rfl, h0, al⟩ := al.un_cons
  cases al.un_nil
  obtain ⟨n, r, rfl, hn, hm⟩ := list_cases hp
  refine ⟨_, (pss_cons (ps_set (i := 1) sc_read_pieces.nd rfl (Or.inr rfl) (pe_make mk_reader F_reader___init__ (hr.mono (by decide)) (by rfl) T.g_reader b_reader___init__ .nil pass0 (pa_cons (pv 0) pa_nil)))
      (pss_cons (ps_set (i := 2) sc_read_pieces.nd rfl (Or.inl rfl) (pe_meth0 (pv 1) T.cl_reader m_reader_number F_reader_number (hr.mono (by decide)) b_reader_number .nil pass0))
      (pss_one (ps_ret (pe_lc (own := [("k", 3)]) (g := gName 3) (tt := tYes) rfl sc_read_pieces.nd (pi_range1 (by rfl) T.range (pa_cons (pv 2) pa_nil)) (blkOk_by (own := [("k", 3)]) (N := N_read_pieces) (sc := defScope s_read_pieces) (by decide +kernel)) (fun _ _ _ _ _ => (pg_name (i := 3) sc_read_pieces.nd rfl (Or.inl rfl))) (fun _ _ _ _ _ => pts_nil) (fun _ _ _ _ _ => (pe_call F_read_piece (hr.mono (by decide)) (by rfl) g_read_piece k_read_piece b_read_piece .nil pass0 (pa_cons (pv 1) pa_nil)))))))), ?_⟩
  refine q_asgC (make_reader (i := 0) rfl h0 fun a ra H1 na r1 e1 => ?_)
  refine rd_meth (i := 1) rfl r1 (nat_at n r (by omega)) (by decide +kernel) (by decide +kernel) fun H2 v r2 k2 hv => ?_
  cases hv
  refine lc_read (te := tCall (sp_read_piece CR) [] E0 (tCons (tVar 1) tNil)) (Q := Q) (σ := [some v0, some (.ref a), some (.int (n : Int)), none]) (vs := [3]) (i := 2) (j := 3) (n := n) st_piece rfl hn hm r2 (fun _ => rfl) ?_ fun D H3 r3 k3 hD => ?_
  · exact fun t H3 l2 x l3 kk r3 hx hk => rd_call (i := 1) rfl r3 hx hk
  · have e3 := ex_keepA e1 (k2.trans k3) na
    have e2 := ex_keepA e1 k2 na
    exact k _ H3 e3 ((st_L (st_map st_piece)).back e2 hD)
end Ps

namespace Ps
open PySem PySem.Spec PyProof.Rows L2 Evl

/-! ### how many numbers of a list differ: len of its set -/
def metAll (ns : List Int) : List Int := PyProof.Rows.firstMet (fun i => ns.getD i 0) ns.length
def tLenSet (K : PySem.W.Frag) (ta : TE) : TE := fun σ H Q => ta σ H fun x H1 => ∃ (l : Addr) (ns : List Int), x = .ref l ∧ SqL K H1 l (ns.map V.int) ∧ ns.length ≤ 4000 ∧ Q (.int ((metAll ns).length : Nat)) H1
theorem pe_lenSet {X : Cx} {a : Expr} {ta : TE} {p p2 q pos : Pos} (g1 : Gl X "len") (m1 : X.mg "len" = none) (g2 : Gl X "set") (m2 : X.mg "set" = none) (ea : PE X a ta) (calm : X.calm = true := by rfl)
    (na : starEach [a] X.env = (false, eval a X.env) :: starEach [] X.env := by rfl) : PE X (.Call (.Name "len" p) [.Call (.Name "set" p2) [a] [] q] [] pos) (tLenSet X.K ta) := by
  refine ⟨fun pins s0 σ H Q I want => ?_⟩
  refine Call_ (ld_blt I g1 m1 boot_len
    (PyProof.Rows.callWith_builtin1 (PyProof.Rows.args_cons (Call_ (ld_blt I g2 m2 PyProof.Rows.boot_set ?_)) rfl) rfl rfl))
  refine PyProof.Rows.callWith_type1 (PyProof.Rows.args_cons
    (thn (ea.run pins s0 σ H _ I want) fun v s1 ⟨x, H1, I1, r1, hx⟩ => PyProof.Rows.args_nil ?_) na) na rfl
  obtain ⟨l, ns, rfl, sq, few, hx⟩ := hx
  cases r1
  obtain ⟨its, rv, pl, _⟩ := I1.list sq
  have size : its.toArray.size = ns.length := by
    rw [List.size_toArray, ← rv.length, List.length_map]
  have small : its.toArray.size + 1 < scanBound := by
    rw [size]
    unfold scanBound
    omega
  refine call_set_list (I1.ok.hd calm) pl.isList (by simpa using RZ.intsAre_vals rv) small fun h' tk made kept => PyProof.Rows.args_nil ?_
  rw [size] at made
  obtain ⟨o, es, ep, t, there, exact_, data_, _, _, _, fits, many⟩ := made
  have le := PyProof.Rows.firstMet_length_le (fun i => ns.getD i 0) ns.length
  refine call_len_set there exact_ data_ fits (by rw [many]; omega) ?_
  exact ⟨.int ((metAll ns).length : Nat), H1, (I1.kept fun b u e => kept b u (Heap.lt_size e) e).tok _, ⟨_, by rw [many]; rfl⟩, hx⟩
theorem met_step (f : Nat → Int) (i : Nat) : PyProof.Rows.firstMet f (i + 1) = if (PyProof.Rows.firstMet f i).any (· == f i) = true then PyProof.Rows.firstMet f i else PyProof.Rows.firstMet f i ++ [f i] := by
  rw [PyProof.Rows.firstMet_succ]
  rfl
theorem met_full (ns : List Int) : ∀ i, i ≤ ns.length → (PyProof.Rows.firstMet (fun i => ns.getD i 0) i).length = i → PyProof.Rows.firstMet (fun i => ns.getD i 0) i = ns.take i ∧ (ns.take i).Nodup
  | 0, _, _ => ⟨rfl, List.nodup_nil⟩
  | i + 1, hi, h => by
    have le := PyProof.Rows.firstMet_length_le (fun i => ns.getD i 0) i
    rw [met_step] at h ⊢
    by_cases c : (PyProof.Rows.firstMet (fun i => ns.getD i 0) i).any (· == ns.getD i 0) = true
    · rw [if_pos c] at h
      omega
    · rw [if_neg c] at h ⊢
      rw [List.length_append, List.length_singleton] at h
      obtain ⟨e, nd⟩ := met_full ns i (by omega) (by omega)
      have hx : ns[i]? = some (ns.getD i 0) := by
        rw [List.getD_eq_getElem?_getD, List.getElem?_eq_getElem (by omega)]
        rfl
      rw [e] at c ⊢
      rw [List.take_add_one, hx]
      refine ⟨rfl, ?_⟩
      rw [Option.toList_some, List.nodup_append]
      refine ⟨nd, by simp, fun a ha b hb z => c ?_⟩
      have : b = ns.getD i 0 := by simpa using hb
      subst this
      subst z
      exact List.any_eq_true.mpr ⟨_, ha, beq_self_eq_true _⟩
theorem unlike_iff : ∀ ks : List Nat, Sw71.unlike ks = true ↔ ks.Nodup
  | [] => ⟨fun _ => List.nodup_nil, fun _ => rfl⟩
  | k :: ks => by
    show ((!ks.contains k && Sw71.unlike ks) = true) ↔ _
    rw [Bool.and_eq_true, unlike_iff ks, List.nodup_cons]
    simp
theorem met_lt (ks : List Nat) : decide (((metAll (ks.map fun (n : Nat) => (n : Int))).length : Int) < ((ks.length : Nat) : Int)) = !Sw71.unlike ks := by
  have hl : (ks.map fun (n : Nat) => (n : Int)).length = ks.length := List.length_map _
  have le := PyProof.Rows.firstMet_length_le (fun i => (ks.map fun (n : Nat) => (n : Int)).getD i 0) ks.length
  have inj : (ks.map fun (n : Nat) => (n : Int)).Nodup ↔ ks.Nodup := by
    unfold List.Nodup
    rw [List.pairwise_map]
    exact ⟨fun h => h.imp fun z q => z (by rw [q]), fun h => h.imp fun z q => z (by omega)⟩
  cases hu : Sw71.unlike ks with
  | true =>
    have nd := inj.mpr ((unlike_iff ks).mp hu)
    have : metAll (ks.map fun (n : Nat) => (n : Int)) = (ks.map fun (n : Nat) => (n : Int)) := by
      unfold metAll
      rw [RZ.firstMet_nodup nd _ (Nat.le_refl _), List.take_length]
    rw [this, hl, decide_eq_false (by omega)]
    rfl
  | false =>
    refine decide_eq_true ?_
    unfold metAll
    rw [hl]
    have ne : (PyProof.Rows.firstMet (fun i => (ks.map fun (n : Nat) => (n : Int)).getD i 0) ks.length).length ≠ ks.length := fun z => by
      have := (met_full (ks.map fun (n : Nat) => (n : Int)) ks.length (by rw [hl]; exact Nat.le_refl _) z).2
      rw [List.take_of_length_le (by rw [hl]; exact Nat.le_refl _)] at this
      have := (unlike_iff ks).mpr (inj.mp this)
      rw [hu] at this
      cases this
    omega
theorem evx_lenSet {K : PySem.W.Frag} {σ : L2.St} {H : Hp} {te : TE} {ks : List Nat} (h : EvX te σ H (rNs ks)) (hk : ks.length ≤ 4000) : EvX (tLenSet K te) σ H (rI ((metAll (ks.map fun (n : Nat) => (n : Int))).length : Nat)) := fun H1 e Q q =>
  h H1 e _ fun x H2 e2 ⟨a, vs, ex, _, ea, al⟩ => by
    subst ex
    cases ints_of.mp al
    exact ⟨a, ks.map fun (n : Nat) => (n : Int), rfl, SqL.of (by rw [ea, List.map_map]; rfl), by rw [List.length_map]; exact hk, q _ H2 e2 rfl⟩
/-! ### whether it's a score -/
def isScore (l b : List Nat) : Bool := decide (l.length ≤ 40) && ((l.all fun n => decide (1 ≤ n) && decide (n ≤ 64)) && (decide (b.length ≤ 40) && b.all fun i => decide (i < l.length)))
def sp_is_score : Sp := spP (fun x : List Nat × List Nat => [rNs x.1, rNs x.2]) (fun x => x.1.length ≤ 60 ∧ x.2.length ≤ 60) (fun x => rB (isScore x.1 x.2))
theorem len_is_score {vs H Q E} (h : sp_is_score vs H Q E) : vs.length = 2 := len_P (fun _ => rfl) h
theorem ok_is_score {P : Program} {w : World} {K : PySem.W.Frag} {mg : Str → Option Value} {base : Heap} {CR CS : Addr} (T : Tx K mg CR CS) (A : FunAt K mg "is_score" s_is_score ["lengths", "breaks"]) : Dfn P w K mg base "is_score" 1 ["lengths", "breaks"] (sp_is_score) := by
  obtain ⟨f, fd, g, F, b⟩ := A
  refine ⟨f, fd, g, F.kp, b, F.ok sc_is_score (fun vs H Q E h => len_is_score h) (fun cdv A outer s H vs Q E hr h => ?_)⟩
  obtain ⟨⟨l, b⟩, al, ⟨hl, hb⟩, k⟩ := h
  replace hl : l.length ≤ 60 := hl
  replace hb : b.length ≤ 60 := hb
  obtain ⟨v0, _, rfl, h0, al⟩ := al.un_cons
  obtain ⟨v1, _, rfl, h1, al⟩ := al.un_cons
  cases al.un_nil
  have ml := (st_ns l).mo
  have mb := (st_ns b).mo
  refine ⟨_, (pss_cons (ps_if (PW.pt (pw_or (pt_cmpR op_gt (pe_callB (lenS K) (by rfl) T.len PySem.boot_len (pa_cons (pv 0) pa_nil)) (pe_cn T.c_MOST_BARS) (nomark _)) (pw_or1 (pt_not (pt_val (pe_callB (allS K rfl) (by rfl) T.all (by decide +kernel) (pa_cons (pe_lc (own := [("length", 2)]) (g := gName 2) (tt := tYes) rfl sc_is_score.nd (piL K (pv 0)) (blkOk_by (own := [("length", 2)]) (N := N_is_score) (sc := defScope s_is_score) (by decide +kernel)) (fun _ _ _ _ _ => (pg_name (i := 2) sc_is_score.nd rfl (Or.inl rfl))) (fun _ _ _ _ _ => pts_nil) (fun _ _ _ _ _ => (pe_and (pe_cmpR op_le pe_int (pv 2) (nomark _)) (pe_one (pe_cmpR op_le (pv 2) (pe_cn T.c_MOST_LENGTH) (nomark _)))))) pa_nil))))))) (pss_one (ps_ret pe_bl)) pss_nil)
      (pss_one (ps_ret (pe_and (pe_cmpR op_le (pe_callB (lenS K) (by rfl) T.len PySem.boot_len (pa_cons (pv 1) pa_nil)) (pe_cn T.c_MOST_BREAKS) (nomark _)) (pe_one (pe_callB (allS K rfl) (by rfl) T.all (by decide +kernel) (pa_cons (pe_lc (own := [("place", 3)]) (g := gName 3) (tt := tYes) rfl sc_is_score.nd (piL K (pv 1)) (blkOk_by (own := [("place", 3)]) (N := N_is_score) (sc := defScope s_is_score) (by decide +kernel)) (fun _ _ _ _ _ => (pg_name (i := 3) sc_is_score.nd rfl (Or.inl rfl))) (fun _ _ _ _ _ => pts_nil) (fun _ _ _ _ _ => (pe_cmpR op_lt (pv 3) (pe_callB (lenS K) (by rfl) T.len PySem.boot_len (pa_cons (pv 0) pa_nil)) (nomark _)))) pa_nil))))))), ?_⟩
  refine q_when (b := decide (40 < l.length) || !(l.all fun n => decide (1 ≤ n) && decide (n ≤ 64))) (et_or (et_is (ett (evx_I0 ((evx_lenL (evx_var rfl ml h0)).is (by rw [List.length_map])) evx_c)) (decL 40 _)) fun _ => et_not (etb (evx_allM (EvR.tx (lcL l (fun n => rN n) (fun n => rB (decide (1 ≤ n) && decide (n ≤ 64))) (evx_var rfl ml h0) (fun _ => st_V.mo) (by omega) (fun _ => st_V) (fun _ => rfl)
    fun n v H2 hn e hv => ((evx_andV (evx_I0 evx_c (evx_var rfl st_V.mo hv)) fun _ => evx_I0 (evx_var rfl st_V.mo hv) evx_c).is (by rw [← decLe, ← decLe]; rfl)).trV) (st_L (st_map fun _ => st_V)))))) ?_ ?_
  · intro hc H2 e
    refine s_retR evr_c fun v H3 e3 hv => k v H3 (e.trans e3) ?_
    show v = .bl (isScore l b)
    unfold isScore
    rcases Bool.or_eq_true _ _ |>.mp hc with hc | hc
    · have := of_decide_eq_true hc
      rw [decide_eq_false (by omega : ¬ l.length ≤ 40)]
      exact hv
    · have : (l.all fun n => decide (1 ≤ n) && decide (n ≤ 64)) = false := by
        cases hq : l.all fun n => decide (1 ≤ n) && decide (n ≤ 64) with
        | false => rfl
        | true => rw [hq] at hc; cases hc
      rw [this, Bool.false_and, Bool.and_false]
      exact hv
  · intro hc H2 e
    have hc2 := Bool.or_eq_false_iff.mp hc
    have h40 := of_decide_eq_false hc2.1
    have hall : (l.all fun n => decide (1 ≤ n) && decide (n ≤ 64)) = true := by
      cases hq : l.all fun n => decide (1 ≤ n) && decide (n ≤ 64) with
      | true => rfl
      | false => rw [hq] at hc2; cases hc2.2
    have g0 := ml _ _ v0 e h0
    have g1 := mb _ _ v1 e h1
    refine s_retX (evx_andV (evx_I0 ((evx_lenL (evx_var rfl mb g1)).is (by rw [List.length_map])) evx_c) fun _ => evx_allM (EvR.tx (lcL b (fun n => rN n) (fun n => rB (decide (n < l.length))) (evx_var rfl mb g1) (fun _ => st_V.mo) (by omega) (fun _ => st_V) (fun _ => rfl)
      fun n v H3 hn e3 hv => ((evx_I0 (evx_var rfl st_V.mo hv) ((evx_lenL (evx_var rfl ml (ml _ _ v0 e3 g0))).is (by rw [List.length_map]))).is (by rw [decL])).trV) (st_L (st_map fun _ => st_V)))) fun v H3 e3 hv => k v H3 (e.trans e3) ?_
    show v = .bl (isScore l b)
    unfold isScore
    rw [hall, decide_eq_true (by omega : l.length ≤ 40), ← decLe]
    exact hv
/-! ### lists told -/
def listsOut (rows : List (List Nat)) : List Nat := rows.length :: rows.flatMap fun w => w.length :: w
def CapR (rows : List (List Nat)) : Prop := rows.length ≤ 60 ∧ ∃ c, (∀ r ∈ rows, r.length + 1 ≤ c) ∧ rows.length * c ≤ 15000000 ∧ c ≤ 5000000
def sp_lists_told : Sp := spP (fun x => [rL (x.map rNs)]) (fun x => CapR x) (fun x => rNs (listsOut x))
theorem len_lists_told {vs H Q E} (h : sp_lists_told vs H Q E) : vs.length = 1 := len_P (fun _ => rfl) h
theorem ok_lists_told {P : Program} {w : World} {K : PySem.W.Frag} {mg : Str → Option Value} {base : Heap} {CR CS : Addr} (T : Tx K mg CR CS) (A : FunAt K mg "lists_told" s_lists_told ["rows"]) (D_with_count : Dfn P w K mg base "with_count" 1 ["row"] (sp_with_count)) : Dfn P w K mg base "lists_told" 2 ["rows"] (sp_lists_told) := by
  obtain ⟨f, fd, g, F, b⟩ := A
  obtain ⟨f_with_count, fd_with_count, g_with_count, k_with_count, b_with_count, F_with_count⟩ := D_with_count
  refine ⟨f, fd, g, F.kp, b, F.ok sc_lists_told (fun vs H Q E h => len_lists_told h) (fun cdv A outer s H vs Q E hr h => ?_)⟩
  obtain ⟨x, al, ⟨hx60, c, hc, hct, hc5⟩, k⟩ := h
  obtain ⟨v0, _, rfl, h0, al⟩ := al.un_cons
  cases al.un_nil
  refine ⟨_, (pss_cons (ps_set (i := 1) sc_lists_told.nd rfl (Or.inl rfl) (pe_lst (pa_cons (pe_callB (lenS K) (by rfl) T.len PySem.boot_len (pa_cons (pv 0) pa_nil)) pa_nil)))
      (pss_cons (ps_for PassesOwn.never rfl (piL K (pv 0)) (pg_name (i := 2) sc_lists_told.nd rfl (Or.inl rfl)) (pss_one (ps_expr (pe_bm PySem.F.plainAttrs_list PySem.F.slot_list_extend PySem.F.type_list_extend mt_extend (pv 1) (pa_cons (pe_call F_with_count (hr.mono (by decide)) (by rfl) g_with_count k_with_count b_with_count .nil pass0 (pa_cons (pv 2) pa_nil)) pa_nil)))))
      (pss_one (ps_ret (pv 1))))), ?_⟩
  refine q_asgR (evr_lst1 ((evx_lenL (evx_var rfl (st_L (st_map st_ns)).mo h0)).is (by rw [List.length_map])).trV st_V) fun D H1 e1 hD => ?_
  obtain ⟨D, vs, rfl, nD, hD, al⟩ := hD
  obtain ⟨w0, _, rfl, hw0, al⟩ := al.un_cons
  cases al.un_nil
  cases hw0
  obtain ⟨a, vs, rfl, _, ha, al0⟩ := h0
  have lv : vs.length = x.length := by rw [al0.1, List.length_map]
  refine q_forLn (xs := vs) (ev_var rfl) (SqL.of (e1 a _ ha)) (fun i σ' H' => ∃ y2, σ' = [some (.ref a), some (.ref D), y2] ∧ Ex H H' ∧ H' D = some (.lst ((x.length :: (x.take i).flatMap fun w => w.length :: w).map nV))) (fun H2 e2 => ⟨none, rfl, e1.trans e2, e2 D _ hD⟩) (fun i σ' H' _ ⟨_, _, e, _⟩ => SqL.of (e a _ ha)) ?_ ?_
  · rintro i v σ' H' hi ⟨y2, rfl, e, hD'⟩
    obtain ⟨q, hq, hv⟩ := al0.get' hi
    rw [List.getElem?_map] at hq
    cases ex : x[i]? with
    | none => rw [ex] at hq; cases hq
    | some b =>
    rw [ex] at hq
    cases hq
    have hv' := (st_ns b).mo _ _ v e hv
    have hb := hc b (List.mem_of_getElem? ex)
    refine s_extR hD' (ev_var rfl) (evr_call b (by show b.length ≤ 10000000; omega) (st_ns _) (xa_cons (evx_var rfl (st_ns b).mo hv') (st_ns b).mo xa_nil)) (st_map fun _ => st_V) ?_ fun ys H2 e2 al3 => ?_
    · have h1 := flat_cap (f := fun w : List Nat => w.length :: w) (c := c) (l := x.take (i + 1)) fun y hy => hc y (mem_take hy)
      have h2 : (x.take (i + 1)).length ≤ x.length := by rw [List.length_take]; omega
      have h3 : (x.take (i + 1)).length * c ≤ x.length * c := Nat.mul_le_mul h2 (Nat.le_refl _)
      rw [flat_take ex, List.length_append] at h1
      refine size24 ?_
      simp only [List.length_map, List.length_cons] at h1 ⊢
      omega
    · refine ⟨some v, rfl, Ex.mut (e.trans e2) nD, ?_⟩
      rw [upd_same, ints_of.mp al3, ← List.map_append, flat_take ex]
      rfl
  · rintro σ' H' ⟨y2, rfl, e, hD'⟩
    refine s_retX (evv_var rfl) fun v H3 e3 hv => ?_
    cases hv
    refine k _ H3 (e.trans e3) ⟨D, _, rfl, nD, e3 D _ hD', ?_⟩
    rw [lv, List.take_length]
    exact ints_of.mpr rfl
/-! ### answers as whole numbers -/
def ansOf (s : Sw71.Score) (c : Sw71.Call) : List Int := Sw71Neutral.out (Sw71.step s c).2
theorem rNs_is (ns : List Nat) : rNs ns = rIs (ns.map fun (n : Nat) => (n : Int)) := by
  unfold rNs rIs
  rw [List.map_map]
  rfl
theorem out_lists (rows : List (List Nat)) : Sw71Neutral.out ⟨(rows.length : Nat), rows⟩ = (listsOut rows).map fun (n : Nat) => (n : Int) := by
  unfold Sw71Neutral.out listsOut
  rw [List.map_cons, List.map_flatMap]
  rfl
theorem evr_bad {σ : L2.St} {H : Hp} {n : Int} : EvR (tLst (tCons (tC (.int n)) tNil)) σ H (rIs [n]) := evr_lst1 evr_c st_V
def sp_staff_told (CS : Addr) : Sp := spP (fun x : Sw71.Score × Nat => [rSc CS x.1, rN x.2]) (fun x => Wf x.1) (fun x => rIs (ansOf x.1 (.staves x.2)))
theorem len_staff_told {CS vs H Q E} (h : sp_staff_told CS vs H Q E) : vs.length = 2 := len_P (fun _ => rfl) h
theorem staff_out_cap {l : List Sw71.Bar} (h : CapL l) : (Sw71.staffOut l).length ≤ 439260 := by
  have := staff_cap h l.length
  rw [List.take_length] at this
  exact this
theorem ok_staff_told {P : Program} {w : World} {K : PySem.W.Frag} {mg : Str → Option Value} {base : Heap} {CR CS : Addr} (T : Tx K mg CR CS) (A : FunAt K mg "staff_told" s_staff_told ["score", "k"]) (D_with_count : Dfn P w K mg base "with_count" 1 ["row"] (sp_with_count)) (D_all_told : Dfn P w K mg base "all_told" 2 ["bars"] (sp_all_told)) : Dfn P w K mg base "staff_told" 3 ["score", "k"] (sp_staff_told CS) := by
  obtain ⟨f, fd, g, F, b⟩ := A
  obtain ⟨f_with_count, fd_with_count, g_with_count, k_with_count, b_with_count, F_with_count⟩ := D_with_count
  obtain ⟨f_all_told, fd_all_told, g_all_told, k_all_told, b_all_told, F_all_told⟩ := D_all_told
  refine ⟨f, fd, g, F.kp, b, F.ok sc_staff_told (fun vs H Q E h => len_staff_told h) (fun cdv A outer s H vs Q E hr h => ?_)⟩
  obtain ⟨⟨s', n⟩, al, hw, k⟩ := h
  replace hw : Wf s' := hw
  obtain ⟨v0, _, rfl, h0, al⟩ := al.un_cons
  obtain ⟨v1, _, rfl, h1, al⟩ := al.un_cons
  cases al.un_nil
  cases h1
  have ms := mo_sc CS s'
  refine ⟨_, (pss_cons (ps_if (pt_cmpR op_ge (pv 1) (pe_callB (lenS K) (by rfl) T.len PySem.boot_len (pa_cons (fldS K (pv 0) rfl) pa_nil)) (nomark _)) (pss_one (ps_ret (pe_lst (pa_cons (pe_cn T.c_NO_STAFF) pa_nil)))) pss_nil)
      (pss_one (ps_ret (pe_op op_cat (pe_lst (pa_cons pe_int pa_nil)) (pe_call F_with_count (hr.mono (by decide)) (by rfl) g_with_count k_with_count b_with_count .nil pass0 (pa_cons (pe_call F_all_told (hr.mono (by decide)) (by rfl) g_all_told k_all_told b_all_told .nil pass0 (pa_cons (pe_ix (ixL K) (fldS K (pv 0) rfl) (pv 1) (fun _ _ => rfl)) pa_nil)) pa_nil)))))), ?_⟩
  refine q_when (b := decide (s'.staves.length ≤ n)) (et_is (ett (evx_I0 (evv_var rfl) ((evx_lenL (evx_staves T (evx_var rfl ms h0))).is (by rw [List.length_map])))) (decLe _ _)) ?_ ?_
  · intro hb H2 e
    refine s_retR evr_bad fun v H3 e3 hv => k v H3 (e.trans e3) ?_
    show rIs (ansOf s' (.staves n)) _ _ _
    have : ansOf s' (.staves n) = [-2] := by
      unfold ansOf
      show Sw71Neutral.out (match s'.staves[n]? with
        | none => Sw71.ok (-2)
        | some l => ⟨0, [Sw71.staffOut l]⟩) = [-2]
      rw [List.getElem?_eq_none (of_decide_eq_true hb)]
      rfl
    rw [this]
    exact (st_is _).back e hv
  · intro hb H2 e
    have hlt : n < s'.staves.length := by
      have := of_decide_eq_false hb
      omega
    have hc := hw.capL hlt
    have ho := staff_out_cap hc
    refine s_retR (evr_catF (EvR.tx (evr_lst1 evr_c st_V) (st_L (one_st st_V))) (EvR.tx (evr_call (Sw71.staffOut ((s'.staves[n]?).getD [])) (by show _ ≤ 10000000; omega) (st_ns _) (xa_cons (EvR.tx (evr_call ((s'.staves[n]?).getD []) hc (st_ns _) (xa_cons (evx_staff T (evx_var rfl ms (ms _ _ v0 e h0)) (evv_var rfl) hlt) (st_bars _).mo xa_nil)) (st_ns _)) (st_ns _).mo xa_nil)) (st_ns _)) (one_fl fl_V) (fl_map fun _ => fl_V) (size24 (by simp; omega))) fun v H3 e3 hv => k v H3 (e.trans e3) ?_
    show rIs (ansOf s' (.staves n)) _ _ _
    have : ansOf s' (.staves n) = (0 :: (Sw71.staffOut ((s'.staves[n]?).getD [])).length :: Sw71.staffOut ((s'.staves[n]?).getD [])).map fun (n : Nat) => (n : Int) := by
      unfold ansOf
      show Sw71Neutral.out (match s'.staves[n]? with
        | none => Sw71.ok (-2)
        | some l => ⟨0, [Sw71.staffOut l]⟩) = _
      rw [List.getElem?_eq_getElem hlt]
      show (0 : Int) :: [Sw71.staffOut s'.staves[n]].flatMap _ = _
      simp
    rw [this, ← rNs_is]
    exact (st_ns _).back e hv
end Ps

namespace Ps
open PySem PySem.Spec PyProof.Rows L2 Evl

/-! ### a piece told -/
def sp_piece_told : Sp := spP (fun p => [rPiece p]) (fun p => CapP p) (fun p => rNs (Sw71.pieceOut p))
theorem len_piece_told {vs H Q E} (h : sp_piece_told vs H Q E) : vs.length = 1 := len_P (fun _ => rfl) h
theorem mo_three {a b c : Rl} (h1 : Mo a) (h2 : Mo b) (h3 : Mo c) : ∀ r ∈ [a, b, c], Mo r := by
  intro r hr
  rcases List.mem_cons.mp hr with rfl | hr
  · exact h1
  · exact mo_two h2 h3 r hr
theorem ok_piece_told {P : Program} {w : World} {K : PySem.W.Frag} {mg : Str → Option Value} {base : Heap} {CR CS : Addr} (T : Tx K mg CR CS) (A : FunAt K mg "piece_told" s_piece_told ["piece"]) (D_all_told : Dfn P w K mg base "all_told" 2 ["bars"] (sp_all_told)) (D_told : Dfn P w K mg base "told" 1 ["bar"] (sp_told)) : Dfn P w K mg base "piece_told" 3 ["piece"] (sp_piece_told) := by
  obtain ⟨f, fd, g, F, b⟩ := A
  obtain ⟨f_all_told, fd_all_told, g_all_told, k_all_told, b_all_told, F_all_told⟩ := D_all_told
  obtain ⟨f_told, fd_told, g_told, k_told, b_told, F_told⟩ := D_told
  refine ⟨f, fd, g, F.kp, b, F.ok sc_piece_told (fun vs H Q E h => len_piece_told h) (fun cdv A outer s H vs Q E hr h => ?_)⟩
  obtain ⟨p, al, hc, k⟩ := h
  obtain ⟨v0, _, rfl, h0, al⟩ := al.un_cons
  cases al.un_nil
  have mp := (st_piece p).mo
  refine ⟨_, (pss_cons (ps_if (pt_cmpR op_eq (pe_ix (ixT K) (pv 0) pe_int (fun _ _ => rfl)) (pe_cn T.c_REST) (nomark _)) (pss_one (ps_ret (pe_lst (pa_cons (pe_ix (ixT K) (pv 0) pe_int (fun _ _ => rfl)) (pa_cons (pe_ix (ixT K) (pv 0) pe_int (fun _ _ => rfl)) pa_nil))))) pss_nil)
      (pss_cons (ps_if (pt_cmpR op_eq (pe_ix (ixT K) (pv 0) pe_int (fun _ _ => rfl)) (pe_cn T.c_BAR) (nomark _)) (pss_one (ps_ret (pe_op op_cat (pe_lst (pa_cons (pe_ix (ixT K) (pv 0) pe_int (fun _ _ => rfl)) pa_nil)) (pe_call F_all_told (hr.mono (by decide)) (by rfl) g_all_told k_all_told b_all_told .nil pass0 (pa_cons (pe_ix (ixT K) (pv 0) pe_int (fun _ _ => rfl)) pa_nil))))) pss_nil)
      (pss_one (ps_ret (pe_op op_cat (pe_lst (pa_cons (pe_ix (ixT K) (pv 0) pe_int (fun _ _ => rfl)) (pa_cons (pe_ix (ixT K) (pv 0) pe_int (fun _ _ => rfl)) pa_nil))) (pe_call F_told (hr.mono (by decide)) (by rfl) g_told k_told b_told .nil pass0 (pa_cons (pe_ix (ixT K) (pv 0) pe_int (fun _ _ => rfl)) pa_nil))))))), ?_⟩
  have sx : ∀ {H' : Hp}, Ex H H' → EvX (tOp (rIxT K) (tVar 0) (tC (.int 0))) (start N_piece_told [v0]) H' (rN (sortOf p)) := fun e => evx_sort rfl (mp _ _ v0 e h0)
  have sq : ∀ {H' : Hp} {c : Nat}, Ex H H' → EvT (tTest (tOp rEq (tOp (rIxT K) (tVar 0) (tC (.int 0))) (tC (.int (c : Int))))) (start N_piece_told [v0]) H' (decide (sortOf p = c)) := fun {H' c} e => et_is (ett (evx_eq (sx e) evx_c rfl)) (decV _ _)
  refine q_when (sq (c := 0) (Ex.refl H)) ?_ ?_
  · intro hb H2 e
    obtain ⟨n, rfl⟩ : ∃ n, p = .rest n := by
      cases p with
      | rest n => exact ⟨n, rfl⟩
      | bar l => cases hb
      | cue kk b => cases hb
    refine s_retR (evr_lst2 (sx e).trV st_V (evx_ixT (j := 1) (rs := [rN 0, rN n]) (evx_var rfl mp (mp _ _ v0 e h0)) evx_c rfl rfl (mo_two st_V.mo st_V.mo)).trV st_V) fun v H3 e3 hv => k v H3 (e.trans e3) ?_
    exact (st_ns [0, n]).back e hv
  intro hb H2 e
  have n0 := of_decide_eq_false hb
  refine q_when (sq (c := 1) e) ?_ ?_
  · intro hc1 H3 e3
    obtain ⟨l, rfl⟩ : ∃ l, p = .bar l := by
      cases p with
      | rest n => cases hc1
      | bar l => exact ⟨l, rfl⟩
      | cue kk b => cases hc1
    replace hc : CapL l := hc
    have e03 := e.trans e3
    have ho := staff_out_cap hc
    refine s_retR (evr_catF (EvR.tx (evr_lst1 (sx e03).trV st_V) (st_L (one_st st_V))) (EvR.tx (evr_call l hc (st_ns _) (xa_cons (evx_ixT (j := 1) (rs := [rN 1, rBars l]) (evx_var rfl mp (mp _ _ v0 e03 h0)) evx_c rfl rfl (mo_two st_V.mo (st_bars l).mo)) (st_bars l).mo xa_nil)) (st_ns _)) (one_fl fl_V) (fl_map fun _ => fl_V) (size24 (by simp; omega))) fun v H4 e4 hv => k v H4 (e03.trans e4) ?_
    exact (st_ns (1 :: Sw71.staffOut l)).back e03 hv
  intro hc1 H3 e3
  have n1 := of_decide_eq_false hc1
  obtain ⟨kk, b, rfl⟩ : ∃ kk b, p = .cue kk b := by
    cases p with
    | rest n => exact absurd rfl n0
    | bar l => exact absurd rfl n1
    | cue kk b => exact ⟨kk, b, rfl⟩
  replace hc : Cap b := hc
  have e03 := e.trans e3
  have ho := bar_cap hc
  have m3 : ∀ r ∈ [rN 2, rN kk, rBar b], Mo r := mo_three st_V.mo st_V.mo (fl_bar b).mo
  refine s_retR (evr_catF (EvR.tx (evr_lst2 (sx e03).trV st_V (evx_ixT (j := 1) (rs := [rN 2, rN kk, rBar b]) (evx_var rfl mp (mp _ _ v0 e03 h0)) evx_c rfl rfl m3).trV st_V) (st_L (st_two st_V st_V))) (EvR.tx (evr_call b hc (st_ns _) (xa_cons (evx_ixT (j := 2) (rs := [rN 2, rN kk, rBar b]) (evx_var rfl mp (mp _ _ v0 e03 h0)) evx_c rfl rfl m3) (fl_bar b).mo xa_nil)) (st_ns _)) (fl_two fl_V fl_V) (fl_map fun _ => fl_V) (size24 (by simp; omega))) fun v H4 e4 hv => k v H4 (e03.trans e4) ?_
  exact (st_ns (2 :: kk :: Sw71.barOut b)).back e03 hv
/-! ### what is drawn is small -/
theorem bar_cap2 {b : Sw71.Bar} (h : Cap2 b) : (Sw71.barOut b).length ≤ 161 := by
  have h1 := flat_cap (f := itemOut) (c := 8) (l := b) fun x hx => by
    have := h.2 x hx
    show x.keys.length + 1 + 1 ≤ 8
    omega
  have := h.1
  rw [barOut_eq, List.length_cons]
  omega
def PcOk (p : Sw71.Piece) : Prop := CapP p ∧ (Sw71.pieceOut p).length ≤ 10000
section
variable {s : Sw71.Score} {ks : List Nat} {least : Nat}
theorem pc_bar (hp : PartOk s ks) {i : Nat} (hi : i < s.bars.length) : PcOk (.bar (ks.map fun k => s.barAt k i)) := by
  have c2 : ∀ b ∈ ks.map fun k => s.barAt k i, Cap2 b := fun b hb => by
    obtain ⟨k, hk, rfl⟩ := List.mem_map.mp hb
    exact hp.1.cap2_at (hp.2.1 k hk) hi
  have hl := hp.2.2
  refine ⟨⟨by rw [List.length_map]; exact hl, fun b hb => (c2 b hb).cap⟩, ?_⟩
  have h1 := flat_cap (f := Sw71.barOut) (c := 161) (l := ks.map fun k => s.barAt k i) fun b hb => bar_cap2 (c2 b hb)
  rw [List.length_map] at h1
  show ((ks.map fun k => s.barAt k i).flatMap Sw71.barOut).length + 1 ≤ 10000
  omega
theorem pc_cue (hp : PartOk s ks) {i k : Nat} (hi : i < s.bars.length) (hk : k < s.staves.length) : PcOk (.cue k (s.barAt k i)) := by
  have c2 := hp.1.cap2_at hk hi
  refine ⟨c2.cap, ?_⟩
  have := bar_cap2 c2
  show (Sw71.barOut (s.barAt k i)).length + 1 + 1 ≤ 10000
  omega
theorem pc_rest {n : Nat} (h : n ≤ 40) : PcOk (.rest n) := ⟨by show n < 2 ^ 32; omega, by show 2 ≤ 10000; decide⟩
theorem pc_out (hp : PartOk s ks) {i n : Nat} (hn : 1 ≤ n) (hi : i + n ≤ s.bars.length) : ∀ p ∈ s.restOut ks least i n, PcOk p := by
  have hm := hp.1.many
  have ro : s.restOut ks least i n = match cueOf s ks least i n with
      | none => [.rest n]
      | some k => (if n = 1 then [] else [.rest (n - 1)]) ++ [.cue k (s.barAt k (i + n - 1))] := rfl
  rw [ro]
  cases hc : cueOf s ks least i n with
  | none =>
    intro p hp'
    rcases List.mem_cons.mp hp' with rfl | h
    · exact pc_rest (by omega)
    · cases h
  | some k =>
    have hk : k < s.staves.length := by
      unfold cueOf at hc
      by_cases hq : least ≠ 0 ∧ least ≤ n
      · rw [if_pos hq] at hc
        exact cue_lt hc
      · rw [if_neg hq] at hc
        cases hc
    intro p hp'
    rcases List.mem_append.mp hp' with h | h
    · by_cases h1 : n = 1
      · rw [if_pos h1] at h; cases h
      · rw [if_neg h1] at h
        rcases List.mem_cons.mp h with rfl | h
        · exact pc_rest (by omega)
        · cases h
    · rcases List.mem_cons.mp h with rfl | h
      · exact pc_cue hp (by omega) hk
      · cases h
theorem pc_draw (hp : PartOk s ks) : ∀ (f i : Nat), ∀ p ∈ s.drawFrom ks least f i, PcOk p
  | 0, i => fun p h => by cases h
  | f + 1, i => fun p h => by
    rw [draw_succ] at h
    by_cases hl : s.bars.length ≤ i
    · rw [if_pos hl] at h; cases h
    · rw [if_neg hl] at h
      by_cases hr : s.restFrom ks s.bars.length i = 0
      · rw [if_pos hr] at h
        rcases List.mem_cons.mp h with rfl | h
        · exact pc_bar hp (by omega)
        · exact pc_draw hp f (i + 1) p h
      · rw [if_neg hr] at h
        rcases List.mem_append.mp h with h | h
        · exact pc_out hp (by omega) (rest_le _ _ (by omega)) p h
        · exact pc_draw hp f _ p h
theorem draw_len : ∀ (f i : Nat), i ≤ s.bars.length → (s.drawFrom ks least f i).length ≤ s.bars.length - i
  | 0, i, h => Nat.zero_le _
  | f + 1, i, h => by
    rw [draw_succ]
    by_cases hl : s.bars.length ≤ i
    · rw [if_pos hl]; exact Nat.zero_le _
    · rw [if_neg hl]
      by_cases hr : s.restFrom ks s.bars.length i = 0
      · rw [if_pos hr, List.length_cons]
        have := draw_len f (i + 1) (by omega)
        omega
      · rw [if_neg hr, List.length_append]
        have h1 := rest_le (s := s) (ks := ks) s.bars.length i h
        have h2 := draw_len f (i + s.restFrom ks s.bars.length i) h1
        have h3 := out_len (s := s) (ks := ks) (least := least) (i := i) (n := s.restFrom ks s.bars.length i) (by omega)
        omega
end
def sp_draw (CS : Addr) : Sp := spP (fun x : Sw71.Score × Nat × List Nat => [rSc CS x.1, rN x.2.1, rNs x.2.2]) (fun x => Wf x.1 ∧ x.2.2.length ≤ 60) (fun x => rIs (ansOf x.1 (.draw x.2.2 x.2.1)))
theorem len_draw {CS vs H Q E} (h : sp_draw CS vs H Q E) : vs.length = 3 := len_P (fun _ => rfl) h
theorem ans_draw (s : Sw71.Score) (ks : List Nat) (least : Nat) : ansOf s (.draw ks least) = if (ks.all fun k => decide (k < s.staves.length)) = false then [-2] else if (ks.isEmpty || !Sw71.unlike ks) = true then [-1] else (listsOut ((s.draw ks least).map Sw71.pieceOut)).map fun (n : Nat) => (n : Int) := by
  unfold ansOf
  show Sw71Neutral.out (if (ks.all fun k => decide (k < s.staves.length)) = false then (s, Sw71.ok (-2)) else if (ks.isEmpty || !Sw71.unlike ks) = true then (s, Sw71.ok (-1)) else (s, ⟨((s.draw ks least).length : Nat), (s.draw ks least).map Sw71.pieceOut⟩)).2 = _
  by_cases h1 : (ks.all fun k => decide (k < s.staves.length)) = false
  · rw [if_pos h1, if_pos h1]; rfl
  · rw [if_neg h1, if_neg h1]
    by_cases h2 : (ks.isEmpty || !Sw71.unlike ks) = true
    · rw [if_pos h2, if_pos h2]; rfl
    · rw [if_neg h2, if_neg h2, ← out_lists, List.length_map]
theorem ok_draw {P : Program} {w : World} {K : PySem.W.Frag} {mg : Str → Option Value} {base : Heap} {CR CS : Addr} (T : Tx K mg CR CS) (A : FunAt K mg "draw" s_draw ["score", "least", "part"]) (D_lists_told : Dfn P w K mg base "lists_told" 2 ["rows"] (sp_lists_told)) (D_piece_told : Dfn P w K mg base "piece_told" 3 ["piece"] (sp_piece_told)) (D_Score_drawn : Mtd P w K mg base CS "drawn" 4 ["self", "part", "least"] (sp_Score_drawn CS)) : Dfn P w K mg base "draw" 5 ["score", "least", "part"] (sp_draw CS) := by
  obtain ⟨f, fd, g, F, b⟩ := A
  obtain ⟨f_lists_told, fd_lists_told, g_lists_told, k_lists_told, b_lists_told, F_lists_told⟩ := D_lists_told
  obtain ⟨f_piece_told, fd_piece_told, g_piece_told, k_piece_told, b_piece_told, F_piece_told⟩ := D_piece_told
  obtain ⟨f_Score_drawn, fd_Score_drawn, m_score_drawn, b_score_drawn, F_score_drawn⟩ := D_Score_drawn
  refine ⟨f, fd, g, F.kp, b, F.ok sc_draw (fun vs H Q E h => len_draw h) (fun cdv A outer s H vs Q E hr h => ?_)⟩
  obtain ⟨⟨s', least, ks⟩, al, ⟨hw, hk60⟩, k⟩ := h
  replace hw : Wf s' := hw
  replace hk60 : ks.length ≤ 60 := hk60
  obtain ⟨v0, _, rfl, h0, al⟩ := al.un_cons
  obtain ⟨v1, _, rfl, h1, al⟩ := al.un_cons
  obtain ⟨v2, _, rfl, h2, al⟩ := al.un_cons
  cases al.un_nil
  cases h1
  have ms := mo_sc CS s'
  have mk := (st_ns ks).mo
  refine ⟨_, (pss_cons (ps_if (pt_not (pt_val (pe_callB (allS K rfl) (by rfl) T.all (by decide +kernel) (pa_cons (pe_lc (own := [("k", 3)]) (g := gName 3) (tt := tYes) rfl sc_draw.nd (piL K (pv 2)) (blkOk_by (own := [("k", 3)]) (N := N_draw) (sc := defScope s_draw) (by decide +kernel)) (fun _ _ _ _ _ => (pg_name (i := 3) sc_draw.nd rfl (Or.inl rfl))) (fun _ _ _ _ _ => pts_nil) (fun _ _ _ _ _ => (pe_cmpR op_lt (pv 3) (pe_callB (lenS K) (by rfl) T.len PySem.boot_len (pa_cons (fldS K (pv 0) rfl) pa_nil)) (nomark _)))) pa_nil)))) (pss_one (ps_ret (pe_lst (pa_cons (pe_cn T.c_NO_STAFF) pa_nil)))) pss_nil)
      (pss_cons (ps_if (PW.pt (pw_or (pt_cmpR (eqD K hr.units) (pv 2) (pe_lst pa_nil) (nomark _)) (pw_or1 (pt_cmpR op_lt (pe_lenSet (by rfl) T.len (by rfl) T.set (pv 2)) (pe_callB (lenS K) (by rfl) T.len PySem.boot_len (pa_cons (pv 2) pa_nil)) (nomark _))))) (pss_one (ps_ret (pe_lst (pa_cons (pe_cn T.c_BAD) pa_nil)))) pss_nil)
      (pss_one (ps_ret (pe_call F_lists_told (hr.mono (by decide)) (by rfl) g_lists_told k_lists_told b_lists_told .nil pass0 (pa_cons (pe_lc (own := [("piece", 4)]) (g := gName 4) (tt := tYes) rfl sc_draw.nd (piL K (pe_meth (pv 0) T.cl_score m_score_drawn F_score_drawn (hr.mono (by decide)) b_score_drawn .nil pass0 (pa_cons (pv 2) (pa_cons (pv 1) pa_nil)))) (blkOk_by (own := [("piece", 4)]) (N := N_draw) (sc := defScope s_draw) (by decide +kernel)) (fun _ _ _ _ _ => (pg_name (i := 4) sc_draw.nd rfl (Or.inl rfl))) (fun _ _ _ _ _ => pts_nil) (fun _ _ _ _ _ => (pe_call F_piece_told (hr.mono (by decide)) (by rfl) g_piece_told k_piece_told b_piece_told .nil pass0 (pa_cons (pv 4) pa_nil)))) pa_nil)))))), ?_⟩
  have ka : rIs (ansOf s' (.draw ks least)) = rIs (ansOf s' (.draw ks least)) := rfl
  refine q_when (et_not (etb (evx_allM (EvR.tx (lcL ks (fun n => rN n) (fun n => rB (decide (n < s'.staves.length))) (evx_var rfl mk h2) (fun _ => st_V.mo) (by omega) (fun _ => st_V) (fun _ => rfl)
    fun n v H2 hn e hv => ((evx_I0 (evx_var rfl st_V.mo hv) ((evx_lenL (evx_staves T (evx_var rfl ms (ms _ _ v0 e h0)))).is (by rw [List.length_map]))).is (by rw [decL])).trV) (st_L (st_map fun _ => st_V)))))) ?_ ?_
  · intro hb H2 e
    refine s_retR evr_bad fun v H3 e3 hv => k v H3 (e.trans e3) ?_
    show rIs (ansOf s' (.draw ks least)) _ _ _
    have ha : (ks.all fun k => decide (k < s'.staves.length)) = false := by
      cases hq : ks.all fun k => decide (k < s'.staves.length) with
      | false => rfl
      | true => rw [hq] at hb; cases hb
    rw [ans_draw, if_pos ha]
    exact (st_is _).back e hv
  intro hb H2 e
  have ha : (ks.all fun k => decide (k < s'.staves.length)) = true := by
    cases hq : ks.all fun k => decide (k < s'.staves.length) with
    | true => rfl
    | false => rw [hq] at hb; cases hb
  have g2 := mk _ _ v2 e h2
  refine q_when (b := ks.isEmpty || !Sw71.unlike ks) (et_or (et_is (ett (evx_eqD (evx_var rfl mk g2) (evr_nilL.tx (st_L no_st)) mk (fun _ _ h => dp_ns h) (fun _ _ h => dp_ns (l := []) h) (sh_list (n := 0) (sh_map fun _ => sh_int)) (sh_list (n := 0) (fun _ h => by cases h)))) (by rw [List.map_nil, eqv_nilL]; cases ks <;> rfl))
    fun _ => et_is (ett (evx_I0 (evx_lenSet (evx_var rfl mk g2) (by omega)) ((evx_lenL (evx_var rfl mk g2)).is (by rw [List.length_map])))) (met_lt ks)) ?_ ?_
  · intro hc H3 e3
    refine s_retR evr_bad fun v H4 e4 hv => k v H4 (e.trans (e3.trans e4)) ?_
    show rIs (ansOf s' (.draw ks least)) _ _ _
    rw [ans_draw, if_neg (by rw [ha]; decide), if_pos hc]
    exact (st_is _).back (e.trans e3) hv
  · intro hc H3 e3
    have e03 := e.trans e3
    have hp : PartOk s' ks := ⟨hw, fun k hk => of_decide_eq_true (List.all_eq_true.mp ha k hk), hk60⟩
    have hpc : ∀ p ∈ s'.draw ks least, PcOk p := pc_draw hp _ _
    have hlen : (s'.draw ks least).length ≤ 40 := Nat.le_trans (draw_len _ _ (Nat.zero_le _)) (by have := hw.many; omega)
    refine s_retR (evr_call ((s'.draw ks least).map Sw71.pieceOut) ⟨by rw [List.length_map]; omega, 10001, fun r hr => by
        obtain ⟨p, hp', rfl⟩ := List.mem_map.mp hr
        have := (hpc p hp').2
        omega, by rw [List.length_map]; omega, by decide⟩ (st_ns _) (xa_cons (EvR.tx ((lcL (s'.draw ks least) rPiece (fun p => rNs (Sw71.pieceOut p)) (EvR.tx (evr_meth (rs := [rNs ks, rN least]) (s', ks, least) hp (st_L (st_map st_piece)) obj_sc ms (evx_var rfl ms (ms _ _ v0 e03 h0)) (xa_cons (evx_var rfl mk (mk _ _ v2 e03 h2)) mk (xa_cons (evv_var rfl) st_V.mo xa_nil)) rfl) (st_L (st_map st_piece))) (fun p => (st_piece p).mo) (by omega) (fun _ => st_ns _) (fun _ => rfl)
      fun p v H4 hp' e4 hv => evr_call p (hpc p hp').1 (st_ns _) (xa_cons (evx_var rfl (st_piece p).mo hv) (st_piece p).mo xa_nil)).is (by rw [List.map_map]; rfl)) (st_L (st_map st_ns))) (st_L (st_map st_ns)).mo xa_nil)) fun v H4 e4 hv => k v H4 (e03.trans e4) ?_
    show rIs (ansOf s' (.draw ks least)) _ _ _
    rw [ans_draw, if_neg (by rw [ha]; decide), if_neg (by rw [hc]; decide), ← rNs_is]
    exact (st_ns _).back e03 hv
/-! ### put back, told -/
theorem cap_plain {b : Sw71.Bar} (h : Cap b) : Cap (Sw71.plain b) := by
  unfold Sw71.plain
  by_cases hr : Sw71.rests b = true ∧ b ≠ []
  · rw [if_pos hr]
    exact ⟨by show 1 ≤ 60; decide, fun x hx => by
      rcases List.mem_cons.mp hx with rfl | hx
      · exact Nat.zero_le _
      · cases hx⟩
  · rw [if_neg hr]
    exact h
theorem cap_one (n : Nat) : Cap [⟨n, []⟩] := ⟨by show 1 ≤ 60; decide, fun x hx => by
  rcases List.mem_cons.mp hx with rfl | hx
  · exact Nat.zero_le _
  · cases hx⟩
theorem cap_nil : Cap [] := ⟨Nat.zero_le _, fun x hx => by cases hx⟩
theorem cap_restBar (n : Nat) : Cap (Sw71.restBar n) := by
  unfold Sw71.restBar
  split
  · exact cap_nil
  · exact cap_one n
theorem back_cap {ls : List Nat} {m : Nat} : ∀ (l : List Sw71.Piece) (c : Nat), (∀ p ∈ l, CapP p) → ∀ x ∈ Sw71.back ls m c l, ∀ b ∈ x, Cap b
  | [], c, _ => fun x hx => by cases hx
  | .rest n :: l, c, h => fun x hx => by
    rw [back_rest] at hx
    rcases List.mem_append.mp hx with hx | hx
    · obtain ⟨j, _, rfl⟩ := List.mem_map.mp hx
      intro b hb
      rw [(List.mem_replicate.mp hb).2]
      exact cap_restBar _
    · exact back_cap l _ (fun p hp => h p (List.mem_cons_of_mem _ hp)) x hx
  | .cue k b :: l, c, h => fun x hx => by
    rw [back_cue] at hx
    rcases List.mem_cons.mp hx with rfl | hx
    · intro b hb
      rw [(List.mem_replicate.mp hb).2]
      exact cap_restBar _
    · exact back_cap l _ (fun p hp => h p (List.mem_cons_of_mem _ hp)) x hx
  | .bar b :: l, c, h => fun x hx => by
    rw [back_bar] at hx
    rcases List.mem_cons.mp hx with rfl | hx
    · exact (h (.bar x) List.mem_cons_self).2
    · exact back_cap l _ (fun p hp => h p (List.mem_cons_of_mem _ hp)) x hx
theorem back_len {s : Sw71.Score} (hw : Wf s) {m : Nat} : ∀ (l : List Sw71.Piece) (c : Nat), Sw71.pieceOk s m c l = true → (Sw71.back s.bars m c l).length + c = s.bars.length
  | [], c, h => by
    have : c = s.bars.length := beq_iff_eq.mp h
    show 0 + c = _
    omega
  | p :: l, c, h => by
    cases hc : colsOf s c m p with
    | none => rw [piece_none hw l hc] at h; cases h
    | some cs =>
      obtain ⟨o1, o2, _, _⟩ := piece_some hw l hc
      rw [o1] at h
      have ih := back_len hw l _ h
      have := congrArg List.length o2
      rw [List.length_append] at this
      unfold colsAll at this
      rw [List.length_map, List.length_map] at this
      omega
theorem put_cap {s : Sw71.Score} (hw : Wf s) {m : Nat} {l : List Sw71.Piece} (hl : ∀ p ∈ l, CapP p) (hok : Sw71.pieceOk s m 0 l = true) : ∀ st ∈ Sw71.putBack s.bars m l, CapL st := by
  intro st hst
  obtain ⟨k, _, rfl⟩ := List.mem_map.mp hst
  refine ⟨?_, fun b hb => ?_⟩
  · rw [List.length_map]
    have := back_len hw l 0 hok
    have := hw.many
    omega
  · obtain ⟨x, hx, rfl⟩ := List.mem_map.mp hb
    refine cap_plain ?_
    rw [List.getD_eq_getElem?_getD]
    cases e : x[k]? with
    | none => exact cap_nil
    | some b => exact back_cap l 0 hl x hx b (List.mem_of_getElem? e)
theorem put_len (ls : List Nat) (m : Nat) (l : List Sw71.Piece) : (Sw71.putBack ls m l).length = m := by
  unfold Sw71.putBack
  rw [List.length_map, List.length_range]
def sp_put_back (CS : Addr) : Sp := spP (fun x : Sw71.Score × Nat × List Int × List Sw71.Piece × List Int => [rSc CS x.1, rN x.2.1, rIs x.2.2.1]) (fun x => Wf x.1 ∧ Sw71Neutral.listIn Sw71Neutral.pieceIn x.2.2.1 = some (x.2.2.2.1, x.2.2.2.2)) (fun x => rIs (ansOf x.1 (.back x.2.1 x.2.2.2.1)))
theorem len_put_back {CS vs H Q E} (h : sp_put_back CS vs H Q E) : vs.length = 3 := len_P (fun _ => rfl) h
theorem ans_back (s : Sw71.Score) (m : Nat) (l : List Sw71.Piece) : ansOf s (.back m l) = if m < 1 ∨ 8 < m ∨ Sw71.pieceOk s m 0 l = false then [-1] else (listsOut ((Sw71.putBack s.bars m l).map Sw71.staffOut)).map fun (n : Nat) => (n : Int) := by
  unfold ansOf
  show Sw71Neutral.out (if m < 1 ∨ 8 < m ∨ Sw71.pieceOk s m 0 l = false then (s, Sw71.ok (-1)) else (s, ⟨((Sw71.putBack s.bars m l).length : Nat), (Sw71.putBack s.bars m l).map Sw71.staffOut⟩)).2 = _
  by_cases h1 : m < 1 ∨ 8 < m ∨ Sw71.pieceOk s m 0 l = false
  · rw [if_pos h1, if_pos h1]; rfl
  · rw [if_neg h1, if_neg h1, ← out_lists, List.length_map]
theorem ok_put_back {P : Program} {w : World} {K : PySem.W.Frag} {mg : Str → Option Value} {base : Heap} {CR CS : Addr} (T : Tx K mg CR CS) (A : FunAt K mg "put_back" s_put_back ["score", "m", "row"]) (D_read_pieces : Dfn P w K mg base "read_pieces" 6 ["row"] (sp_read_pieces)) (D_lists_told : Dfn P w K mg base "lists_told" 2 ["rows"] (sp_lists_told)) (D_all_told : Dfn P w K mg base "all_told" 2 ["bars"] (sp_all_told)) (D_Score_put_back : Mtd P w K mg base CS "put_back" 5 ["self", "m", "pieces"] (sp_Score_put_back CS)) : Dfn P w K mg base "put_back" 7 ["score", "m", "row"] (sp_put_back CS) := by
  obtain ⟨f, fd, g, F, b⟩ := A
  obtain ⟨f_read_pieces, fd_read_pieces, g_read_pieces, k_read_pieces, b_read_pieces, F_read_pieces⟩ := D_read_pieces
  obtain ⟨f_lists_told, fd_lists_told, g_lists_told, k_lists_told, b_lists_told, F_lists_told⟩ := D_lists_told
  obtain ⟨f_all_told, fd_all_told, g_all_told, k_all_told, b_all_told, F_all_told⟩ := D_all_told
  obtain ⟨f_Score_put_back, fd_Score_put_back, m_score_put_back, b_score_put_back, F_score_put_back⟩ := D_Score_put_back
  refine ⟨f, fd, g, F.kp, b, F.ok sc_put_back (fun vs H Q E h => len_put_back h) (fun cdv A outer s H vs Q E hr h => ?_)⟩
  obtain ⟨⟨s', m, row, ps, rest⟩, al, ⟨hw, hrow⟩, k⟩ := h
  replace hw : Wf s' := hw
  replace hrow : Sw71Neutral.listIn Sw71Neutral.pieceIn row = some (ps, rest) := hrow
  obtain ⟨v0, _, rfl, h0, al⟩ := al.un_cons
  obtain ⟨v1, _, rfl, h1, al⟩ := al.un_cons
  obtain ⟨v2, _, rfl, h2, al⟩ := al.un_cons
  cases al.un_nil
  cases h1
  have ms := mo_sc CS s'
  have mr := (st_is row).mo
  have hps : ps.length ≤ 60 ∧ ∀ p ∈ ps, CapP p := by
    obtain ⟨n, r, _, hn, hm⟩ := list_cases hrow
    exact ⟨by rw [many_len hm]; exact hn, many_all (fun l x l' h => cap_piece h) hm⟩
  refine ⟨_, (pss_cons (ps_if (PW.pt (pw_or (pt_cmpR op_lt (pv 1) pe_int (nomark _)) (pw_or1 (pt_cmpR op_gt (pv 1) (pe_cn T.c_MOST_STAVES) (nomark _))))) (pss_one (ps_ret (pe_lst (pa_cons (pe_cn T.c_BAD) pa_nil)))) pss_nil)
      (pss_cons (ps_set (i := 3) sc_put_back.nd rfl (Or.inl rfl) (pe_meth (pv 0) T.cl_score m_score_put_back F_score_put_back (hr.mono (by decide)) b_score_put_back .nil pass0 (pa_cons (pv 1) (pa_cons (pe_call F_read_pieces (hr.mono (by decide)) (by rfl) g_read_pieces k_read_pieces b_read_pieces .nil pass0 (pa_cons (pv 2) pa_nil)) pa_nil))))
      (pss_cons (ps_if (pt_cmpR op_isN (pv 3) pe_non (nomark _)) (pss_one (ps_ret (pe_lst (pa_cons (pe_cn T.c_BAD) pa_nil)))) pss_nil)
      (pss_one (ps_ret (pe_call F_lists_told (hr.mono (by decide)) (by rfl) g_lists_told k_lists_told b_lists_told .nil pass0 (pa_cons (pe_lc (own := [("bars", 4)]) (g := gName 4) (tt := tYes) rfl sc_put_back.nd (piL K (pv 3)) (blkOk_by (own := [("bars", 4)]) (N := N_put_back) (sc := defScope s_put_back) (by decide +kernel)) (fun _ _ _ _ _ => (pg_name (i := 4) sc_put_back.nd rfl (Or.inl rfl))) (fun _ _ _ _ _ => pts_nil) (fun _ _ _ _ _ => (pe_call F_all_told (hr.mono (by decide)) (by rfl) g_all_told k_all_told b_all_told .nil pass0 (pa_cons (pv 4) pa_nil)))) pa_nil))))))), ?_⟩
  refine q_when (b := decide (m < 1) || decide (8 < m)) (et_or (et_is (ett (evx_I0 (evv_var rfl) evx_c)) (decL m 1)) fun _ => et_is (ett (evx_I0 (evv_var rfl) evx_c)) (decL 8 m)) ?_ ?_
  · intro hb H2 e
    refine s_retR evr_bad fun v H3 e3 hv => k v H3 (e.trans e3) ?_
    show rIs (ansOf s' (.back m ps)) _ _ _
    have : m < 1 ∨ 8 < m ∨ Sw71.pieceOk s' m 0 ps = false := by
      rcases Bool.or_eq_true _ _ |>.mp hb with hb | hb
      · exact .inl (of_decide_eq_true hb)
      · exact .inr (.inl (of_decide_eq_true hb))
    rw [ans_back, if_pos this]
    exact (st_is _).back e hv
  intro hb H2 e
  have hb2 := Bool.or_eq_false_iff.mp hb
  have m1 := of_decide_eq_false hb2.1
  have m8 := of_decide_eq_false hb2.2
  refine q_asgR (evr_meth (rs := [rN m, rL (ps.map rPiece)]) (s', m, ps) ⟨hw, by show m ≤ 8; omega, hps.1, hps.2⟩ (st_cols _) obj_sc ms (evx_var rfl ms (ms _ _ v0 e h0)) (xa_cons (evv_var rfl) st_V.mo (xa_cons (EvR.tx (evr_call (row, ps, rest) hrow (st_L (st_map st_piece)) (xa_cons (evx_var rfl mr (mr _ _ v2 e h2)) mr xa_nil)) (st_L (st_map st_piece))) (st_L (st_map st_piece)).mo xa_nil)) rfl) fun w3 H3 e3 hw3 => ?_
  replace hw3 : rCols (if Sw71.pieceOk s' m 0 ps = true then some (Sw71.putBack s'.bars m ps) else none) (New H2) H3 w3 := hw3
  have e03 := e.trans e3
  cases hok : Sw71.pieceOk s' m 0 ps with
  | false =>
    rw [hok] at hw3
    cases hw3
    refine q_when (b := true) (et_is (ett (evx_isN (x := .non) (evv_var rfl))) rfl) ?_ (fun z => by cases z)
    intro _ H4 e4
    refine s_retR evr_bad fun v H5 e5 hv => k v H5 (e03.trans (e4.trans e5)) ?_
    show rIs (ansOf s' (.back m ps)) _ _ _
    rw [ans_back, if_pos (Or.inr (Or.inr hok))]
    exact (st_is _).back (e03.trans e4) hv
  | true =>
    rw [hok, if_pos rfl] at hw3
    replace hw3 : rL ((Sw71.putBack s'.bars m ps).map rBars) (New H2) H3 w3 := hw3
    have stL := st_L (st_map (l := Sw71.putBack s'.bars m ps) st_bars)
    have hw3' := stL.any hw3
    obtain ⟨wa, _, rfl, _⟩ := id hw3
    refine q_when (b := false) (et_is (ett (evx_isN (x := .ref wa) (evv_var rfl))) rfl) (fun z => by cases z) ?_
    intro _ H4 e4
    have hcap := put_cap hw hps.2 hok
    have hlen := put_len s'.bars m ps
    have e04 := e03.trans e4
    refine s_retR (evr_call ((Sw71.putBack s'.bars m ps).map Sw71.staffOut) ⟨by rw [List.length_map]; omega, 439261, fun r hr => by
        obtain ⟨p, hp', rfl⟩ := List.mem_map.mp hr
        have := staff_out_cap (hcap p hp')
        omega, by rw [List.length_map]; omega, by decide⟩ (st_ns _) (xa_cons (EvR.tx ((lcL (Sw71.putBack s'.bars m ps) rBars (fun p => rNs (Sw71.staffOut p)) (evx_var rfl stL.mo (stL.mo _ _ _ e4 hw3')) (fun p => (st_bars p).mo) (by omega) (fun _ => st_ns _) (fun _ => rfl)
      fun p v H5 hp' e5 hv => evr_call p (hcap p hp') (st_ns _) (xa_cons (evx_var rfl (st_bars p).mo hv) (st_bars p).mo xa_nil)).is (by rw [List.map_map]; rfl)) (st_L (st_map st_ns))) (st_L (st_map st_ns)).mo xa_nil)) fun v H5 e5 hv => k v H5 (e04.trans e5) ?_
    show rIs (ansOf s' (.back m ps)) _ _ _
    rw [ans_back, if_neg (by rw [hok]; intro z; rcases z with z | z | z; exact m1 z; exact m8 z; cases z), ← rNs_is]
    exact (st_ns _).back e04 hv
end Ps

namespace Ps
open PySem PySem.Spec PyProof.Rows L2 Evl

/-! ### two, told -/
theorem lines_cap {a b : Sw71.Bar} (ha : Cap2 a) (hb : Cap2 b) : CapL (Sw71.linesOf a b) := by
  have two : ∀ {l : List Sw71.Bar}, l.length ≤ 60 → (∀ x ∈ l, Cap x) → CapL l := fun h1 h2 => ⟨h1, h2⟩
  unfold Sw71.linesOf
  split
  · exact two (by simp) (fun x hx => by cases hx)
  · exact two (by simp) (fun x hx => by rcases List.mem_cons.mp hx with rfl | hx; exact ha.cap; cases hx)
  · exact two (by simp) (fun x hx => by rcases List.mem_cons.mp hx with rfl | hx; exact hb.cap; cases hx)
  · exact two (by simp) (fun x hx => by rcases List.mem_cons.mp hx with rfl | hx; exact ha.cap; cases hx)
  · refine two (by simp) (fun x hx => ?_)
    rcases List.mem_cons.mp hx with rfl | hx
    · refine ⟨?_, fun y hy => ?_⟩
      · rw [List.length_map, List.length_zip]
        have := ha.1
        omega
      · obtain ⟨p, hp, rfl⟩ := List.mem_map.mp hy
        have h1 := ha.2 p.1 (List.of_mem_zip hp).1
        have h2 := hb.2 p.2 (List.of_mem_zip hp).2
        show (p.2.keys ++ p.1.keys).length ≤ 120
        rw [List.length_append]
        omega
    · cases hx
  · refine two (by simp) (fun x hx => ?_)
    rcases List.mem_cons.mp hx with rfl | hx
    · exact ha.cap
    · rcases List.mem_cons.mp hx with rfl | hx
      · exact hb.cap
      · cases hx
theorem lines_two (a b : Sw71.Bar) : (Sw71.linesOf a b).length ≤ 2 := by
  unfold Sw71.linesOf
  split <;> simp
theorem together_mem : ∀ (l : List (Sw71.Bar × Sw71.Bar)) (f : Nat), ∀ x ∈ Sw71.together f l, ∃ p ∈ l, x.lines = Sw71.linesOf p.1 p.2
  | [], f => fun x hx => by cases hx
  | (a, b) :: l, f => fun x hx => by
    rw [together_cons] at hx
    rcases List.mem_cons.mp hx with rfl | hx
    · exact ⟨(a, b), List.mem_cons_self, rfl⟩
    · obtain ⟨p, hp, h⟩ := together_mem l _ x hx
      exact ⟨p, List.mem_cons_of_mem _ hp, h⟩
theorem together_len : ∀ (l : List (Sw71.Bar × Sw71.Bar)) (f : Nat), (Sw71.together f l).length = l.length
  | [], _ => rfl
  | (a, b) :: l, f => by
    rw [together_cons, List.length_cons, List.length_cons, together_len l]
def sp_two (CS : Addr) : Sp := spP (fun x : Sw71.Score × Nat × Nat => [rSc CS x.1, rN x.2.1, rN x.2.2]) (fun x => Wf x.1) (fun x => rIs (ansOf x.1 (.two x.2.1 x.2.2)))
theorem len_two {CS vs H Q E} (h : sp_two CS vs H Q E) : vs.length = 3 := len_P (fun _ => rfl) h
def twoL (s : Sw71.Score) (a b : Nat) : List Sw71.Both := Sw71.together 0 (((s.staves[a]?).getD []).zip ((s.staves[b]?).getD []))
theorem ans_two (s : Sw71.Score) (a b : Nat) : ansOf s (.two a b) = if s.staves.length ≤ a ∨ s.staves.length ≤ b then [-2] else (listsOut ((twoL s a b).map Sw71.bothOut)).map fun (n : Nat) => (n : Int) := by
  unfold ansOf
  show Sw71Neutral.out (if s.staves.length ≤ a ∨ s.staves.length ≤ b then (s, Sw71.ok (-2)) else (s, ⟨((twoL s a b).length : Nat), (twoL s a b).map Sw71.bothOut⟩)).2 = _
  by_cases h1 : s.staves.length ≤ a ∨ s.staves.length ≤ b
  · rw [if_pos h1, if_pos h1]; rfl
  · rw [if_neg h1, if_neg h1, ← out_lists, List.length_map]
theorem ok_two {P : Program} {w : World} {K : PySem.W.Frag} {mg : Str → Option Value} {base : Heap} {CR CS : Addr} (T : Tx K mg CR CS) (A : FunAt K mg "two" s_two ["score", "a", "b"]) (D_put_on_one : Dfn P w K mg base "put_on_one" 3 ["ones", "others"] (sp_put_on_one)) (D_lists_told : Dfn P w K mg base "lists_told" 2 ["rows"] (sp_lists_told)) (D_all_told : Dfn P w K mg base "all_told" 2 ["bars"] (sp_all_told)) : Dfn P w K mg base "two" 4 ["score", "a", "b"] (sp_two CS) := by
  obtain ⟨f, fd, g, F, b⟩ := A
  obtain ⟨f_put_on_one, fd_put_on_one, g_put_on_one, k_put_on_one, b_put_on_one, F_put_on_one⟩ := D_put_on_one
  obtain ⟨f_lists_told, fd_lists_told, g_lists_told, k_lists_told, b_lists_told, F_lists_told⟩ := D_lists_told
  obtain ⟨f_all_told, fd_all_told, g_all_told, k_all_told, b_all_told, F_all_told⟩ := D_all_told
  refine ⟨f, fd, g, F.kp, b, F.ok sc_two (fun vs H Q E h => len_two h) (fun cdv A outer s H vs Q E hr h => ?_)⟩
  obtain ⟨⟨s', a, b⟩, al, hw, k⟩ := h
  replace hw : Wf s' := hw
  obtain ⟨v0, _, rfl, h0, al⟩ := al.un_cons
  obtain ⟨v1, _, rfl, h1, al⟩ := al.un_cons
  obtain ⟨v2, _, rfl, h2, al⟩ := al.un_cons
  cases al.un_nil
  cases h1; cases h2
  have ms := mo_sc CS s'
  refine ⟨_, (pss_cons (ps_if (PW.pt (pw_or (pt_cmpR op_ge (pv 1) (pe_callB (lenS K) (by rfl) T.len PySem.boot_len (pa_cons (fldS K (pv 0) rfl) pa_nil)) (nomark _)) (pw_or1 (pt_cmpR op_ge (pv 2) (pe_callB (lenS K) (by rfl) T.len PySem.boot_len (pa_cons (fldS K (pv 0) rfl) pa_nil)) (nomark _))))) (pss_one (ps_ret (pe_lst (pa_cons (pe_cn T.c_NO_STAFF) pa_nil)))) pss_nil)
      (pss_cons (ps_set (i := 3) sc_two.nd rfl (Or.inl rfl) (pe_call F_put_on_one (hr.mono (by decide)) (by rfl) g_put_on_one k_put_on_one b_put_on_one .nil pass0 (pa_cons (pe_ix (ixL K) (fldS K (pv 0) rfl) (pv 1) (fun _ _ => rfl)) (pa_cons (pe_ix (ixL K) (fldS K (pv 0) rfl) (pv 2) (fun _ _ => rfl)) pa_nil))))
      (pss_one (ps_ret (pe_call F_lists_told (hr.mono (by decide)) (by rfl) g_lists_told k_lists_told b_lists_told .nil pass0 (pa_cons (pe_lc (own := [("label", 4), ("lines", 5)]) (g := gTup K 2 (gCons (gName 4) (gCons (gName 5) gNil))) (tt := tYes) rfl sc_two.nd (piL K (pv 3)) (blkOk_by (own := [("label", 4), ("lines", 5)]) (N := N_two) (sc := defScope s_two) (by decide +kernel)) (fun _ _ _ _ _ => (pg_tup rfl (pgs_cons (pg_name (i := 4) sc_two.nd rfl (Or.inl rfl)) (pgs_cons (pg_name (i := 5) sc_two.nd rfl (Or.inl rfl)) pgs_nil)))) (fun _ _ _ _ _ => pts_nil) (fun _ _ _ _ _ => (pe_op op_cat (pe_lst (pa_cons (pv 4) (pa_cons (pe_callB (lenS K) (by rfl) T.len PySem.boot_len (pa_cons (pv 5) pa_nil)) pa_nil))) (pe_call F_all_told (hr.mono (by decide)) (by rfl) g_all_told k_all_told b_all_told .nil pass0 (pa_cons (pv 5) pa_nil))))) pa_nil)))))), ?_⟩
  refine q_when (b := decide (s'.staves.length ≤ a) || decide (s'.staves.length ≤ b)) (et_or (et_is (ett (evx_I0 (evv_var rfl) ((evx_lenL (evx_staves T (evx_var rfl ms h0))).is (by rw [List.length_map])))) (decLe _ _)) fun _ => et_is (ett (evx_I0 (evv_var rfl) ((evx_lenL (evx_staves T (evx_var rfl ms h0))).is (by rw [List.length_map])))) (decLe _ _)) ?_ ?_
  · intro hb H2 e
    refine s_retR evr_bad fun v H3 e3 hv => k v H3 (e.trans e3) ?_
    show rIs (ansOf s' (.two a b)) _ _ _
    have : s'.staves.length ≤ a ∨ s'.staves.length ≤ b := by
      rcases Bool.or_eq_true _ _ |>.mp hb with hb | hb
      · exact .inl (of_decide_eq_true hb)
      · exact .inr (of_decide_eq_true hb)
    rw [ans_two, if_pos this]
    exact (st_is _).back e hv
  · intro hb H2 e
    have hb2 := Bool.or_eq_false_iff.mp hb
    have na := of_decide_eq_false hb2.1
    have nb := of_decide_eq_false hb2.2
    have la : a < s'.staves.length := by omega
    have lb : b < s'.staves.length := by omega
    have hm40 := hw.many
    have lenA := hw.len_at la
    have lenB := hw.len_at lb
    have hl : (twoL s' a b).length ≤ 40 := by
      unfold twoL
      rw [together_len, List.length_zip]
      omega
    have hcap : ∀ x ∈ twoL s' a b, CapL x.lines ∧ x.lines.length ≤ 2 := fun x hx => by
      obtain ⟨p, hp, hl⟩ := together_mem _ _ x hx
      rw [hl]
      exact ⟨lines_cap (hw.cap2 _ (hw.staff la) _ (List.of_mem_zip hp).1) (hw.cap2 _ (hw.staff lb) _ (List.of_mem_zip hp).2), lines_two _ _⟩
    refine q_asgR (evr_call ((s'.staves[a]?).getD [], (s'.staves[b]?).getD []) ⟨hw.capL la, hw.capL lb⟩ (st_L (st_map st_both)) (xa_cons (evx_staff T (evx_var rfl ms (ms _ _ v0 e h0)) (evv_var rfl) la) (st_bars _).mo (xa_cons (evx_staff T (evx_var rfl ms (ms _ _ v0 e h0)) (evv_var rfl) lb) (st_bars _).mo xa_nil))) fun w3 H3 e3 hw3 => ?_
    replace hw3 : rL ((twoL s' a b).map rBoth) (New H2) H3 w3 := hw3
    have stL := st_L (st_map (l := twoL s' a b) st_both)
    have hw3' := stL.any hw3
    have e03 := e.trans e3
    have ho : ∀ x ∈ twoL s' a b, (Sw71.staffOut x.lines).length ≤ 14642 := fun x hx => by
      have h1 := flat_cap (f := Sw71.barOut) (c := 7321) (l := x.lines) fun y hy => bar_cap ((hcap x hx).1.2 y hy)
      have := (hcap x hx).2
      unfold Sw71.staffOut
      omega
    refine s_retR (evr_call ((twoL s' a b).map Sw71.bothOut) ⟨by rw [List.length_map]; omega, 14645, fun r hr => by
        obtain ⟨p, hp', rfl⟩ := List.mem_map.mp hr
        have := ho p hp'
        show (Sw71.staffOut p.lines).length + 1 + 1 + 1 ≤ 14645
        omega, by rw [List.length_map]; omega, by decide⟩ (st_ns _) (xa_cons (EvR.tx (EvR.is (r' := rL (((twoL s' a b).map Sw71.bothOut).map rNs)) (evr_lcL (rs := (twoL s' a b).map fun x => rNs (Sw71.bothOut x)) (evx_var rfl stL.mo hw3') (mo_map fun x => (st_both x).mo) (by simp) (by rw [List.length_map]; omega) (st_map fun x => st_ns _)
      fun i q r x H4 hq hr e4 hx => ?_) (by rw [List.map_map]; rfl)) (st_L (st_map st_ns))) (st_L (st_map st_ns)).mo xa_nil)) fun v H5 e5 hv => k v H5 (e03.trans e5) ?_
    · rw [List.getElem?_map] at hq hr
      cases ez : (twoL s' a b)[i]? with
      | none => rw [ez] at hq; cases hq
      | some z =>
      rw [ez] at hq hr
      cases hq; cases hr
      have hz := List.mem_of_getElem? ez
      obtain ⟨p, ws, rfl, hp, al2⟩ := hx
      obtain ⟨x1, _, rfl, hx1, al2⟩ := al2.un_cons
      obtain ⟨x2, _, rfl, hx2, al2⟩ := al2.un_cons
      cases al2.un_nil
      have ml := (st_bars z.lines).mo
      have h14 : (z.lines.flatMap Sw71.barOut).length ≤ 14642 := ho z hz
      refine ⟨_, H4, g_pair (SqT.of hp), rfl, Ex.refl H4, ?_⟩
      exact (evr_catF (EvR.tx (evr_lst2 (evx_var rfl st_V.mo hx1).trV st_V ((evx_lenL (evx_var rfl ml hx2)).is (by rw [List.length_map])).trV st_V) (st_L (st_two st_V st_V))) (EvR.tx (evr_call z.lines (hcap z hz).1 (st_ns _) (xa_cons (evx_var rfl ml hx2) ml xa_nil)) (st_ns _)) (fl_two fl_V fl_V) (fl_map fun _ => fl_V) (size24 (by simp only [List.length_map, List.length_cons, List.length_nil]; omega)))
    · show rIs (ansOf s' (.two a b)) _ _ _
      rw [ans_two, if_neg (by omega), ← rNs_is]
      exact (st_ns _).back e03 hv
/-! ### parted, told -/
theorem parted_lens : ∀ (ns : List Nat) (f : Nat) (l : List Sw71.Both) (r : List (Sw71.Bar × Sw71.Bar)), (∀ n ∈ ns, 1 ≤ n) → Sw71.parted ns f l = some r → l.length = ns.length ∧ r.length = ns.length
  | [], _, [], r, _, h => by cases h; exact ⟨rfl, rfl⟩
  | [], _, x :: l, r, _, h => by cases h
  | n :: ns, _, [], r, _, h => by cases h
  | n :: ns, f, x :: l, r, hp, h => by
    rw [parted_cons (hp n List.mem_cons_self)] at h
    by_cases hr : rightBar x.label x.lines (foreP x f) n = true
    · rw [if_pos hr] at h
      cases e : Sw71.parted ns (foreP x f) l with
      | none => rw [e] at h; cases h
      | some r' =>
        rw [e] at h
        cases h
        obtain ⟨h1, h2⟩ := parted_lens ns _ l r' (fun n hn => hp n (List.mem_cons_of_mem _ hn)) e
        exact ⟨by rw [List.length_cons, List.length_cons, h1], by rw [List.length_cons, List.length_cons, h2]⟩
    · rw [if_neg hr] at h
      cases h
theorem cap_voice {b : Sw71.Bar} (h : Cap b) (n : Nat) : Cap (voiceOf b n) := by
  refine ⟨by unfold voiceOf; rw [List.length_map]; exact h.1, fun x hx => ?_⟩
  obtain ⟨y, hy, rfl⟩ := List.mem_map.mp hx
  have := h.2 y hy
  show ((y.keys.drop n).take 1).length ≤ 120
  rw [List.length_take]
  omega
theorem cap_getD {ls : List Sw71.Bar} (h : CapL ls) (i : Nat) : Cap (ls.getD i []) := by
  rw [List.getD_eq_getElem?_getD]
  cases e : ls[i]? with
  | none => exact cap_nil
  | some b => exact h.2 b (List.mem_of_getElem? e)
theorem cap_twoOf {ls : List Sw71.Bar} (h : CapL ls) (g n : Nat) : Cap (twoOf ls g n).1 ∧ Cap (twoOf ls g n).2 := by
  unfold twoOf
  split
  · exact ⟨cap_one n, cap_one n⟩
  · split
    · exact ⟨cap_getD h 0, cap_getD h 1⟩
    · have c := cap_getD h 0
      unfold twoLine
      split
      · exact ⟨c, cap_one n⟩
      · split
        · exact ⟨cap_one n, c⟩
        · split
          · exact ⟨c, c⟩
          · exact ⟨cap_voice c 1, cap_voice c 0⟩
theorem parted_caps : ∀ (ns : List Nat) (f : Nat) (l : List Sw71.Both) (r : List (Sw71.Bar × Sw71.Bar)), (∀ n ∈ ns, 1 ≤ n) → (∀ x ∈ l, CapL x.lines) → Sw71.parted ns f l = some r → ∀ p ∈ r, Cap p.1 ∧ Cap p.2
  | [], _, [], r, _, _, h => by cases h; exact fun p hp => by cases hp
  | [], _, x :: l, r, _, _, h => by cases h
  | n :: ns, _, [], r, _, _, h => by cases h
  | n :: ns, f, x :: l, r, hp, hl, h => by
    rw [parted_cons (hp n List.mem_cons_self)] at h
    by_cases hr : rightBar x.label x.lines (foreP x f) n = true
    · rw [if_pos hr] at h
      cases e : Sw71.parted ns (foreP x f) l with
      | none => rw [e] at h; cases h
      | some r' =>
        rw [e] at h
        cases h
        intro p hp'
        rcases List.mem_cons.mp hp' with rfl | hp'
        · exact cap_twoOf (hl x List.mem_cons_self) _ _
        · exact parted_caps ns _ l r' (fun n hn => hp n (List.mem_cons_of_mem _ hn)) (fun x hx => hl x (List.mem_cons_of_mem _ hx)) e p hp'
    · rw [if_neg hr] at h
      cases h
def fsts (r : List (Sw71.Bar × Sw71.Bar)) : List Sw71.Bar := r.map fun x => x.1
def snds (r : List (Sw71.Bar × Sw71.Bar)) : List Sw71.Bar := r.map fun x => x.2
theorem evr_allTold {σ : L2.St} {H : Hp} {te : TE} {l : List Sw71.Bar} (h : EvX te σ H (rBars l)) (c : CapL l) : EvR (tCall sp_all_told [] E0 (tCons te tNil)) σ H (rNs (Sw71.staffOut l)) := by
  have := evr_call (E := E0) (ar := fun x : List Sw71.Bar => [rBars x]) (pre := fun x => CapL x) (out := fun x => rNs (Sw71.staffOut x)) l c (st_ns _) (xa_cons h (st_bars l).mo xa_nil)
  exact this
def sp_parted_told (CS : Addr) : Sp := spP (fun x : Sw71.Score × List Int × List Sw71.Both × List Int => [rSc CS x.1, rIs x.2.1]) (fun x => Wf x.1 ∧ Sw71Neutral.listIn Sw71Neutral.bothIn x.2.1 = some (x.2.2.1, x.2.2.2)) (fun x => rIs (ansOf x.1 (.parted x.2.2.1)))
theorem len_parted_told {CS vs H Q E} (h : sp_parted_told CS vs H Q E) : vs.length = 2 := len_P (fun _ => rfl) h
def partOut (r : List (Sw71.Bar × Sw71.Bar)) : List Nat := r.length :: ((Sw71.staffOut (fsts r)).length :: Sw71.staffOut (fsts r)) ++ ((Sw71.staffOut (snds r)).length :: Sw71.staffOut (snds r))
theorem ans_parted (s : Sw71.Score) (l : List Sw71.Both) : ansOf s (.parted l) = match Sw71.parted s.bars 0 l with
    | none => [-1]
    | some r => (partOut r).map fun (n : Nat) => (n : Int) := by
  unfold ansOf
  show Sw71Neutral.out (match Sw71.parted s.bars 0 l with
    | none => Sw71.ok (-1)
    | some r => ⟨(r.length : Nat), [Sw71.staffOut (r.map fun x => x.1), Sw71.staffOut (r.map fun x => x.2)]⟩) = _
  cases Sw71.parted s.bars 0 l with
  | none => rfl
  | some r =>
    unfold Sw71Neutral.out partOut fsts snds
    simp
theorem ok_parted_told {P : Program} {w : World} {K : PySem.W.Frag} {mg : Str → Option Value} {base : Heap} {CR CS : Addr} (T : Tx K mg CR CS) (A : FunAt K mg "parted_told" s_parted_told ["score", "row"]) (D_read_labelled : Dfn P w K mg base "read_labelled" 5 ["reader"] (sp_read_labelled CR)) (D_parted : Dfn P w K mg base "parted" 4 ["bars", "lengths"] (sp_parted)) (D_with_count : Dfn P w K mg base "with_count" 1 ["row"] (sp_with_count)) (D_all_told : Dfn P w K mg base "all_told" 2 ["bars"] (sp_all_told)) (D_Reader___init__ : Mki P w K mg base CR 1 ["self", "row"] (sp_Reader___init__ CR)) (D_Reader_number : Mtd P w K mg base CR "number" 1 ["self"] (sp_Reader_number CR)) (D_Score_many : Mtd P w K mg base CS "many" 1 ["self"] (sp_Score_many CS)) : Dfn P w K mg base "parted_told" 6 ["score", "row"] (sp_parted_told CS) := by
  obtain ⟨f, fd, g, F, b⟩ := A
  obtain ⟨f_read_labelled, fd_read_labelled, g_read_labelled, k_read_labelled, b_read_labelled, F_read_labelled⟩ := D_read_labelled
  obtain ⟨f_parted, fd_parted, g_parted, k_parted, b_parted, F_parted⟩ := D_parted
  obtain ⟨f_with_count, fd_with_count, g_with_count, k_with_count, b_with_count, F_with_count⟩ := D_with_count
  obtain ⟨f_all_told, fd_all_told, g_all_told, k_all_told, b_all_told, F_all_told⟩ := D_all_told
  obtain ⟨f_Reader___init__, fd_Reader___init__, mk_reader, b_reader___init__, F_reader___init__⟩ := D_Reader___init__
  obtain ⟨f_Reader_number, fd_Reader_number, m_reader_number, b_reader_number, F_reader_number⟩ := D_Reader_number
  obtain ⟨f_Score_many, fd_Score_many, m_score_many, b_score_many, F_score_many⟩ := D_Score_many
  refine ⟨f, fd, g, F.kp, b, F.ok sc_parted_told (fun vs H Q E h => len_parted_told h) (fun cdv A outer s H vs Q E hr h => ?_)⟩
  obtain ⟨⟨s', row, l, rest⟩, al, ⟨hw, hrow⟩, k⟩ := h
  replace hw : Wf s' := hw
  replace hrow : Sw71Neutral.listIn Sw71Neutral.bothIn row = some (l, rest) := hrow
  obtain ⟨v0, _, rfl, h0, al⟩ := al.un_cons
  obtain ⟨v1, _, rfl, h1, al⟩ := al.un_cons
  cases al.un_nil
  have ms := mo_sc CS s'
  obtain ⟨n, r, rfl, hn, hm⟩ := list_cases hrow
  have hll := many_len hm
  have hlc : ∀ x ∈ l, CapL x.lines := many_all (fun l x l' h => by
    obtain ⟨r, _, h2⟩ := both_cases h
    exact cap_bars h2) hm
  have hm40 := hw.many
  refine ⟨_, (pss_cons (ps_set (i := 2) sc_parted_told.nd rfl (Or.inr rfl) (pe_make mk_reader F_reader___init__ (hr.mono (by decide)) (by rfl) T.g_reader b_reader___init__ .nil pass0 (pa_cons (pv 1) pa_nil)))
      (pss_cons (ps_set (i := 3) sc_parted_told.nd rfl (Or.inl rfl) (pe_meth0 (pv 2) T.cl_reader m_reader_number F_reader_number (hr.mono (by decide)) b_reader_number .nil pass0))
      (pss_cons (ps_setLc (i := 4) (own := [("k", 7)]) (g := gName 7) (tt := tYes) rfl sc_parted_told.nd rfl rfl (sw_true rfl rfl rfl (by decide +kernel)) (pi_range1 (by rfl) T.range (pa_cons (pv 3) pa_nil)) (blkOk_by (own := [("k", 7)]) (N := N_parted_told) (sc := defScope s_parted_told) (by decide +kernel)) (fun _ _ _ _ _ => (pg_name (i := 7) sc_parted_told.nd rfl (Or.inl rfl))) (fun _ _ _ _ _ => pts_nil) (fun _ _ _ _ _ => (pe_call F_read_labelled (hr.mono (by decide)) (by rfl) g_read_labelled k_read_labelled b_read_labelled .nil pass0 (pa_cons (pv 2) pa_nil))))
      (pss_cons (ps_if (pt_cmpR op_ne (pv 3) (pe_meth0 (pv 0) T.cl_score m_score_many F_score_many (hr.mono (by decide)) b_score_many .nil pass0) (nomark _)) (pss_one (ps_ret (pe_lst (pa_cons (pe_cn T.c_BAD) pa_nil)))) pss_nil)
      (pss_cons (ps_set (i := 5) sc_parted_told.nd rfl (Or.inr rfl) (pe_call F_parted (hr.mono (by decide)) (by rfl) g_parted k_parted b_parted .nil pass0 (pa_cons (pv 4) (pa_cons (fldS K (pv 0) rfl) pa_nil))))
      (pss_cons (ps_if (pt_cmpR op_isN (pv 5) pe_non (nomark _)) (pss_one (ps_ret (pe_lst (pa_cons (pe_cn T.c_BAD) pa_nil)))) pss_nil)
      (pss_cons (ps_setLc (i := 6) (own := [("k", 7)]) (g := gName 7) (tt := tYes) rfl sc_parted_told.nd rfl rfl (sw_true rfl rfl rfl (by decide +kernel)) (pi_range1 (by rfl) T.range (pa_cons pe_int pa_nil)) (blkOk_by (own := [("k", 7)]) (N := N_parted_told) (sc := defScope s_parted_told) (by decide +kernel)) (fun _ _ _ _ _ => (pg_name (i := 7) sc_parted_told.nd rfl (Or.inr rfl))) (fun _ _ _ _ _ => pts_nil) (fun _ _ _ _ _ => (pe_lc (own := [("pair", 8)]) (g := gName 8) (tt := tYes) rfl sc_parted_told.nd (piL K (pv 5)) (blkOk_by (own := [("pair", 8)]) (N := N_parted_told) (sc := relS _ (defScope s_parted_told)) (by decide +kernel)) (fun _ _ _ _ _ => (pg_name (i := 8) sc_parted_told.nd rfl (Or.inl rfl))) (fun _ _ _ _ _ => pts_nil) (fun _ _ _ _ _ => (pe_ix (ixT K) (pv 8) (pv 7) (fun _ _ => rfl))))))
      (pss_one (ps_ret (pe_op op_cat (pe_op op_cat (pe_lst (pa_cons (pv 3) pa_nil)) (pe_call F_with_count (hr.mono (by decide)) (by rfl) g_with_count k_with_count b_with_count .nil pass0 (pa_cons (pe_call F_all_told (hr.mono (by decide)) (by rfl) g_all_told k_all_told b_all_told .nil pass0 (pa_cons (pe_ix (ixL K) (pv 6) pe_int (fun _ _ => rfl)) pa_nil)) pa_nil))) (pe_call F_with_count (hr.mono (by decide)) (by rfl) g_with_count k_with_count b_with_count .nil pass0 (pa_cons (pe_call F_all_told (hr.mono (by decide)) (by rfl) g_all_told k_all_told b_all_told .nil pass0 (pa_cons (pe_ix (ixL K) (pv 6) pe_int (fun _ _ => rfl)) pa_nil)) pa_nil)))))))))))), ?_⟩
  refine q_asgC (make_reader (i := 1) rfl h1 fun a ra H1 na r1 e1 => ?_)
  refine rd_meth (i := 2) rfl r1 (nat_at n r (by omega)) (by decide +kernel) (by decide +kernel) fun H2 v r2 k2 hv => ?_
  cases hv
  have e2 := ex_keepA e1 k2 na
  refine q_asgC (lc_read (te := tCall (sp_read_labelled CR) [] E0 (tCons (tVar 2) tNil)) (σ := [some v0, some v1, some (.ref a), some (.int (n : Int)), none, none, none, none, none]) (vs := [7]) (i := 3) (j := 7) (n := n) st_both rfl hn hm r2 (fun _ => rfl) ?_ fun D H3 r3 k3 hD => ?_)
  · exact fun t H3 l2 x l3 kk r3 hx hk => rd_call (i := 2) rfl r3 hx hk
  have e3 := ex_keepA e1 (k2.trans k3) na
  have stL := st_L (st_map (l := l) st_both)
  have hD' := stL.any hD
  refine q_when (b := !decide (n = s'.bars.length)) (et_is (ett (evx_ne (evv_var rfl) (evx_many (evx_var rfl ms (ms _ _ v0 e3 h0))) rfl)) (congrArg not (decV _ _))) ?_ ?_
  · intro hb H4 e4
    have hne : n ≠ s'.bars.length := by simpa using hb
    refine s_retR evr_bad fun v H5 e5 hv => k v H5 (e3.trans (e4.trans e5)) ?_
    show rIs (ansOf s' (.parted l)) _ _ _
    have : Sw71.parted s'.bars 0 l = none := by
      cases hq : Sw71.parted s'.bars 0 l with
      | none => rfl
      | some r => exact absurd ((hll.symm.trans (parted_lens _ _ _ _ hw.pos hq).1)) hne
    rw [ans_parted, this]
    exact (st_is _).back (e3.trans e4) hv
  intro hb H4 e4
  have heq : n = s'.bars.length := by simpa using hb
  have e04 := e3.trans e4
  refine q_asgR (evr_call (l, s'.bars) ⟨by show l.length = s'.bars.length; omega, hw.pos, by show s'.bars.length ≤ 60; omega, hlc⟩ (st_parted _) (xa_cons (evx_var rfl stL.mo (stL.mo _ _ _ e4 hD')) stL.mo (xa_cons (evx_lengths T (evx_var rfl ms (ms _ _ v0 e04 h0))) (st_ns _).mo xa_nil))) fun w5 H5 e5 hw5 => ?_
  replace hw5 : rParted (Sw71.parted s'.bars 0 l) (New H4) H5 w5 := hw5
  have e05 := e04.trans e5
  have ap := ans_parted s' l
  cases hq : Sw71.parted s'.bars 0 l with
  | none =>
    rw [hq] at hw5 ap
    cases hw5
    refine q_when (b := true) (et_is (ett (evx_isN (x := .non) (evv_var rfl))) rfl) ?_ (fun z => by cases z)
    intro _ H6 e6
    refine s_retR evr_bad fun v H7 e7 hv => k v H7 (e05.trans (e6.trans e7)) ?_
    show rIs (ansOf s' (.parted l)) _ _ _
    rw [ap]
    exact (st_is _).back (e05.trans e6) hv
  | some rr =>
    rw [hq] at hw5 ap
    replace hw5 : rL (rr.map rPair) (New H4) H5 w5 := hw5
    have stP := st_L (st_map (l := rr) fun p => (fl_pair p).st)
    have hw5' := stP.any hw5
    obtain ⟨wa, _, rfl, _⟩ := id hw5
    have hlens := parted_lens _ _ _ _ hw.pos hq
    have hcaps := parted_caps _ _ _ _ hw.pos hlc hq
    have hrl : rr.length ≤ 40 := by omega
    refine q_when (b := false) (et_is (ett (evx_isN (x := .ref wa) (evv_var rfl))) rfl) (fun z => by cases z) ?_
    intro _ H6 e6
    have e06 := e05.trans e6
    have mp := fun p => (fl_pair p).mo
    refine q_asgR (lcR (m := 2) 2 (fun kk => rBars (rr.map fun p => if kk = 0 then p.1 else p.2)) (xa_cons evx_c st_V.mo xa_nil) (by decide) rfl (fun _ => st_bars _) (fun _ => rfl)
      fun kk H7 hk e7 => (lcL rr rPair (fun p => rBar (if kk = 0 then p.1 else p.2)) (evx_var rfl stP.mo (stP.mo _ _ _ (e6.trans e7) hw5')) mp (by omega) (fun _ => (fl_bar _).st) (fun _ => rfl)
        fun p v H8 hp e8 hv => ?_).is (by unfold rBars; rw [List.map_map]; rfl)) fun w7 H7 e7 hw7 => ?_
    · refine (evx_ixT (j := kk) (rs := [rBar p.1, rBar p.2]) (evx_var (r := rPair p) rfl (mp p) hv) (evv_var rfl) rfl ?_ (mo_two (fl_bar _).mo (fl_bar _).mo)).tr (fl_bar _)
      rcases (by omega : kk = 0 ∨ kk = 1) with rfl | rfl
      · rfl
      · rfl
    · have two : (List.range 2).map (fun kk => rBars (rr.map fun p => if kk = 0 then p.1 else p.2)) = [rBars (fsts rr), rBars (snds rr)] := rfl
      rw [two] at hw7
      have s7 := st_L (st_two (st_bars (fsts rr)) (st_bars (snds rr)))
      have hw7' := s7.any hw7
      have e07 := e06.trans e7
      have m7 : ∀ r ∈ [rBars (fsts rr), rBars (snds rr)], Mo r := mo_two (st_bars _).mo (st_bars _).mo
      have c1 : CapL (fsts rr) := ⟨by unfold fsts; rw [List.length_map]; omega, fun b hb => by
        obtain ⟨p, hp, rfl⟩ := List.mem_map.mp hb
        exact (hcaps p hp).1⟩
      have c2 : CapL (snds rr) := ⟨by unfold snds; rw [List.length_map]; omega, fun b hb => by
        obtain ⟨p, hp, rfl⟩ := List.mem_map.mp hb
        exact (hcaps p hp).2⟩
      have o1 := staff_out_cap c1
      have o2 := staff_out_cap c2
      have sx1 : EvX (tCall sp_all_told [] E0 (tCons (tOp (rIxL K) (tVar 6) (tC (.int 0))) tNil)) [some v0, some v1, some (.ref a), some (.int (n : Int)), some (.ref D), some (.ref wa), some w7, none, none] H7 (rNs (Sw71.staffOut (fsts rr))) := EvR.tx (evr_allTold (evx_ixL (j := 0) (evx_var rfl s7.mo hw7') evx_c rfl rfl m7) c1) (st_ns _)
      have sx2 : EvX (tCall sp_all_told [] E0 (tCons (tOp (rIxL K) (tVar 6) (tC (.int 1))) tNil)) [some v0, some v1, some (.ref a), some (.int (n : Int)), some (.ref D), some (.ref wa), some w7, none, none] H7 (rNs (Sw71.staffOut (snds rr))) := EvR.tx (evr_allTold (evx_ixL (j := 1) (evx_var rfl s7.mo hw7') evx_c rfl rfl m7) c2) (st_ns _)
      refine s_retR (evr_catF (EvR.tx (evr_catF (EvR.tx (evr_lst1 (evv_var rfl).trV st_V) (st_L (one_st st_V))) (EvR.tx (evr_call (Sw71.staffOut (fsts rr)) (by show _ ≤ 10000000; omega) (st_ns _) (xa_cons sx1 (st_ns _).mo xa_nil)) (st_ns _)) (one_fl fl_V) (fl_map fun _ => fl_V) (size24 (by simp; omega))) (st_L ?_)) (EvR.tx (evr_call (Sw71.staffOut (snds rr)) (by show _ ≤ 10000000; omega) (st_ns _) (xa_cons sx2 (st_ns _).mo xa_nil)) (st_ns _)) ?_ (fl_map fun _ => fl_V) (size24 (by simp; omega))) fun v H8 e8 hv => k v H8 (e07.trans e8) ?_
      · intro r hr
        rcases List.mem_append.mp hr with hr | hr
        · exact one_st st_V r hr
        · exact st_map (fun _ => st_V) r hr
      · intro r hr
        rcases List.mem_append.mp hr with hr | hr
        · exact one_fl fl_V r hr
        · exact fl_map (fun _ => fl_V) r hr
      · show rIs (ansOf s' (.parted l)) _ _ _
        rw [ap]
        show rIs ((partOut rr).map fun (n : Nat) => (n : Int)) _ _ _
        rw [← rNs_is]
        have hnr : n = rr.length := by omega
        unfold partOut rNs
        rw [List.map_append, ← hnr]
        refine (st_L ?_).back e07 hv
        intro r hr
        rcases List.mem_append.mp hr with hr | hr
        · exact st_map (fun _ => st_V) r hr
        · exact st_map (fun _ => st_V) r hr
end Ps

namespace Ps
open PySem PySem.Spec PyProof.Rows L2 Evl

/-! ### calls that change the score -/
theorem sc_any {C : Addr} {s : Sw71.Score} {F : Addr → Prop} {H : Hp} {v : V} (h : rSc C s F H v) : rSc C s Any H v := by
  obtain ⟨a, dx, la, ba, sa, svs, rfl, h1, _, _, _, n1, n2, h2, h3, h4, al⟩ := h
  exact ⟨a, dx, la, ba, sa, svs, rfl, h1, trivial, trivial, trivial, n1, n2, h2, h3, h4, al.mono fun v l _ h => st_bars l _ _ H H v (fun p hp => ⟨trivial, hp.2⟩) Tr.rf h⟩
theorem sc_ex {C : Addr} {s : Sw71.Score} {F F' : Addr → Prop} {H H' : Hp} {v : V} (e : Ex H H') (w : ∀ p, F p → F' p) (h : rSc C s F H v) : rSc C s F' H' v := by
  obtain ⟨a, dx, la, ba, sa, svs, rfl, h1, f1, f2, f3, n1, n2, h2, h3, h4, al⟩ := h
  exact ⟨a, dx, la, ba, sa, svs, rfl, e a _ h1, w _ f1, w _ f2, w _ f3, n1, n2, e la _ h2, e ba _ h3, e sa _ h4, al.mono fun v l _ h => st_bars l _ _ H H' v (fun p hp => ⟨w _ hp.1, hp.2⟩) (Tr.ex e) h⟩
theorem Keep.ex {F : Addr → Prop} {H H' : Hp} (e : Ex H H') : Keep F H H' := fun b o _ h => e b o h
def spA {α : Type} (CS : Addr) (ar : α → List Rl) (pre : α → Prop) (call : α → Sw71.Call) : Sp := fun vs H Q _ => ∃ (F : Addr → Prop) (s : Sw71.Score) (x : α) (v0 : V) (rest : List V), vs = v0 :: rest ∧ rSc CS s F H v0 ∧ All2 (fun v (r : Rl) => r Any H v) rest (ar x) ∧ Wf s ∧ pre x ∧
  ∀ H' v, Keep F H H' → rSc CS (Sw71.step s (call x)).1 (fun p => F p ∨ H p = none) H' v0 → rIs (ansOf s (call x)) (New H) H' v → Q v H'
theorem len_A {α : Type} {CS : Addr} {ar : α → List Rl} {pre : α → Prop} {call : α → Sw71.Call} {vs H Q E} {n : Nat} (hn : ∀ x, (ar x).length = n) (h : spA CS ar pre call vs H Q E) : vs.length = n + 1 := by
  obtain ⟨F, s, x, v0, rest, rfl, _, al, _⟩ := h
  rw [List.length_cons, al.1, hn]
theorem step_staff (s : Sw71.Score) (l : List Sw71.Bar) : Sw71.step s (.staff l) = if areBars s l = false then (s, Sw71.ok (-1)) else if 8 ≤ s.staves.length then (s, Sw71.ok (-5)) else ({ s with staves := s.staves ++ [l.map Sw71.plain] }, Sw71.ok (s.staves.length : Nat)) := rfl
theorem are_zip : ∀ (ns : List Nat) (l : List Sw71.Bar), (∀ n ∈ ns, 1 ≤ n) → l.length = ns.length → ((ns.zip l).all fun x => Sw71.barOk x.1 x.2) = true → (l.zip ns).map (fun p => asStaff p.1 p.2) = l.map Sw71.plain
  | [], [], _, _, _ => rfl
  | [], _ :: _, _, h, _ => by cases h
  | _ :: _, [], _, h, _ => by cases h
  | n :: ns, b :: l, hp, hl, h => by
    rw [List.zip_cons_cons, List.all_cons, Bool.and_eq_true] at h
    rw [List.zip_cons_cons, List.map_cons, List.map_cons, are_zip ns l (fun n hn => hp n (List.mem_cons_of_mem _ hn)) (by simpa using hl) h.2, plain_ok (hp n List.mem_cons_self) h.1]
theorem cap2_ok {n : Nat} {b : Sw71.Bar} (h : Sw71.barOk n b = true) : Cap2 b := by
  unfold Sw71.barOk at h
  have h1 := (Bool.and_eq_true _ _).mp h
  have h2 := (Bool.and_eq_true _ _).mp h1.2
  refine ⟨of_decide_eq_true h2.1, fun x hx => ?_⟩
  have h3 := List.all_eq_true.mp h2.2 x hx
  unfold Sw71.itemOk at h3
  have h4 := (Bool.and_eq_true _ _).mp h3
  have h5 := (Bool.and_eq_true _ _).mp h4.2
  exact of_decide_eq_true h5.1
theorem cap2_plain {b : Sw71.Bar} (h : Cap2 b) : Cap2 (Sw71.plain b) := by
  unfold Sw71.plain
  by_cases hr : Sw71.rests b = true ∧ b ≠ []
  · rw [if_pos hr]
    exact ⟨by show 1 ≤ 20; decide, fun x hx => by
      rcases List.mem_cons.mp hx with rfl | hx
      · exact Nat.zero_le _
      · cases hx⟩
  · rw [if_neg hr]
    exact h
theorem zip_all_right : ∀ (ns : List Nat) (l : List Sw71.Bar), l.length = ns.length → ((ns.zip l).all fun x => Sw71.barOk x.1 x.2) = true → ∀ b ∈ l, ∃ n, Sw71.barOk n b = true
  | [], [], _, _ => fun b hb => by cases hb
  | [], _ :: _, h, _ => by cases h
  | _ :: _, [], h, _ => by cases h
  | n :: ns, c :: l, hl, h => by
    rw [List.zip_cons_cons, List.all_cons, Bool.and_eq_true] at h
    intro b hb
    rcases List.mem_cons.mp hb with rfl | hb
    · exact ⟨n, h.1⟩
    · exact zip_all_right ns l (by simpa using hl) h.2 b hb
theorem wf_staff {s : Sw71.Score} (hw : Wf s) (l : List Sw71.Bar) : Wf (Sw71.step s (.staff l)).1 := by
  rw [step_staff]
  by_cases h1 : areBars s l = false
  · rw [if_pos h1]; exact hw
  · rw [if_neg h1]
    by_cases h2 : 8 ≤ s.staves.length
    · rw [if_pos h2]; exact hw
    · rw [if_neg h2]
      have ha : areBars s l = true := by cases h : areBars s l with | true => rfl | false => exact absurd h h1
      unfold areBars at ha
      have ha2 := (Bool.and_eq_true _ _).mp ha
      have hl := of_decide_eq_true ha2.1
      refine ⟨hw.many, hw.pos, ?_, ?_, ?_⟩
      · show (s.staves ++ [l.map Sw71.plain]).length ≤ 8
        rw [List.length_append, List.length_singleton]
        omega
      · intro st hst
        rcases List.mem_append.mp hst with h | h
        · exact hw.len st h
        · rcases List.mem_cons.mp h with rfl | h
          · rw [List.length_map]; exact hl
          · cases h
      · intro st hst
        rcases List.mem_append.mp hst with h | h
        · exact hw.cap2 st h
        · rcases List.mem_cons.mp h with rfl | h
          · intro b hb
            obtain ⟨c, hc, rfl⟩ := List.mem_map.mp hb
            obtain ⟨n, hn⟩ := zip_all_right _ _ hl ha2.2 c hc
            exact cap2_plain (cap2_ok hn)
          · cases h
theorem un_meth {C : Addr} {m : Str} {sp : Sp} {dvs : List V} {E : XK} {ta : TE} {t : TA} {σ : L2.St} {H : Hp} {Q : VK} (h : ta σ H fun x H1 => ∃ a dx fs, x = .ref a ∧ H1 a = some (.ins C dx fs) ∧ fs.lookup m = none ∧ t σ H1 fun vs H2 => sp (x :: (vs ++ dvs)) H2 Q E) : tMeth C m sp dvs E ta t σ H Q := h
def sp_add_staff (CS : Addr) : Sp := spA CS (fun x : List Int × List Sw71.Bar × List Int => [rIs x.1]) (fun x => Sw71Neutral.listIn Sw71Neutral.barIn x.1 = some (x.2.1, x.2.2)) (fun x => .staff x.2.1)
theorem len_add_staff {CS vs H Q E} (h : sp_add_staff CS vs H Q E) : vs.length = 2 := len_A (fun _ => rfl) h
theorem ok_add_staff {P : Program} {w : World} {K : PySem.W.Frag} {mg : Str → Option Value} {base : Heap} {CR CS : Addr} (T : Tx K mg CR CS) (A : FunAt K mg "add_staff" s_add_staff ["score", "row"]) (D_Reader___init__ : Mki P w K mg base CR 1 ["self", "row"] (sp_Reader___init__ CR)) (D_Reader_bars : Mtd P w K mg base CR "bars" 4 ["self"] (sp_Reader_bars CR)) (D_Score_are_bars : Mtd P w K mg base CS "are_bars" 3 ["self", "bars"] (sp_Score_are_bars CS)) (D_Score_add : Mtd P w K mg base CS "add" 3 ["self", "bars"] (sp_Score_add CS)) : Dfn P w K mg base "add_staff" 5 ["score", "row"] (sp_add_staff CS) := by
  obtain ⟨f, fd, g, F, b⟩ := A
  obtain ⟨f_Reader___init__, fd_Reader___init__, mk_reader, b_reader___init__, F_reader___init__⟩ := D_Reader___init__
  obtain ⟨f_Reader_bars, fd_Reader_bars, m_reader_bars, b_reader_bars, F_reader_bars⟩ := D_Reader_bars
  obtain ⟨f_Score_are_bars, fd_Score_are_bars, m_score_are_bars, b_score_are_bars, F_score_are_bars⟩ := D_Score_are_bars
  obtain ⟨f_Score_add, fd_Score_add, m_score_add, b_score_add, F_score_add⟩ := D_Score_add
  refine ⟨f, fd, g, F.kp, b, F.ok sc_add_staff (fun vs H Q E h => len_add_staff h) (fun cdv A outer s H vs Q E hr h => ?_)⟩
  obtain ⟨F0, s', ⟨row, l, rest⟩, v0, vr, rfl, h0, al, hw, hrow, k⟩ := h
  replace hrow : Sw71Neutral.listIn Sw71Neutral.barIn row = some (l, rest) := hrow
  obtain ⟨v1, _, rfl, h1, al⟩ := al.un_cons
  cases al.un_nil
  have ms := mo_sc CS s'
  have h0a := sc_any h0
  have hcl := cap_bars hrow
  refine ⟨_, (pss_cons (ps_set (i := 2) sc_add_staff.nd rfl (Or.inl rfl) (pe_meth0 (pe_make mk_reader F_reader___init__ (hr.mono (by decide)) (by rfl) T.g_reader b_reader___init__ .nil pass0 (pa_cons (pv 1) pa_nil)) T.cl_reader m_reader_bars F_reader_bars (hr.mono (by decide)) b_reader_bars .nil pass0))
      (pss_cons (ps_if (pt_not (pt_val (pe_meth (pv 0) T.cl_score m_score_are_bars F_score_are_bars (hr.mono (by decide)) b_score_are_bars .nil pass0 (pa_cons (pv 2) pa_nil)))) (pss_one (ps_ret (pe_lst (pa_cons (pe_cn T.c_BAD) pa_nil)))) pss_nil)
      (pss_cons (ps_if (pt_cmpR op_ge (pe_callB (lenS K) (by rfl) T.len PySem.boot_len (pa_cons (fldS K (pv 0) rfl) pa_nil)) (pe_cn T.c_MOST_STAVES) (nomark _)) (pss_one (ps_ret (pe_lst (pa_cons (pe_cn T.c_FULL) pa_nil)))) pss_nil)
      (pss_one (ps_ret (pe_lst (pa_cons (pe_meth (pv 0) T.cl_score m_score_add F_score_add (hr.mono (by decide)) b_score_add .nil pass0 (pa_cons (pv 2) pa_nil)) pa_nil))))))), ?_⟩
  refine q_asgC (un_meth (make_reader (i := 1) rfl h1 fun a ra H1 na r1 e1 => ?_))
  obtain ⟨dx1, row1, q1, ha1, _⟩ := id r1
  refine ⟨a, dx1, _, rfl, ha1, rdF_no (by decide +kernel) (by decide +kernel), a, ra, row, l, rest, rfl, r1, hrow, fun H2 v2 r2 k2 hv2 => ?_⟩
  have e2 := ex_keepA e1 k2 na
  have ml := (st_bars l).mo
  have hv2a := (st_bars l).any hv2
  have same : ∀ {H' : Hp}, Ex H H' → (Sw71.step s' (.staff l)).1 = s' → rSc CS (Sw71.step s' (.staff l)).1 (fun p => F0 p ∨ H p = none) H' v0 := fun e hs => by
    rw [hs]
    exact sc_ex e (fun _ z => .inl z) h0
  refine q_when (et_not (etb (EvR.txV (evr_meth (rs := [rBars l]) (s', l) hcl st_V obj_sc ms (evx_var rfl ms (ms _ _ v0 e2 h0a)) (xa_cons (evx_var rfl ml hv2a) ml xa_nil) rfl)))) ?_ ?_
  · intro hb H3 e3
    have hf : areBars s' l = false := by
      cases hq : areBars s' l with
      | false => rfl
      | true =>
        have hb : (!areBars s' l) = true := hb
        rw [hq] at hb; cases hb
    have hs : Sw71.step s' (.staff l) = (s', Sw71.ok (-1)) := by rw [step_staff, if_pos hf]
    refine s_retR evr_bad fun v H4 e4 hv => k H4 v (Keep.ex (e2.trans (e3.trans e4))) (same (e2.trans (e3.trans e4)) (by rw [hs])) ?_
    show rIs (Sw71Neutral.out (Sw71.step s' (.staff l)).2) _ _ _
    rw [hs]
    exact (st_is _).back (e2.trans e3) hv
  intro hb H3 e3
  have hf : areBars s' l = true := by
    cases hq : areBars s' l with
    | true => rfl
    | false =>
      have hb : (!areBars s' l) = false := hb
      rw [hq] at hb; cases hb
  have e03 := e2.trans e3
  refine q_when (b := decide (8 ≤ s'.staves.length)) (et_is (ett (evx_I0 ((evx_lenL (evx_staves T (evx_var rfl ms (ms _ _ v0 e03 h0a)))).is (by rw [List.length_map])) evx_c)) (decLe 8 _)) ?_ ?_
  · intro hc H4 e4
    have hs : Sw71.step s' (.staff l) = (s', Sw71.ok (-5)) := by rw [step_staff, if_neg (by rw [hf]; decide), if_pos (of_decide_eq_true hc)]
    refine s_retR evr_bad fun v H5 e5 hv => k H5 v (Keep.ex (e03.trans (e4.trans e5))) (same (e03.trans (e4.trans e5)) (by rw [hs])) ?_
    show rIs (Sw71Neutral.out (Sw71.step s' (.staff l)).2) _ _ _
    rw [hs]
    exact (st_is _).back (e03.trans e4) hv
  · intro hc H4 e4
    have h8 := of_decide_eq_false hc
    have e04 := e03.trans e4
    have hs : Sw71.step s' (.staff l) = ({ s' with staves := s'.staves ++ [l.map Sw71.plain] }, Sw71.ok (s'.staves.length : Nat)) := by rw [step_staff, if_neg (by rw [hf]; decide), if_neg h8]
    have hf2 := hf
    unfold areBars at hf2
    have hf3 := (Bool.and_eq_true _ _).mp hf2
    have hlen := of_decide_eq_true hf3.1
    have hz := are_zip s'.bars l hw.pos hlen hf3.2
    obtain ⟨sa0, dx, la, ba, sa, svs, rfl, i1, f1, f2, f3, n1, n2, i2, i3, i4, ial⟩ := id h0
    have hsv : svs.length = s'.staves.length := ial.1
    have hfew := hw.few
    refine ⟨_, rfl, sa0, dx, _, rfl, e04 sa0 _ i1, scF_no (by decide +kernel) (by decide +kernel) (by decide +kernel), _, rfl, ?_⟩
    refine ⟨sa0, dx, la, ba, sa, svs, s'.bars, l, v2, rfl, e04 sa0 _ i1, e04 la _ i2, e04 sa _ i4, by omega, (st_bars l).ex (e3.trans e4) hv2a, fun b hb => (hcl.2 b hb).1, hcl.1, fun w H5 e5 hw5 => ?_⟩
    rw [hz] at hw5
    refine ⟨by show 1 ≤ sizeLine; decide, fun p np => ?_⟩
    have e05 := e04.trans e5
    have hsa5 : H5 sa = some (.lst svs) := e05 sa _ i4
    have nps : p ≠ sa := fun z => by
      subst z
      rw [upd_same] at np
      cases np
    have np5 : H5 p = none := by
      rw [upd_ne nps] at np
      exact np
    have fin : ∀ b o, b ≠ sa → H5 b = some o → (upd (upd H5 sa (.lst (svs ++ [w]))) p (.lst [.int (svs.length : Int)])) b = some o := fun b o nb hb => by
      rw [upd_ne (ne_of_none hb np5), upd_ne nb]
      exact hb
    have nsa0 : sa0 ≠ sa := ne_of i1 i4 (by intro z; cases z)
    refine k _ _ (fun b o nb hb => fin b o (fun z => nb (by rw [z]; exact f3)) (e05 b _ hb)) ?_ ?_
    · show rSc CS (Sw71.step s' (.staff l)).1 _ _ _
      rw [hs]
      refine ⟨sa0, dx, la, ba, sa, svs ++ [w], rfl, fin sa0 _ nsa0 (e05 sa0 _ i1), .inl f1, .inl f2, .inl f3, n1, n2, fin la _ n1.symm (e05 la _ i2), fin ba _ n2.symm (e05 ba _ i3), ?_, ?_⟩
      · rw [upd_ne nps.symm, upd_same]
      · refine All2.snoc (ial.mono fun v st hst h => ?_) ?_
        · refine st_bars st _ _ H _ v (fun q hq => ⟨.inl hq.1, hq.2⟩) ⟨fun q xs hq => ?_, fun q xs fq hq => ?_⟩ h
          · exact fin q _ (ne_of hq i4 (by intro z; cases z)) (e05 q _ hq)
          · exact fin q _ fq.2 (e05 q _ hq)
        · refine st_bars _ _ _ H5 _ w (fun q hq => ⟨.inr (fresh_back e04 hq), fun z => ?_⟩) ⟨fun q xs hq => ?_, fun q xs fq hq => ?_⟩ hw5
          · subst z
            have := e04 q _ i4
            rw [show H4 q = none from hq] at this
            cases this
          · exact fin q _ (ne_of hq hsa5 (by intro z; cases z)) hq
          · refine fin q _ (fun z => ?_) hq
            subst z
            have := e04 q _ i4
            rw [show H4 q = none from fq] at this
            cases this
    · show rIs (Sw71Neutral.out (Sw71.step s' (.staff l)).2) _ _ _
      rw [hs]
      refine ⟨p, _, rfl, fresh_back e05 np5, upd_same, ?_⟩
      rw [hsv]
      exact is_of.mpr rfl
end Ps

namespace Ps
open PySem PySem.Spec PyProof.Rows L2 Evl

/-! ### begins -/
def sp_begun (CS : Addr) : Sp := fun vs H Q _ => ∃ (v0 : V) (la ba : Addr) (l b : List Nat), vs = [v0, .ref la, .ref ba] ∧ H la = some (.lst (l.map nV)) ∧ H ba = some (.lst (b.map nV)) ∧ l.length ≤ 60 ∧ b.length ≤ 60 ∧
  (isScore l b = false → ∀ H' p t, Ex H H' → H' p = some (.tup [.ref t, v0]) → H' t = some (.lst [.int (-1)]) → H t = none → Q (.ref p) H') ∧
  (isScore l b = true → ∀ H' p t x, Ex H H' → H' p = some (.tup [.ref t, .ref x]) → H' t = some (.lst [.int (l.length : Int)]) → H t = none → rSc CS ⟨l, b, []⟩ (fun q => q = la ∨ q = ba ∨ H q = none) H' (.ref x) → Q (.ref p) H')
theorem len_begun {CS vs H Q E} (h : sp_begun CS vs H Q E) : vs.length = 3 := by
  obtain ⟨v0, la, ba, l, b, rfl, _⟩ := h
  rfl
theorem ok_begun {P : Program} {w : World} {K : PySem.W.Frag} {mg : Str → Option Value} {base : Heap} {CR CS : Addr} (T : Tx K mg CR CS) (A : FunAt K mg "begun" s_begun ["score", "lengths", "breaks"]) (D_is_score : Dfn P w K mg base "is_score" 1 ["lengths", "breaks"] (sp_is_score)) (D_Score___init__ : Mki P w K mg base CS 1 ["self", "lengths", "breaks"] (sp_Score___init__ CS)) : Dfn P w K mg base "begun" 3 ["score", "lengths", "breaks"] (sp_begun CS) := by
  obtain ⟨f, fd, g, F, b⟩ := A
  obtain ⟨f_is_score, fd_is_score, g_is_score, k_is_score, b_is_score, F_is_score⟩ := D_is_score
  obtain ⟨f_Score___init__, fd_Score___init__, mk_score, b_score___init__, F_score___init__⟩ := D_Score___init__
  refine ⟨f, fd, g, F.kp, b, F.ok sc_begun (fun vs H Q E h => len_begun h) (fun cdv A outer s H vs Q E hr h => ?_)⟩
  obtain ⟨v0, la, ba, l, b, rfl, hla, hba, hl, hb60, kF, kT⟩ := h
  have g1 : rNs l Any H (.ref la) := ⟨la, _, rfl, trivial, hla, ints_of.mpr rfl⟩
  have g2 : rNs b Any H (.ref ba) := ⟨ba, _, rfl, trivial, hba, ints_of.mpr rfl⟩
  refine ⟨_, (pss_cons (ps_if (pt_not (pt_val (pe_call F_is_score (hr.mono (by decide)) (by rfl) g_is_score k_is_score b_is_score .nil pass0 (pa_cons (pv 1) (pa_cons (pv 2) pa_nil))))) (pss_one (ps_ret (pe_tup (pa_cons (pe_lst (pa_cons (pe_cn T.c_BAD) pa_nil)) (pa_cons (pv 0) pa_nil))))) pss_nil)
      (pss_one (ps_ret (pe_tup (pa_cons (pe_lst (pa_cons (pe_callB (lenS K) (by rfl) T.len PySem.boot_len (pa_cons (pv 1) pa_nil)) pa_nil)) (pa_cons (pe_make mk_score F_score___init__ (hr.mono (by decide)) (by rfl) T.g_score b_score___init__ .nil pass0 (pa_cons (pv 1) (pa_cons (pv 2) pa_nil))) pa_nil)))))), ?_⟩
  refine q_when (et_not (etb (EvR.txV (evr_call (l, b) ⟨hl, hb60⟩ st_V (xa_cons (evx_var rfl (st_ns l).mo g1) (st_ns l).mo (xa_cons (evx_var rfl (st_ns b).mo g2) (st_ns b).mo xa_nil)))))) ?_ ?_
  · intro hb H2 e
    have hf : isScore l b = false := by
      have hb : (!isScore l b) = true := hb
      cases hq : isScore l b with
      | false => rfl
      | true => rw [hq] at hb; cases hb
    refine ⟨(by show 1 ≤ sizeLine; decide), fun t nt => ⟨_, rfl, (by show 2 ≤ sizeLine; decide), fun p np => ?_⟩⟩
    have ntp : t ≠ p := fun z => by
      subst z
      rw [upd_same] at np
      cases np
    exact kF hf _ p t (e.trans ((Ex.new nt).trans (Ex.new np))) upd_same ((upd_ne ntp).trans upd_same) (fresh_back e nt)
  · intro hb H2 e
    have hf : isScore l b = true := by
      have hb : (!isScore l b) = false := hb
      cases hq : isScore l b with
      | true => rfl
      | false => rw [hq] at hb; cases hb
    refine ⟨_, rfl, la, l.map nV, rfl, .inl (SqL.of (e la _ hla)), (by show 1 ≤ sizeLine; decide), fun t nt => ⟨_, rfl, _, rfl, fun x dx nx ndx ne => ⟨x, dx, la, ba, rfl, upd_same, fun H' sa h1 nsa hsa kp => ⟨rfl, (by show 2 ≤ sizeLine; decide), fun p np => ?_⟩⟩⟩⟩
    have et := Ex.new (H := H2) (o := HO.lst [V.int ((l.map nV).length : Int)]) nt
    have eH : Ex (upd H2 t (.lst [V.int ((l.map nV).length : Int)])) H' := fun b o hb => kp b o (ne_of_none hb nx) (by rw [upd_ne (ne_of_none hb nx), upd_ne (ne_of_none hb ndx)]; exact hb)
    have ep := Ex.new (H := H') (o := HO.tup [V.ref t, V.ref x]) np
    have e02 := e.trans et
    have e0 := (e02.trans eH).trans ep
    have nsa0 : H sa = none := by
      cases hq : H sa with
      | none => rfl
      | some o =>
        have h3 := e02 sa o hq
        have nsx : sa ≠ x := fun z => by rw [z, nx] at h3; cases h3
        have nsd : sa ≠ dx := fun z => by rw [z, ndx] at h3; cases h3
        rw [upd_ne nsx, upd_ne nsd, h3] at nsa
        cases nsa
    refine kT hf _ p t x e0 upd_same ?_ (fresh_back e nt) ?_
    · have := ep t _ (eH t _ upd_same)
      rw [List.length_map] at this
      exact this
    · refine ⟨x, dx, la, ba, sa, [], rfl, ep x _ h1, .inl rfl, .inr (.inl rfl), .inr (.inr nsa0), fun z => ?_, fun z => ?_, e0 la _ hla, e0 ba _ hba, ep sa _ hsa, All2.nil⟩
      · rw [z, hla] at nsa0; cases nsa0
      · rw [z, hba] at nsa0; cases nsa0
/-! ### rows -/
def sp_rows_at (K : PySem.W.Frag) : Sp := fun vs H Q _ => ∃ (ca : Addr) (l : List Int) (p many : Nat) (rws : List (List Int)) (t : List Int), vs = [.ref ca, .int (p : Int), .int (many : Int)] ∧ SqL K H ca (l.map V.int) ∧ many ≤ 2 ∧ p ≤ l.length ∧ PyFlat.rows many (l.drop p) = some (rws, t) ∧
  ∀ H' q ra (p2 : Nat), Ex H H' → H' q = some (.tup [.ref ra, .int (p2 : Int)]) → rL (rws.map rIs) (New H) H' (.ref ra) → l.drop p2 = t → p2 ≤ l.length → Q (.ref q) H'
theorem len_rows_at {K vs H Q E} (h : sp_rows_at K vs H Q E) : vs.length = 3 := by
  obtain ⟨ca, l, p, many, rws, t, rfl, _⟩ := h
  rfl
theorem row_cases {l r t : List Int} (h : PyFlat.row l = some (r, t)) : ∃ (n : Nat) (s : List Int), l = (n : Int) :: s ∧ n ≤ s.length ∧ r = s.take n ∧ t = s.drop n := by
  cases l with
  | nil => cases h
  | cons z s =>
    have h' : (if 0 ≤ z ∧ z.toNat ≤ s.length then some (s.take z.toNat, s.drop z.toNat) else none) = some (r, t) := h
    by_cases hz : 0 ≤ z ∧ z.toNat ≤ s.length
    · rw [if_pos hz] at h'
      cases h'
      exact ⟨z.toNat, s, by rw [Int.toNat_of_nonneg hz.1], hz.2, rfl, rfl⟩
    · rw [if_neg hz] at h'
      cases h'
theorem rows_succ {k : Nat} {l t : List Int} {xs : List (List Int)} (h : PyFlat.rows (k + 1) l = some (xs, t)) : ∃ x s r, PyFlat.row l = some (x, s) ∧ PyFlat.rows k s = some (r, t) ∧ xs = x :: r := by
  have h' : (match PyFlat.row l with
    | none => none
    | some (x, s) => match PyFlat.rows k s with
      | none => none
      | some (xs, t) => some (x :: xs, t)) = some (xs, t) := h
  cases e : PyFlat.row l with
  | none => rw [e] at h'; cases h'
  | some y =>
    obtain ⟨x, s⟩ := y
    rw [e] at h'
    have h' : (match PyFlat.rows k s with
      | none => none
      | some (xs, t) => some (x :: xs, t)) = some (xs, t) := h'
    cases e2 : PyFlat.rows k s with
    | none => rw [e2] at h'; cases h'
    | some z =>
      obtain ⟨r, t2⟩ := z
      rw [e2] at h'
      cases h'
      exact ⟨x, s, r, rfl, e2, rfl⟩
theorem cut_ints (ks : List Int) (n m : Nat) : cutV (ks.map V.int) (some (n : Int)) (some (m : Int)) = ((ks.drop n).take (m - n)).map V.int := by
  unfold cutV
  rw [HT.sIx_nat, HT.sIx_nat, List.length_map, ← List.map_drop, ← List.map_take]
  congr 1
  by_cases h : n ≤ ks.length
  · rw [Nat.min_eq_left h]
    by_cases h2 : m ≤ ks.length
    · rw [Nat.min_eq_left h2]
    · rw [Nat.min_eq_right (by omega), List.take_of_length_le (by rw [List.length_drop]; exact Nat.le_refl _), List.take_of_length_le (by rw [List.length_drop]; omega)]
  · rw [List.drop_of_length_le (by omega), List.drop_of_length_le (by omega), List.take_nil, List.take_nil]
def RaInv (H : Hp) (ca D : Addr) (many : Nat) (l : List Int) (rws : List (List Int)) (t : List Int) (i : Nat) (σ' : L2.St) (H' : Hp) : Prop := ∃ (p : Nat) (y4 y5 : Option V) (ys : List V) (done rest : List (List Int)), σ' = [some (.ref ca), some (.int (p : Int)), some (.int (many : Int)), some (.ref D), y4, y5] ∧ Ex H H' ∧ H' D = some (.lst ys) ∧
  All2 (fun v (r : Rl) => r (fun q => H q = none ∧ q ≠ D) H' v) ys (done.map rIs) ∧ PyFlat.rows (many - i) (l.drop p) = some (rest, t) ∧ done ++ rest = rws ∧ p ≤ l.length ∧ done.length = i
theorem ok_rows_at {P : Program} {w : World} {K : PySem.W.Frag} {mg : Str → Option Value} {base : Heap} {CR CS : Addr} (T : Tx K mg CR CS) (A : FunAt K mg "rows_at" s_rows_at ["calls", "at", "many"]) : Dfn P w K mg base "rows_at" 1 ["calls", "at", "many"] (sp_rows_at K) := by
  obtain ⟨f, fd, g, F, b⟩ := A
  refine ⟨f, fd, g, F.kp, b, F.ok sc_rows_at (fun vs H Q E h => len_rows_at h) (fun cdv A outer s H vs Q E hr h => ?_)⟩
  obtain ⟨ca, l, p, many, rws, t, rfl, hca, hm2, hpl, hrows, k⟩ := h
  refine ⟨_, (pss_cons (ps_set (i := 3) sc_rows_at.nd rfl (Or.inl rfl) (pe_lst pa_nil))
      (pss_cons (ps_for PassesOwn.never rfl (pi_range1 (by rfl) T.range (pa_cons (pv 2) pa_nil)) (pg_name (i := 4) sc_rows_at.nd rfl (Or.inl rfl)) (pss_cons (ps_set (i := 5) sc_rows_at.nd rfl (Or.inl rfl) (pe_op op_add (pe_op op_add (pv 1) pe_int) (pe_ix (ixL K) (pv 0) (pv 1) (fun _ _ => rfl))))
        (pss_cons (ps_expr (pe_bm PySem.F.plainAttrs_list PySem.F.slot_list_append PySem.F.type_list_append mt_append (pv 3) (pa_cons (pe_slice (slL K) (pv 0) (po_some (pe_op op_add (pv 1) pe_int)) (po_some (pv 5))) pa_nil)))
        (pss_one (ps_set (i := 1) sc_rows_at.nd rfl (Or.inl rfl) (pv 5))))))
      (pss_one (ps_ret (pe_tup (pa_cons (pv 3) (pa_cons (pv 1) pa_nil))))))), ?_⟩
  refine q_asgR evr_nilL fun D H1 e1 hD => ?_
  obtain ⟨D, vs, rfl, nD, hD, al⟩ := hD
  cases al.un_nil
  refine q_forR1 (n := (many : Int)) (EvXA.ea (vs := [.int (many : Int)]) (xa_cons (evv_var rfl) st_V.mo xa_nil)) (by omega) (RaInv H ca D many l rws t) ?_ ?_ ?_
  · exact fun H2 e2 => ⟨p, none, none, [], [], rws, rfl, e1.trans e2, e2 D _ hD, All2.nil, hrows, rfl, hpl, rfl⟩
  · rintro i σ' H' hi ⟨q, y4, y5, ys, done, rest, rfl, e, hD', al3, hr, hdr, hq, hdl⟩
    have hi' : i < many := by omega
    rw [show many - i = (many - (i + 1)) + 1 by omega] at hr
    obtain ⟨x, s, r, h1, h2, rfl⟩ := rows_succ hr
    obtain ⟨n, s2, h3, h4, rfl, rfl⟩ := row_cases h1
    have hlen : s2.length + 1 + q = l.length := by
      have := congrArg List.length h3
      rw [List.length_drop, List.length_cons] at this
      omega
    have hs2 : s2 = l.drop (q + 1) := by
      have := congrArg (fun z => z.drop 1) h3
      simpa [List.drop_drop, Nat.add_comm] using this.symm
    have hn : l[q]? = some (n : Int) := by
      have := congrArg (fun z => z[0]?) h3
      simpa using this
    have hca' : SqL K H' ca (l.map V.int) := ex_l e hca
    refine q_asgX (r := rN (q + 1 + n)) ?_ fun z H2 e2 hz => ?_
    · intro Ha ea Qa qa
      refine ⟨_, rfl, _, _, rfl, rfl, _, rfl, _, rfl, ca, l.map V.int, _, .int (n : Int), rfl, rfl, ex_l ea hca', atI_of (j := q) rfl (by rw [List.getElem?_map, hn]; rfl), _, _, rfl, rfl, qa _ Ha (Ex.refl Ha) rfl⟩
    · cases hz
      have hca2 : SqL K H2 ca (l.map V.int) := ex_l e2 hca'
      refine q_appR (r := rIs (s2.take n)) (e2 D _ hD') (ev_var rfl) ?_ (st_is _) ?_ fun v H3 e3 hv => ?_
      · intro Ha ea Qa qa
        refine ⟨_, rfl, _, rfl, _, _, rfl, rfl, _, rfl, _, rfl, _, rfl, ca, l.map V.int, rfl, ex_l ea hca2, fun w nw => qa _ _ (Ex.new nw) ⟨w, _, rfl, nw, upd_same, ?_⟩⟩
        refine is_of.mpr ?_
        rw [hs2]
        have := cut_ints l (q + 1) (q + 1 + n)
        rw [Nat.add_sub_cancel_left] at this
        exact this
      · rw [al3.1, List.length_map]
        exact sz_lt (by omega)
      · refine s_asgX (evv_var rfl) fun z H4 e4 hz => ?_
        cases hz
        have e03 := e.trans (e2.trans e3)
        have hD3 := e3 D _ (e2 D _ hD')
        refine ⟨q + 1 + n, _, _, ys ++ [v], done ++ [s2.take n], r, rfl, (Ex.mut e03 nD).trans e4, e4 D _ upd_same, ?_, ?_, ?_, by omega, by rw [List.length_append, hdl]; rfl⟩
        · have := keep_D (zs := ys ++ [v]) (ys := ys) (F := fun q => H q = none ∧ q ≠ D) (rs := done.map rIs ++ [rIs (s2.take n)]) (vs := ys ++ [v]) ?_ hD3 (fun a h => h.2) (All2.snoc (al3.mono fun v r hr h => (st_map st_is r hr).ex (e2.trans e3) h) ?_)
          · rw [List.map_append]
            exact this.mono fun v r hr h => St.ex (by
              rcases List.mem_append.mp hr with hr | hr
              · exact st_map st_is r hr
              · exact one_st (st_is _) r hr) e4 h
          · intro r hr
            rcases List.mem_append.mp hr with hr | hr
            · exact st_map st_is r hr
            · exact one_st (st_is _) r hr
          · refine st_is _ _ _ H3 H3 v (fun p hp => ⟨fresh_back (e.trans e2) hp, fun z => ?_⟩) Tr.rf hv
            subst z
            have := e2 p _ hD'
            rw [show H2 p = none from hp] at this
            cases this
        · have : l.drop (q + 1 + n) = s2.drop n := by rw [hs2, List.drop_drop]
          rw [this]
          exact h2
        · rw [← hdr, List.append_assoc]
          rfl
  · rintro σ' H' ⟨q, y4, y5, ys, done, rest, rfl, e, hD', al3, hr, hdr, hq, hdl⟩
    rw [Int.toNat_natCast, Nat.sub_self] at hr
    have hr : some (([] : List (List Int)), l.drop q) = some (rest, t) := hr
    cases hr
    rw [List.append_nil] at hdr
    subst hdr
    refine ⟨_, rfl, _, rfl, (by show 2 ≤ sizeLine; decide), fun p np => ?_⟩
    refine k _ p D q (e.trans (Ex.new np)) upd_same ⟨D, ys, rfl, nD, (Ex.new np) D _ hD', al3.mono fun v r hr h => st_map st_is r hr _ _ H' _ v (fun p hp => hp.1) (Tr.ex (Ex.new np)) h⟩ rfl hq
/-! ### one call -/
inductive Dec : Nat → List Int → List (List Int) → Sw71.Call → Prop
  | staff {r rest : List Int} {bars : List Sw71.Bar} (h : Sw71Neutral.listIn Sw71Neutral.barIn r = some (bars, rest)) : Dec 1 [] [r] (.staff bars)
  | staves (k : Nat) : Dec 2 [(k : Int)] [] (.staves k)
  | draw (least : Nat) {ks : List Nat} (h : ks.length ≤ 60) : Dec 3 [(least : Int)] [ks.map fun (n : Nat) => (n : Int)] (.draw ks least)
  | back (m : Nat) {r rest : List Int} {ps : List Sw71.Piece} (h : Sw71Neutral.listIn Sw71Neutral.pieceIn r = some (ps, rest)) : Dec 4 [(m : Int)] [r] (.back m ps)
  | two (a b : Nat) : Dec 5 [(a : Int), (b : Int)] [] (.two a b)
  | parted {r rest : List Int} {l : List Sw71.Both} (h : Sw71Neutral.listIn Sw71Neutral.bothIn r = some (l, rest)) : Dec 6 [] [r] (.parted l)
theorem step_draw (s : Sw71.Score) (ks : List Nat) (least : Nat) : (Sw71.step s (.draw ks least)).1 = s := by
  show (if (ks.all fun k => decide (k < s.staves.length)) = false then (s, Sw71.ok (-2)) else if (ks.isEmpty || !Sw71.unlike ks) = true then (s, Sw71.ok (-1)) else (s, _)).1 = s
  split
  · rfl
  · split <;> rfl
theorem step_back (s : Sw71.Score) (m : Nat) (l : List Sw71.Piece) : (Sw71.step s (.back m l)).1 = s := by
  show (if m < 1 ∨ Sw71.STAVES < m ∨ Sw71.pieceOk s m 0 l = false then (s, Sw71.ok (-1)) else (s, _)).1 = s
  split <;> rfl
theorem step_two (s : Sw71.Score) (a b : Nat) : (Sw71.step s (.two a b)).1 = s := by
  show (if s.staves.length ≤ a ∨ s.staves.length ≤ b then (s, Sw71.ok (-2)) else (s, _)).1 = s
  split <;> rfl
def sp_answer (CS : Addr) : Sp := spA CS (fun x : Nat × List Int × List (List Int) × Sw71.Call => [rN x.1, rIs x.2.1, rL (x.2.2.1.map rIs)]) (fun x => Dec x.1 x.2.1 x.2.2.1 x.2.2.2) (fun x => x.2.2.2)
theorem len_answer {CS vs H Q E} (h : sp_answer CS vs H Q E) : vs.length = 4 := len_A (fun _ => rfl) h
section
variable {K : PySem.W.Frag} {σ : L2.St} {H : Hp} {i : Nat} {v : V}
theorem evx_some {ns : List Int} {j : Nat} {n : Int} (hs : σ[i]? = some (some v)) (h : rIs ns Any H v) (hj : ns[j]? = some n) : EvX (tOp (rIxL K) (tVar i) (tC (.int (j : Int)))) σ H (rI n) :=
  evx_ixL (j := j) (evx_var hs (st_is ns).mo h) evx_c rfl (by rw [List.getElem?_map, hj]; rfl) (mo_map fun _ => st_V.mo)
theorem evx_row {rs : List (List Int)} {j : Nat} {r : List Int} (hs : σ[i]? = some (some v)) (h : rL (rs.map rIs) Any H v) (hj : rs[j]? = some r) : EvX (tOp (rIxL K) (tVar i) (tC (.int (j : Int)))) σ H (rIs r) :=
  evx_ixL (j := j) (evx_var hs (st_L (st_map st_is)).mo h) evx_c rfl (by rw [List.getElem?_map, hj]; rfl) (mo_map fun r => (st_is r).mo)
end
theorem ok_answer {P : Program} {w : World} {K : PySem.W.Frag} {mg : Str → Option Value} {base : Heap} {CR CS : Addr} (T : Tx K mg CR CS) (A : FunAt K mg "answer" s_answer ["score", "call", "some", "rows"]) (D_add_staff : Dfn P w K mg base "add_staff" 5 ["score", "row"] (sp_add_staff CS)) (D_staff_told : Dfn P w K mg base "staff_told" 3 ["score", "k"] (sp_staff_told CS)) (D_draw : Dfn P w K mg base "draw" 5 ["score", "least", "part"] (sp_draw CS)) (D_put_back : Dfn P w K mg base "put_back" 7 ["score", "m", "row"] (sp_put_back CS)) (D_two : Dfn P w K mg base "two" 4 ["score", "a", "b"] (sp_two CS)) (D_parted_told : Dfn P w K mg base "parted_told" 6 ["score", "row"] (sp_parted_told CS)) : Dfn P w K mg base "answer" 8 ["score", "call", "some", "rows"] (sp_answer CS) := by
  obtain ⟨f, fd, g, F, b⟩ := A
  obtain ⟨f_add_staff, fd_add_staff, g_add_staff, k_add_staff, b_add_staff, F_add_staff⟩ := D_add_staff
  obtain ⟨f_staff_told, fd_staff_told, g_staff_told, k_staff_told, b_staff_told, F_staff_told⟩ := D_staff_told
  obtain ⟨f_draw, fd_draw, g_draw, k_draw, b_draw, F_draw⟩ := D_draw
  obtain ⟨f_put_back, fd_put_back, g_put_back, k_put_back, b_put_back, F_put_back⟩ := D_put_back
  obtain ⟨f_two, fd_two, g_two, k_two, b_two, F_two⟩ := D_two
  obtain ⟨f_parted_told, fd_parted_told, g_parted_told, k_parted_told, b_parted_told, F_parted_told⟩ := D_parted_told
  refine ⟨f, fd, g, F.kp, b, F.ok sc_answer (fun vs H Q E h => len_answer h) (fun cdv A outer s H vs Q E hr h => ?_)⟩
  obtain ⟨F0, s', ⟨c, nums, rows, call⟩, v0, vr, rfl, h0, al, hw, hdec, k⟩ := h
  replace hdec : Dec c nums rows call := hdec
  obtain ⟨v1, _, rfl, h1, al⟩ := al.un_cons
  obtain ⟨v2, _, rfl, h2, al⟩ := al.un_cons
  obtain ⟨v3, _, rfl, h3, al⟩ := al.un_cons
  cases al.un_nil
  cases h1
  have ms := mo_sc CS s'
  have h0a := sc_any h0
  replace h2 : rIs nums Any H v2 := h2
  replace h3 : rL (rows.map rIs) Any H v3 := h3
  have mn := (st_is nums).mo
  have mr := (st_L (st_map (l := rows) st_is)).mo
  refine ⟨_, (pss_cons (ps_if (pt_cmpR op_eq (pv 1) pe_int (nomark _)) (pss_one (ps_ret (pe_call F_add_staff (hr.mono (by decide)) (by rfl) g_add_staff k_add_staff b_add_staff .nil pass0 (pa_cons (pv 0) (pa_cons (pe_ix (ixL K) (pv 3) pe_int (fun _ _ => rfl)) pa_nil))))) pss_nil)
      (pss_cons (ps_if (pt_cmpR op_eq (pv 1) pe_int (nomark _)) (pss_one (ps_ret (pe_call F_staff_told (hr.mono (by decide)) (by rfl) g_staff_told k_staff_told b_staff_told .nil pass0 (pa_cons (pv 0) (pa_cons (pe_ix (ixL K) (pv 2) pe_int (fun _ _ => rfl)) pa_nil))))) pss_nil)
      (pss_cons (ps_if (pt_cmpR op_eq (pv 1) pe_int (nomark _)) (pss_one (ps_ret (pe_call F_draw (hr.mono (by decide)) (by rfl) g_draw k_draw b_draw .nil pass0 (pa_cons (pv 0) (pa_cons (pe_ix (ixL K) (pv 2) pe_int (fun _ _ => rfl)) (pa_cons (pe_ix (ixL K) (pv 3) pe_int (fun _ _ => rfl)) pa_nil)))))) pss_nil)
      (pss_cons (ps_if (pt_cmpR op_eq (pv 1) pe_int (nomark _)) (pss_one (ps_ret (pe_call F_put_back (hr.mono (by decide)) (by rfl) g_put_back k_put_back b_put_back .nil pass0 (pa_cons (pv 0) (pa_cons (pe_ix (ixL K) (pv 2) pe_int (fun _ _ => rfl)) (pa_cons (pe_ix (ixL K) (pv 3) pe_int (fun _ _ => rfl)) pa_nil)))))) pss_nil)
      (pss_cons (ps_if (pt_cmpR op_eq (pv 1) pe_int (nomark _)) (pss_one (ps_ret (pe_call F_two (hr.mono (by decide)) (by rfl) g_two k_two b_two .nil pass0 (pa_cons (pv 0) (pa_cons (pe_ix (ixL K) (pv 2) pe_int (fun _ _ => rfl)) (pa_cons (pe_ix (ixL K) (pv 2) pe_int (fun _ _ => rfl)) pa_nil)))))) pss_nil)
      (pss_one (ps_ret (pe_call F_parted_told (hr.mono (by decide)) (by rfl) g_parted_told k_parted_told b_parted_told .nil pass0 (pa_cons (pv 0) (pa_cons (pe_ix (ixL K) (pv 3) pe_int (fun _ _ => rfl)) pa_nil)))))))))), ?_⟩
  have tq : ∀ {H' : Hp} {d : Nat}, EvT (tTest (tOp rEq (tVar 1) (tC (.int (d : Int))))) (start N_answer [v0, .int (c : Int), v2, v3]) H' (decide (c = d)) := fun {H' d} => et_is (ett (evx_eq (evv_var rfl) evx_c rfl)) (decV _ _)
  have pure : ∀ {H' : Hp} {v : V} {H2 : Hp}, (Sw71.step s' call).1 = s' → Ex H H2 → Ex H2 H' → rIs (ansOf s' call) (New H2) H' v → Q v H' := fun hs e e2 hv => k _ _ (Keep.ex (e.trans e2)) (by
    show rSc CS (Sw71.step s' call).1 _ _ _
    rw [hs]
    exact sc_ex (e.trans e2) (fun _ z => .inl z) h0) ((st_is _).back e hv)
  have skip : ∀ {t : TT} {tu tz : TS} {d : Nat} {H' : Hp} {D : Ends}, EvT t (start N_answer [v0, .int (c : Int), v2, v3]) H' (decide (c = d)) → c ≠ d → (∀ H2, Ex H' H2 → tz D (start N_answer [v0, .int (c : Int), v2, v3]) H2) → tSeq (tIfS t tu tNext) tz D (start N_answer [v0, .int (c : Int), v2, v3]) H' := fun ht hn hz => q_when ht (fun z => absurd (of_decide_eq_true z) hn) fun _ H2 e => hz H2 e
  have take : ∀ {t : TT} {tu tz : TS} {d : Nat} {H' : Hp} {D : Ends}, EvT t (start N_answer [v0, .int (c : Int), v2, v3]) H' (decide (c = d)) → c = d → (∀ H2, Ex H' H2 → tu { D with nx := tz D } (start N_answer [v0, .int (c : Int), v2, v3]) H2) → tSeq (tIfS t tu tNext) tz D (start N_answer [v0, .int (c : Int), v2, v3]) H' := fun ht hn hz => q_when ht (fun _ H2 e => hz H2 e) (fun z => absurd hn (of_decide_eq_false z))
  cases hdec with
  | staff hr =>
    refine take (tq (d := 1)) rfl fun H2 e => ?_
    obtain ⟨q, hrow⟩ : ∃ q, q = evx_row (K := K) (j := 0) (σ := start N_answer [v0, .int ((1 : Nat) : Int), v2, v3]) (i := 3) rfl (mr _ _ v3 e h3) rfl := ⟨_, rfl⟩
    refine ⟨_, rfl, q H2 (Ex.refl H2) _ fun w H3 e3 hw3 => ?_⟩
    refine ⟨F0, s', (_, _, _), v0, [w], rfl, sc_ex (e.trans e3) (fun _ z => z) h0, All2.cons hw3 All2.nil, hw, hr, fun H' v kp sc hv => ?_⟩
    exact k H' v (fun b o nb hb => kp b o nb ((e.trans e3) b o hb)) (by
      obtain ⟨a, dx, la, ba, sa, svs, rfl, i1, f1, f2, f3, n1, n2, i2, i3, i4, ial⟩ := sc
      have wk : ∀ p, (F0 p ∨ H3 p = none) → (F0 p ∨ H p = none) := fun p hp => hp.imp (fun z => z) (fun z => fresh_back (e.trans e3) z)
      exact ⟨a, dx, la, ba, sa, svs, rfl, i1, wk _ f1, wk _ f2, wk _ f3, n1, n2, i2, i3, i4, ial.mono fun v l _ h => st_bars l _ _ H' H' v (fun p hp => ⟨wk _ hp.1, hp.2⟩) Tr.rf h⟩) ((st_is _).back (e.trans e3) hv)
  | staves kk =>
    refine skip (tq (d := 1)) (by decide) fun H2 e => ?_
    refine take (tq (d := 2)) rfl fun H3 e3 => ?_
    have e03 := e.trans e3
    exact s_retR (evr_call (s', kk) hw (st_is _) (xa_cons (evx_var rfl ms (ms _ _ v0 e03 h0a)) ms (xa_cons (evx_some (j := 0) rfl (mn _ _ v2 e03 h2) rfl) st_V.mo xa_nil))) fun v H4 e4 hv => pure rfl e03 e4 hv
  | draw least hk =>
    refine skip (tq (d := 1)) (by decide) fun H2 e => ?_
    refine skip (tq (d := 2)) (by decide) fun H3 e3 => ?_
    refine take (tq (d := 3)) rfl fun H4 e4 => ?_
    have e04 := e.trans (e3.trans e4)
    exact s_retR (evr_call (s', least, _) ⟨hw, hk⟩ (st_is _) (xa_cons (evx_var rfl ms (ms _ _ v0 e04 h0a)) ms (xa_cons (evx_some (j := 0) rfl (mn _ _ v2 e04 h2) rfl) st_V.mo (xa_cons ((evx_row (j := 0) rfl (mr _ _ v3 e04 h3) rfl).is (rNs_is _).symm) (st_ns _).mo xa_nil)))) fun v H5 e5 hv => pure (step_draw _ _ _) e04 e5 hv
  | back m hr =>
    refine skip (tq (d := 1)) (by decide) fun H2 e => ?_
    refine skip (tq (d := 2)) (by decide) fun H3 e3 => ?_
    refine skip (tq (d := 3)) (by decide) fun H4 e4 => ?_
    refine take (tq (d := 4)) rfl fun H5 e5 => ?_
    have e05 := e.trans (e3.trans (e4.trans e5))
    exact s_retR (evr_call (s', m, _, _, _) ⟨hw, hr⟩ (st_is _) (xa_cons (evx_var rfl ms (ms _ _ v0 e05 h0a)) ms (xa_cons (evx_some (j := 0) rfl (mn _ _ v2 e05 h2) rfl) st_V.mo (xa_cons (evx_row (j := 0) rfl (mr _ _ v3 e05 h3) rfl) (st_is _).mo xa_nil)))) fun v H6 e6 hv => pure (step_back _ _ _) e05 e6 hv
  | two a b =>
    refine skip (tq (d := 1)) (by decide) fun H2 e => ?_
    refine skip (tq (d := 2)) (by decide) fun H3 e3 => ?_
    refine skip (tq (d := 3)) (by decide) fun H4 e4 => ?_
    refine skip (tq (d := 4)) (by decide) fun H5 e5 => ?_
    refine take (tq (d := 5)) rfl fun H6 e6 => ?_
    have e06 := e.trans (e3.trans (e4.trans (e5.trans e6)))
    exact s_retR (evr_call (s', a, b) hw (st_is _) (xa_cons (evx_var rfl ms (ms _ _ v0 e06 h0a)) ms (xa_cons (evx_some (j := 0) rfl (mn _ _ v2 e06 h2) rfl) st_V.mo (xa_cons (evx_some (j := 1) rfl (mn _ _ v2 e06 h2) rfl) st_V.mo xa_nil)))) fun v H7 e7 hv => pure (step_two _ _ _) e06 e7 hv
  | parted hr =>
    refine skip (tq (d := 1)) (by decide) fun H2 e => ?_
    refine skip (tq (d := 2)) (by decide) fun H3 e3 => ?_
    refine skip (tq (d := 3)) (by decide) fun H4 e4 => ?_
    refine skip (tq (d := 4)) (by decide) fun H5 e5 => ?_
    refine skip (tq (d := 5)) (by decide) fun H6 e6 => ?_
    have e06 := e.trans (e3.trans (e4.trans (e5.trans e6)))
    exact s_retR (evr_call (s', _, _, _) ⟨hw, hr⟩ (st_is _) (xa_cons (evx_var rfl ms (ms _ _ v0 e06 h0a)) ms (xa_cons (evx_row (j := 0) rfl (mr _ _ v3 e06 h3) rfl) (st_is _).mo xa_nil))) fun v H7 e7 hv => pure rfl e06 e7 hv
end Ps

namespace Ps
open PySem PySem.Spec PyProof.Rows L2 Evl

/-! ### the calls' numbers, plain -/
def toI (ks : List Nat) : List Int := ks.map fun (n : Nat) => (n : Int)
theorem many_nats : ∀ {k : Nat} {l l' : List Int} {xs : List Nat}, Sw71Neutral.many_ Sw71Neutral.natIn k l = some (xs, l') → l = toI xs ++ l' ∧ xs.length = k
  | 0, _, _, _, h => by
    obtain ⟨rfl, rfl⟩ := many_zero h
    exact ⟨rfl, rfl⟩
  | k + 1, _, _, _, h => by
    obtain ⟨x, r, l2, rfl, h1, h2⟩ := many_succ h
    obtain ⟨rfl, _⟩ := nat_cases h1
    obtain ⟨rfl, h3⟩ := many_nats h2
    exact ⟨rfl, by rw [List.length_cons, h3]⟩
theorem row_nats {n : Nat} {l l' : List Int} {xs : List Nat} (h : Sw71Neutral.rowIn ((n : Int) :: l) = some (xs, l')) : l = toI xs ++ l' ∧ xs.length = n ∧ n ≤ 60 := by
  obtain ⟨m, r, h1, h2, h3⟩ := list_cases h
  cases h1
  obtain ⟨h4, h5⟩ := many_nats h3
  exact ⟨h4, h5, h2⟩
theorem len_toI (ks : List Nat) : (toI ks).length = ks.length := List.length_map _
theorem row_front {r0 l2 l' : List Int} {xs : List Nat} (h : Sw71Neutral.rowIn ((r0.length : Int) :: (r0 ++ l2)) = some (xs, l')) : r0 = toI xs ∧ l' = l2 ∧ xs.length ≤ 60 := by
  obtain ⟨h1, h2, h3⟩ := row_nats h
  have hl : r0.length = (toI xs).length := by rw [len_toI, h2]
  have := List.append_inj h1 hl
  exact ⟨this.1, this.2.symm, by omega⟩
theorem all_some {A : Type} {x : Option (A × List Int)} {y : A} (h : Sw71Neutral.all_ x = some y) : x = some (y, []) := by
  cases x with
  | none => cases h
  | some z =>
    obtain ⟨a, l⟩ := z
    have h' : (if l.isEmpty = true then some a else none) = some y := h
    cases l with
    | nil => cases h'; rfl
    | cons b r => cases h'
theorem bind_some {A B : Type} {x : Option A} {f : A → Option B} {y : B} (h : x.bind f = some y) : ∃ a, x = some a ∧ f a = some y := by
  cases x with
  | none => cases h
  | some a => exact ⟨a, rfl, h⟩
theorem map_some {A B : Type} {x : Option A} {f : A → B} {y : B} (h : x.map f = some y) : ∃ a, x = some a ∧ f a = y := by
  cases x with
  | none => cases h
  | some a => cases h; exact ⟨a, rfl, rfl⟩
def sh (c : Nat) : Nat × Nat := if c = 0 then (0, 2) else if c = 1 then (0, 1) else if c = 2 then (1, 0) else if c = 3 then (1, 1) else if c = 4 then (1, 1) else if c = 5 then (2, 0) else (0, 1)
theorem shape_cases {p : Int} {n k : Nat} (h : PySw71.shape p = some (n, k)) : ∃ c : Nat, p = (c : Int) ∧ c ≤ 6 ∧ sh c = (n, k) := by
  unfold PySw71.shape at h
  by_cases h0 : p = 0
  · rw [if_pos h0] at h; cases h; exact ⟨0, h0, by decide, rfl⟩
  rw [if_neg h0] at h
  by_cases h1 : p = 1
  · rw [if_pos h1] at h; cases h; exact ⟨1, h1, by decide, rfl⟩
  rw [if_neg h1] at h
  by_cases h2 : p = 2
  · rw [if_pos h2] at h; cases h; exact ⟨2, h2, by decide, rfl⟩
  rw [if_neg h2] at h
  by_cases h3 : p = 3
  · rw [if_pos h3] at h; cases h; exact ⟨3, h3, by decide, rfl⟩
  rw [if_neg h3] at h
  by_cases h4 : p = 4
  · rw [if_pos h4] at h; cases h; exact ⟨4, h4, by decide, rfl⟩
  rw [if_neg h4] at h
  by_cases h5 : p = 5
  · rw [if_pos h5] at h; cases h; exact ⟨5, h5, by decide, rfl⟩
  rw [if_neg h5] at h
  by_cases h6 : p = 6
  · rw [if_pos h6] at h; cases h; exact ⟨6, h6, by decide, rfl⟩
  rw [if_neg h6] at h
  cases h
theorem rows_len : ∀ {k : Nat} {l t : List Int} {xs : List (List Int)}, PyFlat.rows k l = some (xs, t) → xs.length = k
  | 0, _, _, _, h => by cases h; rfl
  | k + 1, _, _, _, h => by
    obtain ⟨x, s, r, _, h2, rfl⟩ := rows_succ h
    rw [List.length_cons, rows_len h2]
/-- the call of the numbers -/
def callW (c : List (List Int)) : Option Sw71.Call := Sw71Neutral.callOf ((PySw71.whole c).headD [])
theorem one_row {rows : List (List Int)} (h : rows.length = 1) : ∃ r, rows = [r] := by
  match rows, h with
  | [r], _ => exact ⟨r, rfl⟩
theorem two_rows {rows : List (List Int)} (h : rows.length = 2) : ∃ r s, rows = [r, s] := by
  match rows, h with
  | [r, s], _ => exact ⟨r, s, rfl⟩
theorem one_num {ns : List Int} (h : ns.length = 1) : ∃ r, ns = [r] := by
  match ns, h with
  | [r], _ => exact ⟨r, rfl⟩
theorem two_nums {ns : List Int} (h : ns.length = 2) : ∃ r s, ns = [r, s] := by
  match ns, h with
  | [r, s], _ => exact ⟨r, s, rfl⟩
theorem dec_begins {rows : List (List Int)} {x : Sw71.Call} (hr : rows.length = 2) (h : callW ([(0 : Int)] :: rows) = some x) : ∃ l b, rows = [toI l, toI b] ∧ x = .begins l b ∧ l.length ≤ 60 ∧ b.length ≤ 60 := by
  obtain ⟨r0, r1, rfl⟩ := two_rows hr
  have h' : Sw71Neutral.all_ ((Sw71Neutral.rowIn ((r0.length : Int) :: (r0 ++ ((r1.length : Int) :: r1)))).bind fun a => (Sw71Neutral.rowIn a.2).map fun b => (Sw71.Call.begins a.1 b.1, b.2)) = some x := by
    have e : (PySw71.whole [[0], r0, r1]).headD [] = 0 :: ((r0.length : Int) :: (r0 ++ ((r1.length : Int) :: r1))) := by
      show [(0 : Int)] ++ [(r0.length : Int)] ++ r0 ++ [(r1.length : Int)] ++ r1 = _
      simp
    unfold callW at h
    rw [e] at h
    exact h
  obtain ⟨a, h1, h2⟩ := bind_some (all_some h')
  obtain ⟨b, h3, h4⟩ := map_some h2
  obtain ⟨a1, a2⟩ := a
  obtain ⟨b1, b2⟩ := b
  obtain ⟨e1, rfl, e3⟩ := row_front h1
  have h3' : Sw71Neutral.rowIn ((r1.length : Int) :: (r1 ++ [])) = some (b1, b2) := by rw [List.append_nil]; exact h3
  obtain ⟨e4, _, e5⟩ := row_front h3'
  cases h4
  exact ⟨a1, b1, by rw [e1, e4], rfl, e3, e5⟩
theorem dec_other {c : Nat} {nums : List Int} {rows : List (List Int)} {x : Sw71.Call} (h0 : c ≠ 0) (hc : c ≤ 6) (hs : sh c = (nums.length, rows.length)) (h : callW (((c : Int) :: nums) :: rows) = some x) : Dec c nums rows x := by
  rcases (by omega : c = 1 ∨ c = 2 ∨ c = 3 ∨ c = 4 ∨ c = 5 ∨ c = 6) with rfl | rfl | rfl | rfl | rfl | rfl
  · obtain ⟨hn, hr⟩ := Prod.mk.inj hs
    have := List.eq_nil_of_length_eq_zero hn.symm
    subst this
    obtain ⟨r, rfl⟩ := one_row hr.symm
    have h' : (Sw71Neutral.all_ (Sw71Neutral.listIn Sw71Neutral.barIn r)).map .staff = some x := h
    obtain ⟨a, h1, rfl⟩ := map_some h'
    exact .staff (all_some h1)
  · obtain ⟨hn, hr⟩ := Prod.mk.inj hs
    obtain ⟨k, rfl⟩ := one_num hn.symm
    have := List.eq_nil_of_length_eq_zero hr.symm
    subst this
    have h' : (if 0 ≤ k ∧ k < 2 ^ 32 then some (Sw71.Call.staves k.toNat) else none) = some x := h
    by_cases hk : 0 ≤ k ∧ k < 2 ^ 32
    · rw [if_pos hk] at h'
      cases h'
      have := Dec.staves k.toNat
      rw [Int.toNat_of_nonneg hk.1] at this
      exact this
    · rw [if_neg hk] at h'
      cases h'
  · obtain ⟨hn, hr⟩ := Prod.mk.inj hs
    obtain ⟨k, rfl⟩ := one_num hn.symm
    obtain ⟨r, rfl⟩ := one_row hr.symm
    have h' : Sw71Neutral.all_ ((Sw71Neutral.rowIn ((r.length : Int) :: (r ++ [k]))).bind fun a => (Sw71Neutral.natIn a.2).map fun b => (Sw71.Call.draw a.1 b.1, b.2)) = some x := by
      have e : (PySw71.whole [[3, k], r]).headD [] = 3 :: ((r.length : Int) :: (r ++ [k])) := by
        show [(3 : Int)] ++ [(r.length : Int)] ++ r ++ [k] = _
        simp
      unfold callW at h
      rw [show (((3 : Nat) : Int) :: [k]) :: [r] = [[3, k], r] from rfl, e] at h
      exact h
    obtain ⟨a, h1, h2⟩ := bind_some (all_some h')
    obtain ⟨b, h3, h4⟩ := map_some h2
    obtain ⟨a1, a2⟩ := a
    obtain ⟨b1, b2⟩ := b
    obtain ⟨e1, rfl, e3⟩ := row_front h1
    obtain ⟨e4, _⟩ := nat_cases h3
    cases h4
    cases e4
    rw [e1]
    exact .draw b1 e3
  · obtain ⟨hn, hr⟩ := Prod.mk.inj hs
    obtain ⟨k, rfl⟩ := one_num hn.symm
    obtain ⟨r, rfl⟩ := one_row hr.symm
    have h' : Sw71Neutral.all_ ((Sw71Neutral.natIn (k :: r)).bind fun m => (Sw71Neutral.listIn Sw71Neutral.pieceIn m.2).map fun p => (Sw71.Call.back m.1 p.1, p.2)) = some x := h
    obtain ⟨a, h1, h2⟩ := bind_some (all_some h')
    obtain ⟨b, h3, h4⟩ := map_some h2
    obtain ⟨a1, a2⟩ := a
    obtain ⟨b1, b2⟩ := b
    obtain ⟨e4, _⟩ := nat_cases h1
    cases e4
    cases h4
    exact .back a1 h3
  · obtain ⟨hn, hr⟩ := Prod.mk.inj hs
    obtain ⟨k, m, rfl⟩ := two_nums hn.symm
    have := List.eq_nil_of_length_eq_zero hr.symm
    subst this
    have h' : Sw71Neutral.all_ ((Sw71Neutral.natIn [k, m]).bind fun a => (Sw71Neutral.natIn a.2).map fun b => (Sw71.Call.two a.1 b.1, b.2)) = some x := h
    obtain ⟨a, h1, h2⟩ := bind_some (all_some h')
    obtain ⟨b, h3, h4⟩ := map_some h2
    obtain ⟨a1, a2⟩ := a
    obtain ⟨b1, b2⟩ := b
    obtain ⟨e4, _⟩ := nat_cases h1
    cases e4
    obtain ⟨e5, _⟩ := nat_cases h3
    cases e5
    cases h4
    exact .two a1 b1
  · obtain ⟨hn, hr⟩ := Prod.mk.inj hs
    have := List.eq_nil_of_length_eq_zero hn.symm
    subst this
    obtain ⟨r, rfl⟩ := one_row hr.symm
    have h' : (Sw71Neutral.all_ (Sw71Neutral.listIn Sw71Neutral.bothIn r)).map .parted = some x := h
    obtain ⟨a, h1, rfl⟩ := map_some h'
    exact .parted (all_some h1)
theorem calls_cons {f : Nat} {p : Int} {r : List Int} {cs : List (List (List Int))} (h : PyFlat.calls PySw71.shape f (p :: r) = some cs) :
    ∃ (f' n k : Nat) (xs : List (List Int)) (t : List Int) (cs' : List (List (List Int))), PySw71.shape p = some (n, k) ∧ n ≤ r.length ∧ PyFlat.rows k (r.drop n) = some (xs, t) ∧ PyFlat.calls PySw71.shape f' t = some cs' ∧ cs = ((p :: r.take n) :: xs) :: cs' := by
  cases f with
  | zero => cases h
  | succ f =>
    have h' : (match PyFlat.call PySw71.shape (p :: r) with
      | none => none
      | some (c, t) => match PyFlat.calls PySw71.shape f t with
        | none => none
        | some cs => some (c :: cs)) = some cs := h
    cases e : PyFlat.call PySw71.shape (p :: r) with
    | none => rw [e] at h'; cases h'
    | some y =>
      obtain ⟨c, t⟩ := y
      rw [e] at h'
      have h' : (match PyFlat.calls PySw71.shape f t with
        | none => none
        | some cs => some (c :: cs)) = some cs := h'
      cases e2 : PyFlat.calls PySw71.shape f t with
      | none => rw [e2] at h'; cases h'
      | some cs' =>
        rw [e2] at h'
        cases h'
        have e' : (match PySw71.shape p with
          | none => none
          | some (n, k) => if r.length < n then none else match PyFlat.rows k (r.drop n) with
            | none => none
            | some (xs, t) => some ((p :: r.take n) :: xs, t)) = some (c, t) := e
        cases e3 : PySw71.shape p with
        | none => rw [e3] at e'; cases e'
        | some z =>
          obtain ⟨n, k⟩ := z
          rw [e3] at e'
          have e' : (if r.length < n then none else match PyFlat.rows k (r.drop n) with
            | none => none
            | some (xs, t) => some ((p :: r.take n) :: xs, t)) = some (c, t) := e'
          by_cases hn : r.length < n
          · rw [if_pos hn] at e'; cases e'
          · rw [if_neg hn] at e'
            cases e4 : PyFlat.rows k (r.drop n) with
            | none => rw [e4] at e'; cases e'
            | some w =>
              obtain ⟨xs, t2⟩ := w
              rw [e4] at e'
              cases e'
              exact ⟨f, n, k, xs, t, cs', rfl, by omega, e4, e2, rfl⟩
/-- what is answered to the calls that are left -/
def toldFrom (s : Sw71.Score) (cs : List (List (List Int))) : List Int := PyFlat.told (PyFlat.played (fun s c => Sw71Neutral.step s (c.headD [])) s (cs.map PySw71.whole))
theorem told_cons {s : Sw71.Score} {c : List (List Int)} {cs : List (List (List Int))} {x : Sw71.Call} (h : callW c = some x) : toldFrom s (c :: cs) = ((ansOf s x).length : Int) :: ansOf s x ++ toldFrom (Sw71.step s x).1 cs := by
  have e : Sw71Neutral.step s ((PySw71.whole c).headD []) = ((Sw71.step s x).1, ansOf s x) := by
    unfold Sw71Neutral.step
    rw [show Sw71Neutral.callOf ((PySw71.whole c).headD []) = some x from h]
    rfl
  unfold toldFrom
  rw [List.map_cons]
  show PyFlat.told ((Sw71Neutral.step s ((PySw71.whole c).headD [])).2 :: PyFlat.played _ (Sw71Neutral.step s ((PySw71.whole c).headD [])).1 (cs.map PySw71.whole)) = _
  rw [e]
  unfold PyFlat.told
  rw [List.flatMap_cons]
theorem wf_begins {s : Sw71.Score} (hw : Wf s) (l b : List Nat) : Sw71.step s (.begins l b) = if isScore l b = false then (s, Sw71.ok (-1)) else (⟨l, b, []⟩, Sw71.ok (l.length : Nat)) := rfl
theorem wf_new {l b : List Nat} (h : isScore l b = true) : Wf ⟨l, b, []⟩ := by
  unfold isScore at h
  have h1 := (Bool.and_eq_true _ _).mp h
  have h2 := (Bool.and_eq_true _ _).mp h1.2
  refine ⟨of_decide_eq_true h1.1, fun n hn => ?_, by show 0 ≤ 8; decide, fun st h => (nomatch h), fun st h => (nomatch h)⟩
  have := List.all_eq_true.mp h2.1 n hn
  exact of_decide_eq_true ((Bool.and_eq_true _ _).mp this).1
theorem wf_step {s : Sw71.Score} (hw : Wf s) {c : Nat} {nums : List Int} {rows : List (List Int)} {x : Sw71.Call} (d : Dec c nums rows x) : Wf (Sw71.step s x).1 := by
  cases d with
  | staff h => exact wf_staff hw _
  | staves k => exact hw
  | draw least h => rw [step_draw]; exact hw
  | back m h => rw [step_back]; exact hw
  | two a b => rw [step_two]; exact hw
  | parted h => exact hw
end Ps

namespace Ps
open PySem PySem.Spec PyProof.Rows L2 Evl

theorem asked_out {l : List Int} (h : PySw71.answers_asked l = true) : ∃ raw, PyFlat.calls PySw71.shape l.length l = some raw ∧ (∀ c ∈ raw, ∃ x, callW c = some x) ∧ toldFrom Sw71.init raw = PySw71.answers l ∧ (PySw71.answers l).length ≤ 10000000 := by
  have h' : (match PyFlat.calls PySw71.shape l.length l with
    | none => false
    | some raw => !raw.isEmpty && PyFlat.atMost 60 raw && PyInside.calls PySw71.bound raw && Sw71Neutral.asked ((raw.map PySw71.whole).map fun c => c.headD []) && PyFlat.short 10000000 (PySw71.answers l)) = true := h
  cases e : PyFlat.calls PySw71.shape l.length l with
  | none => rw [e] at h'; cases h'
  | some raw =>
    rw [e] at h'
    have h' : (!raw.isEmpty && PyFlat.atMost 60 raw && PyInside.calls PySw71.bound raw && Sw71Neutral.asked ((raw.map PySw71.whole).map fun c => c.headD []) && PyFlat.short 10000000 (PySw71.answers l)) = true := h'
    have h1 := (Bool.and_eq_true _ _).mp h'
    have h2 := (Bool.and_eq_true _ _).mp h1.1
    have h3 : ((((raw.map PySw71.whole).map fun c => c.headD []).all Sw71Neutral.asked1) && _) = true := h2.2
    have h4 := List.all_eq_true.mp ((Bool.and_eq_true _ _).mp h3).1
    refine ⟨raw, rfl, fun c hc => ?_, ?_, of_decide_eq_true h1.2⟩
    · have h5 : (callW c).isSome = true := h4 _ (List.mem_map_of_mem (List.mem_map_of_mem hc))
      exact Option.isSome_iff_exists.mp h5
    · have e2 : PySw71.calls l = some (raw.map PySw71.whole) := by
        unfold PySw71.calls
        rw [e]
      unfold PySw71.answers
      rw [e2]
      rfl
theorem sc_upd {C : Addr} {s : Sw71.Score} {F : Addr → Prop} {H : Hp} {v : V} {D : Addr} {ys zs : List V} (hD : H D = some (.lst ys)) (hF : ∀ q, F q → q ≠ D) (h : rSc C s F H v) : rSc C s F (upd H D (.lst zs)) v := by
  obtain ⟨a, dx, la, ba, sa, svs, rfl, h1, f1, f2, f3, n1, n2, h2, h3, h4, al⟩ := h
  refine ⟨a, dx, la, ba, sa, svs, rfl, ?_, f1, f2, f3, n1, n2, ?_, ?_, ?_, al.mono fun v l _ h => st_bars l _ _ H _ v (fun _ z => z) ⟨fun b xs e => ?_, fun b xs f e => ?_⟩ h⟩
  · rw [upd_ne (ne_of h1 hD (by intro z; cases z))]; exact h1
  · rw [upd_ne (hF _ f1)]; exact h2
  · rw [upd_ne (hF _ f2)]; exact h3
  · rw [upd_ne (hF _ f3)]; exact h4
  · rw [upd_ne (ne_of e hD (by intro z; cases z))]; exact e
  · rw [upd_ne (hF _ f.1)]; exact e
theorem sc_weak {C : Addr} {s : Sw71.Score} {F F' : Addr → Prop} {H : Hp} {v : V} (w : ∀ q, F q → F' q) (h : rSc C s F H v) : rSc C s F' H v := sc_ex (Ex.refl H) w h
section
variable {K : PySem.W.Frag} {σ : L2.St} {H : Hp} {ta tb te : TE} {D : Ends} {tz : TS} {v : V}
theorem ev_atL {a : Addr} {xs : List V} {j : Nat} (ha : Ev ta σ H (.ref a)) (hb : Ev tb σ H (.int (j : Int))) (h : SqL K H a xs) (hv : xs[j]? = some v) : Ev (tOp (rIxL K) ta tb) σ H v := fun H1 e Q q =>
  ha H1 e _ fun H2 e2 => hb H2 (e.trans e2) _ fun H3 e3 => ⟨a, xs, j, v, rfl, rfl, ex_l ((e.trans e2).trans e3) h, atI_of rfl hv, q H3 (e2.trans e3)⟩
theorem ev_atT {a : Addr} {xs : List V} {j : Nat} (ha : Ev ta σ H (.ref a)) (hb : Ev tb σ H (.int (j : Int))) (h : ∀ H, SqT K H a xs) (hv : xs[j]? = some v) : Ev (tOp (rIxT K) ta tb) σ H v := fun H1 e Q q =>
  ha H1 e _ fun H2 e2 => hb H2 (e.trans e2) _ fun H3 e3 => ⟨a, xs, j, v, rfl, rfl, h H3, atI_of rfl hv, q H3 (e2.trans e3)⟩
theorem Ev.evx {te : TE} (h : Ev te σ H v) : EvX te σ H (rV v) := fun H1 e Q q => h H1 e _ fun H2 e2 => q _ H2 e2 rfl
end
section
variable {K : PySem.W.Frag} {σ : L2.St} {H : Hp} {ta tb te : TE} {D : Ends} {tz : TS} {v : V} {sp : Sp} {tg : TA}
theorem s_call2 {vs : List V} {i j : Nat} (ha : EvA tg σ H vs) (h : ∀ H1, Ex H H1 → ∀ Q : VK, (∀ a x y H2, H2 a = some (.tup [x, y]) → D.nx ((σ.set i (some x)).set j (some y)) H2 → Q (.ref a) H2) → sp vs H1 Q E0) :
    tAsg (tCall sp [] E0 tg) (gTup K 2 (gCons (gName i) (gCons (gName j) gNil))) D σ H := ha H (Ex.refl H) _ fun H1 e => by
  rw [List.append_nil]
  exact h H1 e _ fun a x y H2 hq k => ⟨a, [x, y], rfl, SqT.of hq, rfl, x, [y], rfl, y, [], rfl, rfl, k⟩
theorem q_call2 {vs : List V} {i j : Nat} (ha : EvA tg σ H vs) (h : ∀ H1, Ex H H1 → ∀ Q : VK, (∀ a x y H2, H2 a = some (.tup [x, y]) → tz D ((σ.set i (some x)).set j (some y)) H2 → Q (.ref a) H2) → sp vs H1 Q E0) :
    tSeq (tAsg (tCall sp [] E0 tg) (gTup K 2 (gCons (gName i) (gCons (gName j) gNil)))) tz D σ H := s_call2 (D := { D with nx := tz D }) ha h
theorem s_callX {rs : List Rl} {i : Nat} (ha : EvXA tg σ H rs) (h : ∀ vs H1, Ex H H1 → All2 (fun v (r : Rl) => r Any H1 v) vs rs → ∀ Q : VK, (∀ v H2, D.nx (σ.set i (some v)) H2 → Q v H2) → sp vs H1 Q E0) :
    tAsg (tCall sp [] E0 tg) (gName i) D σ H := ha H (Ex.refl H) _ fun vs H1 e al => by
  rw [List.append_nil]
  exact h vs H1 e al _ fun v H2 k => k
theorem evx_slice {i j k : Nat} {a : Addr} {ks : List Int} {n m : Nat} (h1 : σ[i]? = some (some (.ref a))) (h2 : σ[j]? = some (some (.int (n : Int)))) (h3 : σ[k]? = some (some (.int (m : Int)))) (h : SqL K H a (ks.map V.int)) :
    EvX (tSl (rSlL K) (tVar i) (tPart (tVar j)) (tPart (tVar k))) σ H (rIs ((ks.drop n).take (m - n))) := fun H1 e Q q =>
  ⟨_, h1, _, h2, _, rfl, _, h3, _, rfl, a, _, rfl, ex_l e h, fun w nw => q _ _ (Ex.new nw) ⟨w, _, rfl, trivial, upd_same, is_of.mpr (cut_ints ks n m)⟩⟩
theorem ans_tail {a t : Addr} {xs ys : List V} (h1 : σ[1]? = some (some (.ref a))) (h8 : σ[8]? = some (some (.ref t))) (ha : H a = some (.lst xs)) (ht : H t = some (.lst ys)) (hn : t ≠ a) (hz : xs.length + 1 + ys.length ≤ sizeLine) (k : D.nx σ (upd (upd H a (.lst (xs ++ [.int (ys.length : Int)]))) a (.lst (xs ++ [.int (ys.length : Int)] ++ ys)))) :
    tSeq (tDrop (tBM K "list" rAppend (tVar 1) (tCons (tCB (rLen K) (tCons (tVar 8) tNil)) tNil))) (tDrop (tBM K "list" rExtend (tVar 1) (tCons (tVar 8) tNil))) D σ H := by
  refine ⟨_, h1, Or.inl ⟨rfl, xs, sq_of ha⟩, _, h8, t, ys, rfl, .inl (SqL.of ht), a, xs, _, rfl, rfl, ha, by omega, ?_⟩
  refine ⟨_, h1, Or.inl ⟨rfl, _, sq_of upd_same⟩, _, h8, a, t, _, ys, rfl, rfl, upd_same, (upd_ne hn).trans ht, ?_, k⟩
  rw [List.length_append]
  exact hz
end
theorem toI_map (ks : List Nat) : (toI ks).map V.int = ks.map nV := by
  rw [toI, List.map_map]
  rfl
theorem nums_at : ∀ {c n k : Nat}, c ≤ 6 → sh c = (n, k) → (([0, 0, 1, 1, 1, 2, 0] : List Int).map V.int)[c]? = some (.int (n : Int)) ∧ (([2, 1, 0, 1, 1, 0, 1] : List Int).map V.int)[c]? = some (.int (k : Int)) ∧ k ≤ 2 := by
  intro c n k hc hs
  rcases (by omega : c = 0 ∨ c = 1 ∨ c = 2 ∨ c = 3 ∨ c = 4 ∨ c = 5 ∨ c = 6) with rfl | rfl | rfl | rfl | rfl | rfl | rfl <;> cases hs <;> exact ⟨rfl, rfl, by decide⟩
theorem make_score {CS : Addr} {σ : L2.St} {H : Hp} {D : Ends} {tz : TS} {i : Nat} (k : ∀ x H1, Ex H H1 → rSc CS Sw71.init (New H) H1 (.ref x) → tz D (σ.set i (some (.ref x))) H1) :
    tSeq (tAsg (tMake CS (sp_Score___init__ CS) [] E0 (tCons (tLst tNil) (tCons (tLst tNil) tNil))) (gName i)) tz D σ H := by
  refine ⟨(by show 0 ≤ sizeLine; decide), fun la nla => ⟨(by show 0 ≤ sizeLine; decide), fun ba nba x dx nx ndx ne => ⟨x, dx, la, ba, rfl, upd_same, fun H' sa h1 nsa hsa kp => ⟨rfl, k x H' ?_ ?_⟩⟩⟩⟩
  all_goals
    have e1 := Ex.new (H := H) (o := HO.lst []) nla
    have e2 := Ex.new (H := upd H la (.lst [])) (o := HO.lst []) nba
    have eH : Ex (upd (upd H la (.lst [])) ba (.lst [])) H' := fun b o hb => kp b o (ne_of_none hb nx) (by rw [upd_ne (ne_of_none hb nx), upd_ne (ne_of_none hb ndx)]; exact hb)
  · exact (e1.trans e2).trans eH
  · have hla : upd (upd H la (.lst [])) ba (.lst []) la = some (.lst []) := e2 la _ upd_same
    have nsa2 : upd (upd H la (.lst [])) ba (.lst []) sa = none := by
      cases hq : upd (upd H la (.lst [])) ba (.lst []) sa with
      | none => rfl
      | some o =>
        have nsx : sa ≠ x := fun z => by rw [z, nx] at hq; cases hq
        have nsd : sa ≠ dx := fun z => by rw [z, ndx] at hq; cases hq
        rw [upd_ne nsx, upd_ne nsd, hq] at nsa
        cases nsa
    have hba : upd (upd H la (.lst [])) ba (.lst []) ba = some (.lst []) := upd_same
    refine ⟨x, dx, la, ba, sa, [], rfl, h1, nla, fresh_back e1 nba, fresh_back (e1.trans e2) nsa2, fun z => ?_, fun z => ?_, eH la _ hla, eH ba _ hba, hsa, All2.nil⟩
    · rw [z, hla] at nsa2; cases nsa2
    · rw [z, hba] at nsa2; cases nsa2
def sp_answers (K : PySem.W.Frag) : Sp := fun vs H Q _ => ∃ (ca : Addr) (l : List Int), vs = [.ref ca] ∧ SqL K H ca (l.map V.int) ∧ PySw71.answers_asked l = true ∧ ∀ H' p, H' p = some (.lst ((PySw71.answers l).map V.int)) → Q (.ref p) H'
theorem len_answers {K vs H Q E} (h : sp_answers K vs H Q E) : vs.length = 1 := by
  obtain ⟨ca, l, rfl, _⟩ := h
  rfl
def AnInv (CS : Addr) (H : Hp) (ca D : Addr) (l : List Int) (m : Nat) (σ' : L2.St) (H' : Hp) : Prop := ∃ (p : Nat) (s : Sw71.Score) (y4 y5 y6 y7 y8 : Option V) (v2 : V) (fnd : List Int) (f : Nat) (rem : List (List (List Int))),
  σ' = [some (.ref ca), some (.ref D), some v2, some (.int (p : Int)), y4, y5, y6, y7, y8] ∧ Ex H H' ∧ H' D = some (.lst (fnd.map V.int)) ∧ rSc CS s (fun q => H q = none ∧ q ≠ D) H' v2 ∧ Wf s ∧ p ≤ l.length ∧
  PyFlat.calls PySw71.shape f (l.drop p) = some rem ∧ (∀ c ∈ rem, ∃ x, callW c = some x) ∧ fnd ++ toldFrom s rem = PySw71.answers l ∧ m = rem.length
theorem ok_answers {P : Program} {w : World} {K : PySem.W.Frag} {mg : Str → Option Value} {base : Heap} {CR CS : Addr} (T : Tx K mg CR CS) {f : Addr} {fd : FuncData} (F : Fun K "answers" "answers" s_answers f fd) (D_rows_at : Dfn P w K mg base "rows_at" 1 ["calls", "at", "many"] (sp_rows_at K)) (D_begun : Dfn P w K mg base "begun" 3 ["score", "lengths", "breaks"] (sp_begun CS)) (D_answer : Dfn P w K mg base "answer" 8 ["score", "call", "some", "rows"] (sp_answer CS)) (D_Score___init__ : Mki P w K mg base CS 1 ["self", "lengths", "breaks"] (sp_Score___init__ CS)) : FnOk P w K mg base CX0 9 f fd ["calls"] (sp_answers K) := by
  obtain ⟨f_rows_at, fd_rows_at, g_rows_at, k_rows_at, b_rows_at, F_rows_at⟩ := D_rows_at
  obtain ⟨f_begun, fd_begun, g_begun, k_begun, b_begun, F_begun⟩ := D_begun
  obtain ⟨f_answer, fd_answer, g_answer, k_answer, b_answer, F_answer⟩ := D_answer
  obtain ⟨f_Score___init__, fd_Score___init__, mk_score, b_score___init__, F_score___init__⟩ := D_Score___init__
  refine F.ok sc_answers (fun vs H Q E h => len_answers h) (fun cdv A outer s H vs Q E hr h => ?_)
  obtain ⟨am, g_MANY_NUMBERS, sqN⟩ := T.t_numbers
  obtain ⟨ar, g_MANY_ROWS, sqR⟩ := T.t_rows
  obtain ⟨ca, l, rfl, hca, hask, k⟩ := h
  obtain ⟨raw, hraw, hall, hans, hlen⟩ := asked_out hask
  refine ⟨_, (pss_cons (ps_set (i := 1) sc_answers.nd rfl (Or.inl rfl) (pe_lst pa_nil))
      (pss_cons (ps_set (i := 2) sc_answers.nd rfl (Or.inl rfl) (pe_make mk_score F_score___init__ (hr.mono (by decide)) (by rfl) T.g_score b_score___init__ .nil pass0 (pa_cons (pe_lst pa_nil) (pa_cons (pe_lst pa_nil) pa_nil))))
      (pss_cons (ps_set (i := 3) sc_answers.nd rfl (Or.inl rfl) pe_int)
      (pss_cons (ps_while PassesOwn.never (pt_cmpR op_lt (pv 3) (pe_callB (lenS K) (by rfl) T.len PySem.boot_len (pa_cons (pv 0) pa_nil)) (nomark _)) (pss_cons (ps_set (i := 4) sc_answers.nd rfl (Or.inl rfl) (pe_ix (ixL K) (pv 0) (pv 3) (fun _ _ => rfl)))
        (pss_cons (ps_set (i := 5) sc_answers.nd rfl (Or.inl rfl) (pe_op op_add (pv 3) pe_int))
        (pss_cons (ps_set (i := 6) sc_answers.nd rfl (Or.inl rfl) (pe_op op_add (pv 5) (pe_ix (ixT K) (pe_glob (v := V.ref _) (by rfl) g_MANY_NUMBERS rfl) (pv 4) (fun _ _ => rfl))))
        (pss_cons (ps_asg (pe_call F_rows_at (hr.mono (by decide)) (by rfl) g_rows_at k_rows_at b_rows_at .nil pass0 (pa_cons (pv 0) (pa_cons (pv 6) (pa_cons (pe_ix (ixT K) (pe_glob (v := V.ref _) (by rfl) g_MANY_ROWS rfl) (pv 4) (fun _ _ => rfl)) pa_nil)))) (pg_tup rfl (pgs_cons (pg_name (i := 7) sc_answers.nd rfl (Or.inl rfl)) (pgs_cons (pg_name (i := 3) sc_answers.nd rfl (Or.inl rfl)) pgs_nil))))
        (pss_cons (ps_if (pt_cmpR op_eq (pv 4) pe_int (nomark _)) (pss_one (ps_asg (pe_call F_begun (hr.mono (by decide)) (by rfl) g_begun k_begun b_begun .nil pass0 (pa_cons (pv 2) (pa_cons (pe_ix (ixL K) (pv 7) pe_int (fun _ _ => rfl)) (pa_cons (pe_ix (ixL K) (pv 7) pe_int (fun _ _ => rfl)) pa_nil)))) (pg_tup rfl (pgs_cons (pg_name (i := 8) sc_answers.nd rfl (Or.inl rfl)) (pgs_cons (pg_name (i := 2) sc_answers.nd rfl (Or.inl rfl)) pgs_nil))))) (pss_one (ps_set (i := 8) sc_answers.nd rfl (Or.inl rfl) (pe_call F_answer (hr.mono (by decide)) (by rfl) g_answer k_answer b_answer .nil pass0 (pa_cons (pv 2) (pa_cons (pv 4) (pa_cons (pe_slice (slL K) (pv 0) (po_some (pv 5)) (po_some (pv 6))) (pa_cons (pv 7) pa_nil))))))))
        (pss_cons (ps_expr (pe_bm PySem.F.plainAttrs_list PySem.F.slot_list_append PySem.F.type_list_append mt_append (pv 1) (pa_cons (pe_callB (lenS K) (by rfl) T.len PySem.boot_len (pa_cons (pv 8) pa_nil)) pa_nil)))
        (pss_one (ps_expr (pe_bm PySem.F.plainAttrs_list PySem.F.slot_list_extend PySem.F.type_list_extend mt_extend (pv 1) (pa_cons (pv 8) pa_nil)))))))))))
      (pss_one (ps_ret (pv 1))))))), ?_⟩
  refine q_asgR evr_nilL fun Dv H1 e1 hD => ?_
  obtain ⟨D, vs, rfl, nD, hD, al⟩ := hD
  cases al.un_nil
  refine make_score fun x H2 e2 hsc => ?_
  refine Evl.q_asg ev_c fun H3 e3 => ?_
  have e13 := e2.trans e3
  have e03 := e1.trans e13
  refine Evl.q_while (AnInv CS H ca D l) raw.length ?_ ?_
  · refine ⟨0, Sw71.init, none, none, none, none, none, .ref x, [], l.length, raw, rfl, e03, e13 D _ hD, ?_, ?_, Nat.zero_le _, hraw, hall, hans, rfl⟩
    · refine sc_ex e3 (fun q hq => ⟨fresh_back e1 hq, fun z => ?_⟩) hsc
      have hq : H1 q = none := hq
      rw [z, hD] at hq
      cases hq
    · exact ⟨by show 0 ≤ 40; decide, fun _ h => (nomatch h), by show 0 ≤ 8; decide, fun _ h => (nomatch h), fun _ h => (nomatch h)⟩
  · rintro m σ' H' ⟨p, s', y4, y5, y6, y7, y8, v2, fnd, fu, rem, rfl, e, hD', hsc', hw, hpl, hcalls, hok, htold, rfl⟩
    have hca' : SqL K H' ca (l.map V.int) := ex_l e hca
    refine ⟨decide (p < l.length), et_is (ett (evx_I0 (evv_var rfl) (Ev.evx (ev_len (ev_var rfl) hca')))) ?_, ?_, ?_⟩
    · rw [List.length_map]
      exact decide_eq_decide.mpr Int.ofNat_lt
    · intro hb H4 e4
      have hp : p < l.length := of_decide_eq_true hb
      have hdr := List.drop_eq_getElem_cons hp
      have hz : l[p]? = some l[p] := List.getElem?_eq_getElem hp
      rw [hdr] at hcalls
      obtain ⟨fu', n, kk, xs, t, cs', hsh, hn, hrows, hcs, rfl⟩ := calls_cons hcalls
      obtain ⟨c, hzc, hc6, hsc⟩ := shape_cases hsh
      rw [hzc] at hz hok htold
      obtain ⟨hnum, hrow, hk2⟩ := nums_at hc6 hsc
      obtain ⟨xc, hx⟩ := hok _ List.mem_cons_self
      rw [List.drop_drop] at hrows
      rw [List.length_drop] at hn
      refine ⟨AnInv CS H ca D l cs'.length, fun σ2 H2 h => ⟨_, Nat.lt_succ_self _, h⟩, ?_⟩
      have ea := e.trans e4
      refine Evl.q_asg (ev_atL (ev_var rfl) (ev_var rfl) (ex_l ea hca) (by rw [List.getElem?_map, hz]; rfl)) fun H5 e5 => ?_
      refine Evl.q_asg (ev_op (ev_var rfl) ev_c rv_I0) fun H6 e6 => ?_
      refine Evl.q_asg (ev_op (ev_var rfl) (ev_atT ev_c (ev_var rfl) sqN hnum) rv_I0) fun H7 e7 => ?_
      have e47 := e4.trans (e5.trans (e6.trans e7))
      refine q_call2 (vs := [.ref ca, .int (((p + 1 + n : Nat)) : Int), .int (kk : Int)]) (ea_cons (ev_var rfl) (ea_cons (ev_var rfl) (ea_cons (ev_atT ev_c (ev_var rfl) sqR hrow) ea_nil))) fun H8 e8 Qr kQ => ?_
      refine ⟨ca, l, p + 1 + n, kk, xs, t, rfl, ex_l (e.trans (e47.trans e8)) hca, hk2, by omega, hrows, fun H9 q ra p2 e9 hq hL hd2 hp2 => kQ q (.ref ra) (.int (p2 : Int)) H9 hq ?_⟩
      have e49 := e47.trans (e8.trans e9)
      have eh9 := e.trans e49
      have hD9 := e49 D _ hD'
      have hD8 := (e47.trans e8) D _ hD'
      have hsc9 := sc_ex e49 (fun _ z => z) hsc'
      have htold' := htold
      rw [told_cons hx] at htold'
      have tail : ∀ {Dd : Ends} {σT : L2.St} {H' : Hp} {v2 : V} {t8 : Addr}, σT = [some (.ref ca), some (.ref D), some v2, some (.int (p2 : Int)), some (.int (c : Int)), some (.int ((p + 1 : Nat) : Int)), some (.int ((p + 1 + n : Nat) : Int)), some (.ref ra), some (.ref t8)] → Ex H H' → H' D = some (.lst (fnd.map V.int)) → rSc CS (Sw71.step s' xc).1 (fun q => H q = none ∧ q ≠ D) H' v2 →
          H' t8 = some (.lst ((ansOf s' xc).map V.int)) → t8 ≠ D → Wf (Sw71.step s' xc).1 → Dd.nx = AnInv CS H ca D l cs'.length →
          tSeq (tDrop (tBM K "list" rAppend (tVar 1) (tCons (tCB (rLen K) (tCons (tVar 8) tNil)) tNil))) (tDrop (tBM K "list" rExtend (tVar 1) (tCons (tVar 8) tNil))) Dd σT H' := by
        intro Dd σT H' v2 t8 hσ eH hD' hsc' ht8 hne hw' hnx
        subst hσ
        have hl2 : fnd.length + 1 + (ansOf s' xc).length ≤ 10000000 := by
          have := congrArg List.length htold'
          rw [List.length_append, List.length_append, List.length_cons] at this
          omega
        refine ans_tail rfl rfl hD' ht8 hne (by rw [List.length_map, List.length_map]; exact size24 (by omega)) ?_
        rw [hnx]
        refine ⟨p2, _, _, _, _, _, _, _, fnd ++ (((ansOf s' xc).length : Int) :: ansOf s' xc), fu', cs', rfl, Ex.mut (Ex.mut eH nD) nD, ?_, sc_upd upd_same (fun q h => h.2) (sc_upd hD' (fun q h => h.2) hsc'), hw', hp2, by rw [hd2]; exact hcs, fun c hc => hok c (List.mem_cons_of_mem _ hc), ?_, rfl⟩
        · rw [upd_same, List.map_append, List.append_assoc, List.length_map]
          rfl
        · rw [List.append_assoc]
          exact htold'
      refine Evl.q_if (et_is (ett (evx_eq (evv_var rfl) evx_c rfl)) (decV c 0)) ?_ ?_
      · intro hb H10 e10
        have : c = 0 := of_decide_eq_true hb
        subst this
        have hxs : xs.length = 2 := by
          have := rows_len hrows
          cases hsc
          exact this
        have hn0 : n = 0 := by cases hsc; rfl
        subst hn0
        obtain ⟨l0, b0, rfl, rfl, hl0, hb0⟩ := dec_begins hxs hx
        obtain ⟨ra', ws, hra, _, hraw9, al9⟩ := hL
        cases hra
        obtain ⟨w0, _, rfl, hw0, al9⟩ := al9.un_cons
        obtain ⟨w1, _, rfl, hw1, al9⟩ := al9.un_cons
        cases al9.un_nil
        obtain ⟨la, u0, rfl, nla, hla, au0⟩ := hw0
        obtain ⟨ba, u1, rfl, nba, hba, au1⟩ := hw1
        have hu0 := is_of.mp au0
        have hu1 := is_of.mp au1
        refine s_call2 (vs := [v2, .ref la, .ref ba]) (ea_cons (ev_var rfl) (ea_cons (ev_atL (j := 0) (ev_var rfl) ev_c (SqL.of (e10 _ _ hraw9)) rfl) (ea_cons (ev_atL (j := 1) (ev_var rfl) ev_c (SqL.of (e10 _ _ hraw9)) rfl) ea_nil))) fun H11 e11 Qb kQb => ?_
        have e911 := e10.trans e11
        have eh11 := eh9.trans e911
        have hD11 := e911 D _ hD9
        refine ⟨v2, la, ba, l0, b0, rfl, ?_, ?_, hl0, hb0, fun hf H12 q2 t2 e12 hq2 ht2 nt2 => kQb q2 (.ref t2) v2 H12 hq2 (tail rfl (eh11.trans e12) (e12 D _ hD11) ?_ ?_ ?_ ?_ rfl), fun hf H12 q2 t2 x2 e12 hq2 ht2 nt2 hsc12 => kQb q2 (.ref t2) (.ref x2) H12 hq2 (tail rfl (eh11.trans e12) (e12 D _ hD11) ?_ ?_ ?_ ?_ rfl)⟩
        · rw [← toI_map, ← hu0]
          exact e911 _ _ hla
        · rw [← toI_map, ← hu1]
          exact e911 _ _ hba
        · rw [wf_begins hw, if_pos hf]
          exact sc_ex (e911.trans e12) (fun _ z => z) hsc9
        · rw [ansOf, wf_begins hw, if_pos hf]
          exact ht2
        · intro z
          rw [z, hD11] at nt2
          cases nt2
        · rw [wf_begins hw, if_pos hf]
          exact hw
        · rw [wf_begins hw, if_neg (by rw [hf]; decide)]
          refine sc_weak (fun q hq => ?_) hsc12
          rcases hq with rfl | rfl | hq
          · exact ⟨fresh_back (e.trans (e47.trans e8)) nla, fun z => by
              have nla : H8 q = none := nla
              rw [z, hD8] at nla
              cases nla⟩
          · exact ⟨fresh_back (e.trans (e47.trans e8)) nba, fun z => by
              have nba : H8 q = none := nba
              rw [z, hD8] at nba
              cases nba⟩
          · exact ⟨fresh_back eh11 hq, fun z => by
              rw [z, hD11] at hq
              cases hq⟩
        · rw [ansOf, wf_begins hw, if_neg (by rw [hf]; decide)]
          exact ht2
        · intro z
          rw [z, hD11] at nt2
          cases nt2
        · rw [wf_begins hw, if_neg (by rw [hf]; decide)]
          exact wf_new hf
      · intro hb H10 e10
        have hc0 : c ≠ 0 := of_decide_eq_false hb
        have hdec := dec_other hc0 hc6 (by rw [hsc, List.length_take, rows_len hrows, List.length_drop, Nat.min_eq_left hn]) hx
        have mL : Mo (rL (xs.map rIs)) := (st_L (st_map st_is)).mo
        have hL9 : rL (xs.map rIs) Any H10 (.ref ra) := (st_L (st_map st_is)).ex e10 ((st_L (st_map st_is)).any hL)
        refine s_callX (rs := [rV v2, rN c, rIs ((l.drop (p + 1)).take n), rL (xs.map rIs)]) (xa_cons (evv_var rfl) st_V.mo (xa_cons (evv_var rfl) st_V.mo (xa_cons ((evx_slice (n := p + 1) (m := p + 1 + n) rfl rfl rfl (ex_l (eh9.trans e10) hca)).is (by rw [Nat.add_sub_cancel_left])) (st_is _).mo (xa_cons (evx_var rfl mL hL9) mL xa_nil)))) fun vs H11 e11 al Qa kQ => ?_
        obtain ⟨x0, _, rfl, hx0, al⟩ := al.un_cons
        obtain ⟨x1, _, rfl, hx1, al⟩ := al.un_cons
        obtain ⟨x2, _, rfl, hx2, al⟩ := al.un_cons
        obtain ⟨x3, _, rfl, hx3, al⟩ := al.un_cons
        cases al.un_nil
        cases hx0
        have e911 := e10.trans e11
        have eh11 := eh9.trans e911
        have hD11 := e911 D _ hD9
        refine ⟨(fun q => H q = none ∧ q ≠ D), s', (c, _, xs, xc), v2, [x1, x2, x3], rfl, sc_ex e911 (fun _ z => z) hsc9, All2.cons hx1 (All2.cons hx2 (All2.cons hx3 All2.nil)), hw, hdec, fun H12 v kp sc hv => kQ v H12 ?_⟩
        obtain ⟨t8, zs, rfl, nt8, ht8, az⟩ := hv
        have nt8 : H11 t8 = none := nt8
        have hzs := is_of.mp az
        refine tail rfl (fun b o hb => kp b o (fun z => ?_) (eh11 b o hb)) (kp D _ (fun z => z.2 rfl) hD11) (sc_weak (fun q hq => ?_) sc) (by rw [← hzs]; exact ht8) (fun z => ?_) (wf_step hw hdec) rfl
        · have := z.1
          rw [hb] at this
          cases this
        · rcases hq with hq | hq
          · exact hq
          · exact ⟨fresh_back eh11 hq, fun z => by
              rw [z, hD11] at hq
              cases hq⟩
        · rw [z, hD11] at nt8
          cases nt8
    · intro hb H4 e4
      have hp : ¬ p < l.length := of_decide_eq_false hb
      have hr : rem = [] := by
        rw [List.drop_of_length_le (by omega)] at hcalls
        cases fu <;> (cases hcalls; rfl)
      subst hr
      refine ⟨_, rfl, k H4 D ?_⟩
      rw [← htold]
      show H4 D = some (.lst ((fnd ++ []).map V.int))
      rw [List.append_nil]
      exact e4 D _ hD'
end Ps

namespace Ps
open PySem PySem.Spec PyProof.Rows L2 Evl

/-! ### what the top has written, put together -/
def FA (K : PySem.W.Frag) (x qual : Str) (st : Stmt) (f : Addr) : Prop := ∃ (oc : Value) (od an : Option Addr) (sl : Array (Option Value)) (kV dc pm cd ct : Value), K.lookup f = some ⟨oc, od, .func (PySem.W.fnOf x qual (defArgs st) (defBody st) (defScope st) .none kV dc pm an cd ct), sl⟩ ∧ PySem.W.codeIn K cd qual = true ∧ PySem.W.keepIn K (.ref f) = true
def TupIn (K : PySem.W.Frag) (x : Str) (ns : List Int) : Prop := ∃ (a : Addr) (d : Option Addr) (its : Array Value) (n : Nat) (sl : Array (Option Value)), PySem.W.nsIn K mainGlobals x = some (some (.ref a)) ∧ K.lookup a = some ⟨.type "tuple", d, .seq its n, sl⟩ ∧ its.size ≤ 100000 ∧ Vals (ns.map V.int) its.toList
section
variable {K : PySem.W.Frag} {x m qual : Str} {st : Stmt} {C f : Addr} {oc : Value} {od an : Option Addr} {sl : Array (Option Value)} {kV dc pm cd ct : Value}
theorem fi_mk (a : PySem.W.nsIn K mainGlobals x = some (some (.ref f))) (l : K.lookup f = some ⟨oc, od, .func (PySem.W.fnOf x qual (defArgs st) (defBody st) (defScope st) .none kV dc pm an cd ct), sl⟩) (c : PySem.W.codeIn K cd qual = true) (k : PySem.W.keepIn K (.ref f) = true) :
    ∃ f, PySem.W.nsIn K mainGlobals x = some (some (.ref f)) ∧ FA K x qual st f := ⟨f, a, oc, od, an, sl, kV, dc, pm, cd, ct, l, c, k⟩
theorem mi_mk (a : PySem.W.findIn K (.ref C) m = some (some (.ref f))) (i : PySem.W.isFn K (.ref f) = true) (l : K.lookup f = some ⟨oc, od, .func (PySem.W.fnOf m qual (defArgs st) (defBody st) (defScope st) .none kV dc pm an cd ct), sl⟩) (c : PySem.W.codeIn K cd qual = true) (k : PySem.W.keepIn K (.ref f) = true) :
    ∃ f, PySem.W.findIn K (.ref C) m = some (some (.ref f)) ∧ PySem.W.isFn K (.ref f) = true ∧ FA K m qual st f := ⟨f, a, i, oc, od, an, sl, kV, dc, pm, cd, ct, l, c, k⟩
theorem ci_mk {n : Int} {t : Nat} (a : PySem.W.nsIn K mainGlobals x = some (some (.int n t))) : ∃ t, PySem.W.nsIn K mainGlobals x = some (some (.int n t)) := ⟨t, a⟩
theorem ti_mk {ns : List Int} {d : Option Addr} {its : Array Value} {n : Nat} (a : PySem.W.nsIn K mainGlobals x = some (some (.ref f))) (l : K.lookup f = some ⟨.type "tuple", d, .seq its n, sl⟩) (z : its.size ≤ 100000) (v : Vals (ns.map V.int) its.toList) : TupIn K x ns := ⟨f, d, its, n, sl, a, l, z, v⟩
end
section
variable {K : PySem.W.Frag} {h : Heap} {mg : Str → Option Value}
theorem cn_mk (X : K.In h) (G : h.Ns mainGlobals mg) {x : Str} {n : Int} (d : ∃ t, PySem.W.nsIn K mainGlobals x = some (some (.int n t))) : Cn mg x n := by
  obtain ⟨t, d⟩ := d
  exact ⟨t, PySem.W.mg_of X G d⟩
theorem ct_mk (X : K.In h) (G : h.Ns mainGlobals mg) {x : Str} {ns : List Int} (d : TupIn K x ns) : Ct K mg x ns := by
  obtain ⟨a, d, its, n, sl, e, l, z, v⟩ := d
  exact ⟨a, PySem.W.mg_of X G e, fun H => .inr ⟨_, its, n, l, rfl, rfl, sz_of z, v⟩⟩
theorem at_mk (X : K.In h) (G : h.Ns mainGlobals mg) {x : Str} {st : Stmt} {ps : List Str} (d : ∃ f, PySem.W.nsIn K mainGlobals x = some (some (.ref f)) ∧ FA K x x st f)
    (hb : ∀ (kV doc pm : Value) (an : Option Addr) (cdv ct : Value) (us : List Value), us.length = ps.length → bindArgs (PySem.W.fnOf x x (defArgs st) (defBody st) (defScope st) .none kV doc pm an cdv ct) ⟨us, []⟩ = pure (ps.zip us)) : FunAt K mg x st ps := by
  obtain ⟨f, a, oc, od, an, sl, kV, dc, pm, cd, ct, l, c, k⟩ := d
  have F := fun_mk (st := st) l c k
  exact ⟨f, _, PySem.W.mg_of X G a, F, F.binds hb⟩
theorem met_mk {C : Addr} {m qual : Str} {st : Stmt} {ps : List Str} (d : ∃ f, PySem.W.findIn K (.ref C) m = some (some (.ref f)) ∧ PySem.W.isFn K (.ref f) = true ∧ FA K m qual st f)
    (hb : ∀ (kV doc pm : Value) (an : Option Addr) (cdv ct : Value) (us : List Value), us.length = ps.length → bindArgs (PySem.W.fnOf m qual (defArgs st) (defBody st) (defScope st) .none kV doc pm an cdv ct) ⟨us, []⟩ = pure (ps.zip us)) : FunM K C m qual st ps := by
  obtain ⟨f, a, i, oc, od, an, sl, kV, dc, pm, cd, ct, l, c, k⟩ := d
  have F := fun_mk (st := st) l c k
  exact ⟨f, _, ⟨a, i, k⟩, F, F.binds hb⟩
theorem ini_mk {C : Addr} {qual : Str} {st : Stmt} {ps : List Str} (mk : PySem.W.makesIn K C = true) (kp : PySem.W.keepIn K (.ref C) = true) (d : ∃ f, PySem.W.findIn K (.ref C) "__init__" = some (some (.ref f)) ∧ PySem.W.isFn K (.ref f) = true ∧ FA K "__init__" qual st f)
    (hb : ∀ (kV doc pm : Value) (an : Option Addr) (cdv ct : Value) (us : List Value), us.length = ps.length → bindArgs (PySem.W.fnOf "__init__" qual (defArgs st) (defBody st) (defScope st) .none kV doc pm an cdv ct) ⟨us, []⟩ = pure (ps.zip us)) : FunI K C qual st ps := by
  obtain ⟨f, a, i, oc, od, an, sl, kV, dc, pm, cd, ct, l, c, k⟩ := d
  have F := fun_mk (st := st) l c k
  exact ⟨f, _, ⟨mk, a, i, kp⟩, F, F.binds hb⟩
end
theorem all_mk {P : Program} {w : World} {K : PySem.W.Frag} {h : Heap} {mg : Str → Option Value} {fa CR CS : Addr} (X : K.In h) (G : h.Ns mainGlobals mg) (hfa : mg "answers" = some (.ref fa))
    (aR : PySem.W.nsIn K mainGlobals "Reader" = some (some (.ref CR)))
    (aS : PySem.W.nsIn K mainGlobals "Score" = some (some (.ref CS)))
    (pgR : PySem.W.plainGet K CR Str.empty = true)
    (hdR : PySem.W.hasDictIn K CR = true)
    (poR : PySem.W.plainOver K CR = true)
    (saR : PySem.W.findIn K (.ref CR) "__setattr__" = some (some (.builtin "object.__setattr__")))
    (mkR : PySem.W.makesIn K CR = true)
    (kpR : PySem.W.keepIn K (.ref CR) = true)
    (pgS : PySem.W.plainGet K CS Str.empty = true)
    (hdS : PySem.W.hasDictIn K CS = true)
    (poS : PySem.W.plainOver K CS = true)
    (saS : PySem.W.findIn K (.ref CS) "__setattr__" = some (some (.builtin "object.__setattr__")))
    (mkS : PySem.W.makesIn K CS = true)
    (kpS : PySem.W.keepIn K (.ref CS) = true)
    (b_len : PySem.W.nsIn K mainGlobals "len" = some none)
    (b_all : PySem.W.nsIn K mainGlobals "all" = some none)
    (b_any : PySem.W.nsIn K mainGlobals "any" = some none)
    (b_sum : PySem.W.nsIn K mainGlobals "sum" = some none)
    (b_range : PySem.W.nsIn K mainGlobals "range" = some none)
    (b_tuple : PySem.W.nsIn K mainGlobals "tuple" = some none)
    (b_list : PySem.W.nsIn K mainGlobals "list" = some none)
    (b_zip : PySem.W.nsIn K mainGlobals "zip" = some none)
    (b_set : PySem.W.nsIn K mainGlobals "set" = some none)
    (b_int : PySem.W.nsIn K mainGlobals "int" = some none)
    (c_MOST_ITEMS : ∃ t, PySem.W.nsIn K mainGlobals "MOST_ITEMS" = some (some (.int 20 t)))
    (c_MOST_KEYS : ∃ t, PySem.W.nsIn K mainGlobals "MOST_KEYS" = some (some (.int 6 t)))
    (c_MOST_KEY : ∃ t, PySem.W.nsIn K mainGlobals "MOST_KEY" = some (some (.int 127 t)))
    (c_BOTH_REST : ∃ t, PySem.W.nsIn K mainGlobals "BOTH_REST" = some (some (.int 0 t)))
    (c_FIRST_ALONE : ∃ t, PySem.W.nsIn K mainGlobals "FIRST_ALONE" = some (some (.int 1 t)))
    (c_SECOND_ALONE : ∃ t, PySem.W.nsIn K mainGlobals "SECOND_ALONE" = some (some (.int 2 t)))
    (c_SAME : ∃ t, PySem.W.nsIn K mainGlobals "SAME" = some (some (.int 3 t)))
    (c_CHORDS : ∃ t, PySem.W.nsIn K mainGlobals "CHORDS" = some (some (.int 4 t)))
    (c_APART : ∃ t, PySem.W.nsIn K mainGlobals "APART" = some (some (.int 5 t)))
    (c_REST : ∃ t, PySem.W.nsIn K mainGlobals "REST" = some (some (.int 0 t)))
    (c_BAR : ∃ t, PySem.W.nsIn K mainGlobals "BAR" = some (some (.int 1 t)))
    (c_CUE : ∃ t, PySem.W.nsIn K mainGlobals "CUE" = some (some (.int 2 t)))
    (c_MOST_STAVES : ∃ t, PySem.W.nsIn K mainGlobals "MOST_STAVES" = some (some (.int 8 t)))
    (c_MOST_BARS : ∃ t, PySem.W.nsIn K mainGlobals "MOST_BARS" = some (some (.int 40 t)))
    (c_MOST_LENGTH : ∃ t, PySem.W.nsIn K mainGlobals "MOST_LENGTH" = some (some (.int 64 t)))
    (c_MOST_BREAKS : ∃ t, PySem.W.nsIn K mainGlobals "MOST_BREAKS" = some (some (.int 40 t)))
    (c_BAD : ∃ t, PySem.W.nsIn K mainGlobals "BAD" = some (some (.int (-1) t)))
    (c_NO_STAFF : ∃ t, PySem.W.nsIn K mainGlobals "NO_STAFF" = some (some (.int (-2) t)))
    (c_FULL : ∃ t, PySem.W.nsIn K mainGlobals "FULL" = some (some (.int (-5) t)))
    (t_numbers : TupIn K "MANY_NUMBERS" [0, 0, 1, 1, 1, 2, 0])
    (t_rows : TupIn K "MANY_ROWS" [2, 1, 0, 1, 1, 0, 1])
    (n_row : PySem.W.findIn K (.ref CR) "row" = some none)
    (n_at : PySem.W.findIn K (.ref CR) "at" = some none)
    (n_lengths : PySem.W.findIn K (.ref CS) "lengths" = some none)
    (n_breaks : PySem.W.findIn K (.ref CS) "breaks" = some none)
    (n_staves : PySem.W.findIn K (.ref CS) "staves" = some none)
    (d_rows_at : ∃ f, PySem.W.nsIn K mainGlobals "rows_at" = some (some (.ref f)) ∧ FA K "rows_at" "rows_at" s_rows_at f)
    (d_is_score : ∃ f, PySem.W.nsIn K mainGlobals "is_score" = some (some (.ref f)) ∧ FA K "is_score" "is_score" s_is_score f)
    (d_Score___init__ : ∃ f, PySem.W.findIn K (.ref CS) "__init__" = some (some (.ref f)) ∧ PySem.W.isFn K (.ref f) = true ∧ FA K "__init__" "Score.__init__" s_Score___init__ f)
    (d_begun : ∃ f, PySem.W.nsIn K mainGlobals "begun" = some (some (.ref f)) ∧ FA K "begun" "begun" s_begun f)
    (d_Reader___init__ : ∃ f, PySem.W.findIn K (.ref CR) "__init__" = some (some (.ref f)) ∧ PySem.W.isFn K (.ref f) = true ∧ FA K "__init__" "Reader.__init__" s_Reader___init__ f)
    (d_Reader_number : ∃ f, PySem.W.findIn K (.ref CR) "number" = some (some (.ref f)) ∧ PySem.W.isFn K (.ref f) = true ∧ FA K "number" "Reader.number" s_Reader_number f)
    (d_Reader_item : ∃ f, PySem.W.findIn K (.ref CR) "item" = some (some (.ref f)) ∧ PySem.W.isFn K (.ref f) = true ∧ FA K "item" "Reader.item" s_Reader_item f)
    (d_Reader_bar : ∃ f, PySem.W.findIn K (.ref CR) "bar" = some (some (.ref f)) ∧ PySem.W.isFn K (.ref f) = true ∧ FA K "bar" "Reader.bar" s_Reader_bar f)
    (d_Reader_bars : ∃ f, PySem.W.findIn K (.ref CR) "bars" = some (some (.ref f)) ∧ PySem.W.isFn K (.ref f) = true ∧ FA K "bars" "Reader.bars" s_Reader_bars f)
    (d_is_item : ∃ f, PySem.W.nsIn K mainGlobals "is_item" = some (some (.ref f)) ∧ FA K "is_item" "is_item" s_is_item f)
    (d_is_bar : ∃ f, PySem.W.nsIn K mainGlobals "is_bar" = some (some (.ref f)) ∧ FA K "is_bar" "is_bar" s_is_bar f)
    (d_Score_many : ∃ f, PySem.W.findIn K (.ref CS) "many" = some (some (.ref f)) ∧ PySem.W.isFn K (.ref f) = true ∧ FA K "many" "Score.many" s_Score_many f)
    (d_Score_are_bars : ∃ f, PySem.W.findIn K (.ref CS) "are_bars" = some (some (.ref f)) ∧ PySem.W.isFn K (.ref f) = true ∧ FA K "are_bars" "Score.are_bars" s_Score_are_bars f)
    (d_does_rest : ∃ f, PySem.W.nsIn K mainGlobals "does_rest" = some (some (.ref f)) ∧ FA K "does_rest" "does_rest" s_does_rest f)
    (d_rest_of : ∃ f, PySem.W.nsIn K mainGlobals "rest_of" = some (some (.ref f)) ∧ FA K "rest_of" "rest_of" s_rest_of f)
    (d_as_staff_has : ∃ f, PySem.W.nsIn K mainGlobals "as_staff_has" = some (some (.ref f)) ∧ FA K "as_staff_has" "as_staff_has" s_as_staff_has f)
    (d_Score_add : ∃ f, PySem.W.findIn K (.ref CS) "add" = some (some (.ref f)) ∧ PySem.W.isFn K (.ref f) = true ∧ FA K "add" "Score.add" s_Score_add f)
    (d_add_staff : ∃ f, PySem.W.nsIn K mainGlobals "add_staff" = some (some (.ref f)) ∧ FA K "add_staff" "add_staff" s_add_staff f)
    (d_with_count : ∃ f, PySem.W.nsIn K mainGlobals "with_count" = some (some (.ref f)) ∧ FA K "with_count" "with_count" s_with_count f)
    (d_told : ∃ f, PySem.W.nsIn K mainGlobals "told" = some (some (.ref f)) ∧ FA K "told" "told" s_told f)
    (d_all_told : ∃ f, PySem.W.nsIn K mainGlobals "all_told" = some (some (.ref f)) ∧ FA K "all_told" "all_told" s_all_told f)
    (d_staff_told : ∃ f, PySem.W.nsIn K mainGlobals "staff_told" = some (some (.ref f)) ∧ FA K "staff_told" "staff_told" s_staff_told f)
    (d_lists_told : ∃ f, PySem.W.nsIn K mainGlobals "lists_told" = some (some (.ref f)) ∧ FA K "lists_told" "lists_told" s_lists_told f)
    (d_piece_told : ∃ f, PySem.W.nsIn K mainGlobals "piece_told" = some (some (.ref f)) ∧ FA K "piece_told" "piece_told" s_piece_told f)
    (d_Score_bars_at : ∃ f, PySem.W.findIn K (.ref CS) "bars_at" = some (some (.ref f)) ∧ PySem.W.isFn K (.ref f) = true ∧ FA K "bars_at" "Score.bars_at" s_Score_bars_at f)
    (d_Score_do_rest : ∃ f, PySem.W.findIn K (.ref CS) "do_rest" = some (some (.ref f)) ∧ PySem.W.isFn K (.ref f) = true ∧ FA K "do_rest" "Score.do_rest" s_Score_do_rest f)
    (d_Score_rest_end : ∃ f, PySem.W.findIn K (.ref CS) "rest_end" = some (some (.ref f)) ∧ PySem.W.isFn K (.ref f) = true ∧ FA K "rest_end" "Score.rest_end" s_Score_rest_end f)
    (d_Score_cue_staff : ∃ f, PySem.W.findIn K (.ref CS) "cue_staff" = some (some (.ref f)) ∧ PySem.W.isFn K (.ref f) = true ∧ FA K "cue_staff" "Score.cue_staff" s_Score_cue_staff f)
    (d_Score_rest_pieces : ∃ f, PySem.W.findIn K (.ref CS) "rest_pieces" = some (some (.ref f)) ∧ PySem.W.isFn K (.ref f) = true ∧ FA K "rest_pieces" "Score.rest_pieces" s_Score_rest_pieces f)
    (d_Score_drawn : ∃ f, PySem.W.findIn K (.ref CS) "drawn" = some (some (.ref f)) ∧ PySem.W.isFn K (.ref f) = true ∧ FA K "drawn" "Score.drawn" s_Score_drawn f)
    (d_draw : ∃ f, PySem.W.nsIn K mainGlobals "draw" = some (some (.ref f)) ∧ FA K "draw" "draw" s_draw f)
    (d_read_piece : ∃ f, PySem.W.nsIn K mainGlobals "read_piece" = some (some (.ref f)) ∧ FA K "read_piece" "read_piece" s_read_piece f)
    (d_read_pieces : ∃ f, PySem.W.nsIn K mainGlobals "read_pieces" = some (some (.ref f)) ∧ FA K "read_pieces" "read_pieces" s_read_pieces f)
    (d_Score_is_rest : ∃ f, PySem.W.findIn K (.ref CS) "is_rest" = some (some (.ref f)) ∧ PySem.W.isFn K (.ref f) = true ∧ FA K "is_rest" "Score.is_rest" s_Score_is_rest f)
    (d_Score_is_full : ∃ f, PySem.W.findIn K (.ref CS) "is_full" = some (some (.ref f)) ∧ PySem.W.isFn K (.ref f) = true ∧ FA K "is_full" "Score.is_full" s_Score_is_full f)
    (d_Score_columns_of : ∃ f, PySem.W.findIn K (.ref CS) "columns_of" = some (some (.ref f)) ∧ PySem.W.isFn K (.ref f) = true ∧ FA K "columns_of" "Score.columns_of" s_Score_columns_of f)
    (d_Score_put_back : ∃ f, PySem.W.findIn K (.ref CS) "put_back" = some (some (.ref f)) ∧ PySem.W.isFn K (.ref f) = true ∧ FA K "put_back" "Score.put_back" s_Score_put_back f)
    (d_put_back : ∃ f, PySem.W.nsIn K mainGlobals "put_back" = some (some (.ref f)) ∧ FA K "put_back" "put_back" s_put_back f)
    (d_is_chord_pair : ∃ f, PySem.W.nsIn K mainGlobals "is_chord_pair" = some (some (.ref f)) ∧ FA K "is_chord_pair" "is_chord_pair" s_is_chord_pair f)
    (d_mode_of : ∃ f, PySem.W.nsIn K mainGlobals "mode_of" = some (some (.ref f)) ∧ FA K "mode_of" "mode_of" s_mode_of f)
    (d_lines_of : ∃ f, PySem.W.nsIn K mainGlobals "lines_of" = some (some (.ref f)) ∧ FA K "lines_of" "lines_of" s_lines_of f)
    (d_put_on_one : ∃ f, PySem.W.nsIn K mainGlobals "put_on_one" = some (some (.ref f)) ∧ FA K "put_on_one" "put_on_one" s_put_on_one f)
    (d_two : ∃ f, PySem.W.nsIn K mainGlobals "two" = some (some (.ref f)) ∧ FA K "two" "two" s_two f)
    (d_read_labelled : ∃ f, PySem.W.nsIn K mainGlobals "read_labelled" = some (some (.ref f)) ∧ FA K "read_labelled" "read_labelled" s_read_labelled f)
    (d_is_for_two : ∃ f, PySem.W.nsIn K mainGlobals "is_for_two" = some (some (.ref f)) ∧ FA K "is_for_two" "is_for_two" s_is_for_two f)
    (d_is_right_bar : ∃ f, PySem.W.nsIn K mainGlobals "is_right_bar" = some (some (.ref f)) ∧ FA K "is_right_bar" "is_right_bar" s_is_right_bar f)
    (d_voice_of : ∃ f, PySem.W.nsIn K mainGlobals "voice_of" = some (some (.ref f)) ∧ FA K "voice_of" "voice_of" s_voice_of f)
    (d_two_of_line : ∃ f, PySem.W.nsIn K mainGlobals "two_of_line" = some (some (.ref f)) ∧ FA K "two_of_line" "two_of_line" s_two_of_line f)
    (d_two_of : ∃ f, PySem.W.nsIn K mainGlobals "two_of" = some (some (.ref f)) ∧ FA K "two_of" "two_of" s_two_of f)
    (d_parted : ∃ f, PySem.W.nsIn K mainGlobals "parted" = some (some (.ref f)) ∧ FA K "parted" "parted" s_parted f)
    (d_parted_told : ∃ f, PySem.W.nsIn K mainGlobals "parted_told" = some (some (.ref f)) ∧ FA K "parted_told" "parted_told" s_parted_told f)
    (d_answer : ∃ f, PySem.W.nsIn K mainGlobals "answer" = some (some (.ref f)) ∧ FA K "answer" "answer" s_answer f)
    (d_answers : ∃ f, PySem.W.nsIn K mainGlobals "answers" = some (some (.ref f)) ∧ FA K "answers" "answers" s_answers f)
    : ∃ fd : FuncData, (∀ (s : Shared) (us : List Value), us.length = (["calls"] : List Str).length → BindsTo s fd ⟨us, []⟩ ((["calls"] : List Str).zip us)) ∧ ∀ base : Heap, K.In base → base.Ns mainGlobals mg → FnOk P w K mg base CX0 9 fa fd ["calls"] (sp_answers K) := by
  have T : Tx K mg CR CS := ⟨PySem.W.mg_none_of X G b_len, PySem.W.mg_none_of X G b_all, PySem.W.mg_none_of X G b_any, PySem.W.mg_none_of X G b_sum, PySem.W.mg_none_of X G b_range, PySem.W.mg_none_of X G b_tuple, PySem.W.mg_none_of X G b_list, PySem.W.mg_none_of X G b_zip, PySem.W.mg_none_of X G b_set, PySem.W.mg_none_of X G b_int, cn_mk X G c_MOST_ITEMS, cn_mk X G c_MOST_KEYS, cn_mk X G c_MOST_KEY, cn_mk X G c_BOTH_REST, cn_mk X G c_FIRST_ALONE, cn_mk X G c_SECOND_ALONE, cn_mk X G c_SAME, cn_mk X G c_CHORDS, cn_mk X G c_APART, cn_mk X G c_REST, cn_mk X G c_BAR, cn_mk X G c_CUE, cn_mk X G c_MOST_STAVES, cn_mk X G c_MOST_BARS, cn_mk X G c_MOST_LENGTH, cn_mk X G c_MOST_BREAKS, cn_mk X G c_BAD, cn_mk X G c_NO_STAFF, cn_mk X G c_FULL, ct_mk X G t_numbers, ct_mk X G t_rows, PySem.W.mg_of X G aR, PySem.W.mg_of X G aS, ⟨pgR, hdR, poR, saR⟩, ⟨pgS, hdS, poS, saS⟩, n_row, n_at, n_lengths, n_breaks, n_staves⟩
  obtain ⟨f, a, oc, od, an, sl, kV, dc, pm, cd, ct, l, c, k⟩ := d_answers
  have e := hfa.symm.trans (PySem.W.mg_of X G a)
  cases e
  have FF := fun_mk (st := s_answers) l c k
  refine ⟨PySem.W.fnOf "answers" "answers" (defArgs s_answers) (defBody s_answers) (defScope s_answers) .none kV dc pm an cd ct, fun s us hu => match us, hu with | [_], _ => .of_eq rfl, fun base _ _ => ?_⟩
  have D_rows_at := ok_rows_at (P := P) (w := w) (base := base) T (at_mk X G d_rows_at (fun _ _ _ _ _ _ us hl => match us, hl with | [_, _, _], _ => rfl))
  have D_is_score := ok_is_score (P := P) (w := w) (base := base) T (at_mk X G d_is_score (fun _ _ _ _ _ _ us hl => match us, hl with | [_, _], _ => rfl))
  have D_Score___init__ := ok_Score___init__ (P := P) (w := w) (base := base) T (ini_mk mkS kpS d_Score___init__ (fun _ _ _ _ _ _ us hl => match us, hl with | [_, _, _], _ => rfl))
  have D_begun := ok_begun (P := P) (w := w) (base := base) T (at_mk X G d_begun (fun _ _ _ _ _ _ us hl => match us, hl with | [_, _, _], _ => rfl)) D_is_score D_Score___init__
  have D_Reader___init__ := ok_Reader___init__ (P := P) (w := w) (base := base) T (ini_mk mkR kpR d_Reader___init__ (fun _ _ _ _ _ _ us hl => match us, hl with | [_, _], _ => rfl))
  have D_Reader_number := ok_Reader_number (P := P) (w := w) (base := base) T (met_mk d_Reader_number (fun _ _ _ _ _ _ us hl => match us, hl with | [_], _ => rfl))
  have D_Reader_item := ok_Reader_item (P := P) (w := w) (base := base) T (met_mk d_Reader_item (fun _ _ _ _ _ _ us hl => match us, hl with | [_], _ => rfl)) D_Reader_number
  have D_Reader_bar := ok_Reader_bar (P := P) (w := w) (base := base) T (met_mk d_Reader_bar (fun _ _ _ _ _ _ us hl => match us, hl with | [_], _ => rfl)) D_Reader_number D_Reader_item
  have D_Reader_bars := ok_Reader_bars (P := P) (w := w) (base := base) T (met_mk d_Reader_bars (fun _ _ _ _ _ _ us hl => match us, hl with | [_], _ => rfl)) D_Reader_number D_Reader_bar
  have D_is_item := ok_is_item (P := P) (w := w) (base := base) T (at_mk X G d_is_item (fun _ _ _ _ _ _ us hl => match us, hl with | [_], _ => rfl))
  have D_is_bar := ok_is_bar (P := P) (w := w) (base := base) T (at_mk X G d_is_bar (fun _ _ _ _ _ _ us hl => match us, hl with | [_, _], _ => rfl)) D_is_item
  have D_Score_many := ok_Score_many (P := P) (w := w) (base := base) T (met_mk d_Score_many (fun _ _ _ _ _ _ us hl => match us, hl with | [_], _ => rfl))
  have D_Score_are_bars := ok_Score_are_bars (P := P) (w := w) (base := base) T (met_mk d_Score_are_bars (fun _ _ _ _ _ _ us hl => match us, hl with | [_, _], _ => rfl)) D_is_bar D_Score_many
  have D_does_rest := ok_does_rest (P := P) (w := w) (base := base) T (at_mk X G d_does_rest (fun _ _ _ _ _ _ us hl => match us, hl with | [_], _ => rfl))
  have D_rest_of := ok_rest_of (P := P) (w := w) (base := base) T (at_mk X G d_rest_of (fun _ _ _ _ _ _ us hl => match us, hl with | [_], _ => rfl))
  have D_as_staff_has := ok_as_staff_has (P := P) (w := w) (base := base) T (at_mk X G d_as_staff_has (fun _ _ _ _ _ _ us hl => match us, hl with | [_, _], _ => rfl)) D_does_rest D_rest_of
  have D_Score_add := ok_Score_add (P := P) (w := w) (base := base) T (met_mk d_Score_add (fun _ _ _ _ _ _ us hl => match us, hl with | [_, _], _ => rfl)) D_as_staff_has
  have D_add_staff := ok_add_staff (P := P) (w := w) (base := base) T (at_mk X G d_add_staff (fun _ _ _ _ _ _ us hl => match us, hl with | [_, _], _ => rfl)) D_Reader___init__ D_Reader_bars D_Score_are_bars D_Score_add
  have D_with_count := ok_with_count (P := P) (w := w) (base := base) T (at_mk X G d_with_count (fun _ _ _ _ _ _ us hl => match us, hl with | [_], _ => rfl))
  have D_told := ok_told (P := P) (w := w) (base := base) T (at_mk X G d_told (fun _ _ _ _ _ _ us hl => match us, hl with | [_], _ => rfl))
  have D_all_told := ok_all_told (P := P) (w := w) (base := base) T (at_mk X G d_all_told (fun _ _ _ _ _ _ us hl => match us, hl with | [_], _ => rfl)) D_told
  have D_staff_told := ok_staff_told (P := P) (w := w) (base := base) T (at_mk X G d_staff_told (fun _ _ _ _ _ _ us hl => match us, hl with | [_, _], _ => rfl)) D_with_count D_all_told
  have D_lists_told := ok_lists_told (P := P) (w := w) (base := base) T (at_mk X G d_lists_told (fun _ _ _ _ _ _ us hl => match us, hl with | [_], _ => rfl)) D_with_count
  have D_piece_told := ok_piece_told (P := P) (w := w) (base := base) T (at_mk X G d_piece_told (fun _ _ _ _ _ _ us hl => match us, hl with | [_], _ => rfl)) D_all_told D_told
  have D_Score_bars_at := ok_Score_bars_at (P := P) (w := w) (base := base) T (met_mk d_Score_bars_at (fun _ _ _ _ _ _ us hl => match us, hl with | [_, _, _], _ => rfl))
  have D_Score_do_rest := ok_Score_do_rest (P := P) (w := w) (base := base) T (met_mk d_Score_do_rest (fun _ _ _ _ _ _ us hl => match us, hl with | [_, _, _], _ => rfl)) D_does_rest D_Score_bars_at
  have D_Score_rest_end := ok_Score_rest_end (P := P) (w := w) (base := base) T (met_mk d_Score_rest_end (fun _ _ _ _ _ _ us hl => match us, hl with | [_, _, _], _ => rfl)) D_Score_many D_Score_do_rest
  have D_Score_cue_staff := ok_Score_cue_staff (P := P) (w := w) (base := base) T (met_mk d_Score_cue_staff (fun _ _ _ _ _ _ us hl => match us, hl with | [_, _, _], _ => rfl)) D_does_rest
  have D_Score_rest_pieces := ok_Score_rest_pieces (P := P) (w := w) (base := base) T (met_mk d_Score_rest_pieces (fun _ _ _ _ _ _ us hl => match us, hl with | [_, _, _, _, _], _ => rfl)) D_Score_cue_staff
  have D_Score_drawn := ok_Score_drawn (P := P) (w := w) (base := base) T (met_mk d_Score_drawn (fun _ _ _ _ _ _ us hl => match us, hl with | [_, _, _], _ => rfl)) D_Score_many D_Score_do_rest D_Score_rest_end D_Score_rest_pieces D_Score_bars_at
  have D_draw := ok_draw (P := P) (w := w) (base := base) T (at_mk X G d_draw (fun _ _ _ _ _ _ us hl => match us, hl with | [_, _, _], _ => rfl)) D_lists_told D_piece_told D_Score_drawn
  have D_read_piece := ok_read_piece (P := P) (w := w) (base := base) T (at_mk X G d_read_piece (fun _ _ _ _ _ _ us hl => match us, hl with | [_], _ => rfl)) D_Reader_number D_Reader_bars D_Reader_bar
  have D_read_pieces := ok_read_pieces (P := P) (w := w) (base := base) T (at_mk X G d_read_pieces (fun _ _ _ _ _ _ us hl => match us, hl with | [_], _ => rfl)) D_read_piece D_Reader___init__ D_Reader_number
  have D_Score_is_rest := ok_Score_is_rest (P := P) (w := w) (base := base) T (met_mk d_Score_is_rest (fun _ _ _ _ _ _ us hl => match us, hl with | [_, _, _], _ => rfl)) D_Score_many
  have D_Score_is_full := ok_Score_is_full (P := P) (w := w) (base := base) T (met_mk d_Score_is_full (fun _ _ _ _ _ _ us hl => match us, hl with | [_, _, _, _], _ => rfl)) D_is_bar D_does_rest D_Score_many
  have D_Score_columns_of := ok_Score_columns_of (P := P) (w := w) (base := base) T (met_mk d_Score_columns_of (fun _ _ _ _ _ _ us hl => match us, hl with | [_, _, _, _], _ => rfl)) D_rest_of D_as_staff_has D_is_bar D_Score_is_rest D_Score_is_full D_Score_many
  have D_Score_put_back := ok_Score_put_back (P := P) (w := w) (base := base) T (met_mk d_Score_put_back (fun _ _ _ _ _ _ us hl => match us, hl with | [_, _, _], _ => rfl)) D_Score_columns_of D_Score_many
  have D_put_back := ok_put_back (P := P) (w := w) (base := base) T (at_mk X G d_put_back (fun _ _ _ _ _ _ us hl => match us, hl with | [_, _, _], _ => rfl)) D_read_pieces D_lists_told D_all_told D_Score_put_back
  have D_is_chord_pair := ok_is_chord_pair (P := P) (w := w) (base := base) T (at_mk X G d_is_chord_pair (fun _ _ _ _ _ _ us hl => match us, hl with | [_, _], _ => rfl))
  have D_mode_of := ok_mode_of (P := P) (w := w) (base := base) T (at_mk X G d_mode_of (fun _ _ _ _ _ _ us hl => match us, hl with | [_, _], _ => rfl)) D_does_rest D_is_chord_pair
  have D_lines_of := ok_lines_of (P := P) (w := w) (base := base) T (at_mk X G d_lines_of (fun _ _ _ _ _ _ us hl => match us, hl with | [_, _, _], _ => rfl))
  have D_put_on_one := ok_put_on_one (P := P) (w := w) (base := base) T (at_mk X G d_put_on_one (fun _ _ _ _ _ _ us hl => match us, hl with | [_, _], _ => rfl)) D_mode_of D_lines_of
  have D_two := ok_two (P := P) (w := w) (base := base) T (at_mk X G d_two (fun _ _ _ _ _ _ us hl => match us, hl with | [_, _, _], _ => rfl)) D_put_on_one D_lists_told D_all_told
  have D_read_labelled := ok_read_labelled (P := P) (w := w) (base := base) T (at_mk X G d_read_labelled (fun _ _ _ _ _ _ us hl => match us, hl with | [_], _ => rfl)) D_Reader_number D_Reader_bars
  have D_is_for_two := ok_is_for_two (P := P) (w := w) (base := base) T (at_mk X G d_is_for_two (fun _ _ _ _ _ _ us hl => match us, hl with | [_], _ => rfl))
  have D_is_right_bar := ok_is_right_bar (P := P) (w := w) (base := base) T (at_mk X G d_is_right_bar (fun _ _ _ _ _ _ us hl => match us, hl with | [_, _, _, _], _ => rfl)) D_is_bar D_is_for_two
  have D_voice_of := ok_voice_of (P := P) (w := w) (base := base) T (at_mk X G d_voice_of (fun _ _ _ _ _ _ us hl => match us, hl with | [_, _], _ => rfl))
  have D_two_of_line := ok_two_of_line (P := P) (w := w) (base := base) T (at_mk X G d_two_of_line (fun _ _ _ _ _ _ us hl => match us, hl with | [_, _, _], _ => rfl)) D_rest_of D_voice_of
  have D_two_of := ok_two_of (P := P) (w := w) (base := base) T (at_mk X G d_two_of (fun _ _ _ _ _ _ us hl => match us, hl with | [_, _, _], _ => rfl)) D_rest_of D_two_of_line
  have D_parted := ok_parted (P := P) (w := w) (base := base) T (at_mk X G d_parted (fun _ _ _ _ _ _ us hl => match us, hl with | [_, _], _ => rfl)) D_is_right_bar D_two_of
  have D_parted_told := ok_parted_told (P := P) (w := w) (base := base) T (at_mk X G d_parted_told (fun _ _ _ _ _ _ us hl => match us, hl with | [_, _], _ => rfl)) D_read_labelled D_parted D_with_count D_all_told D_Reader___init__ D_Reader_number D_Score_many
  have D_answer := ok_answer (P := P) (w := w) (base := base) T (at_mk X G d_answer (fun _ _ _ _ _ _ us hl => match us, hl with | [_, _, _, _], _ => rfl)) D_add_staff D_staff_told D_draw D_put_back D_two D_parted_told
  exact ok_answers T FF D_rows_at D_begun D_answer D_Score___init__
end Ps

open PySem PySem.W PyProof.Rows
set_option maxRecDepth 100000 in
set_option maxHeartbeats 8000000 in
theorem PySem.Challenge.cw_partscore_s01_answers_holds : PySem.Challenge.rw_partscore_s01_answers.Holds := by
  w_on; k_headS; (case hw => exact ⟨[.list [.int 0, .int 0, .int 0]], by decide +kernel, by decide +kernel⟩)
  k_fillS
  refine L2.walk_specK (r := PySem.Challenge.rw_partscore_s01_answers) (k := 9) (CX := L2.CX0) (ps := ["calls"]) (sp := Ps.sp_answers) (by decide +kernel) rfl rfl ⟨rfl, by decide, by decide⟩ (fun w h Y => PySem.W.kIn_of Y) ?F ?S (fun _ _ _ _ z => z)
  case F =>
    intro w mg fa h Y KX G hmg
    refine' Ps.all_mk KX G hmg ?aR ?aS ?pgR ?hdR ?poR ?saR ?mkR ?kpR ?pgS ?hdS ?poS ?saS ?mkS ?kpS ?b_len ?b_all ?b_any ?b_sum ?b_range ?b_tuple ?b_list ?b_zip ?b_set ?b_int ?c_MOST_ITEMS ?c_MOST_KEYS ?c_MOST_KEY ?c_BOTH_REST ?c_FIRST_ALONE ?c_SECOND_ALONE ?c_SAME ?c_CHORDS ?c_APART ?c_REST ?c_BAR ?c_CUE ?c_MOST_STAVES ?c_MOST_BARS ?c_MOST_LENGTH ?c_MOST_BREAKS ?c_BAD ?c_NO_STAFF ?c_FULL ?t_numbers ?t_rows ?n_row ?n_at ?n_lengths ?n_breaks ?n_staves ?d_rows_at ?d_is_score ?d_Score___init__ ?d_begun ?d_Reader___init__ ?d_Reader_number ?d_Reader_item ?d_Reader_bar ?d_Reader_bars ?d_is_item ?d_is_bar ?d_Score_many ?d_Score_are_bars ?d_does_rest ?d_rest_of ?d_as_staff_has ?d_Score_add ?d_add_staff ?d_with_count ?d_told ?d_all_told ?d_staff_told ?d_lists_told ?d_piece_told ?d_Score_bars_at ?d_Score_do_rest ?d_Score_rest_end ?d_Score_cue_staff ?d_Score_rest_pieces ?d_Score_drawn ?d_draw ?d_read_piece ?d_read_pieces ?d_Score_is_rest ?d_Score_is_full ?d_Score_columns_of ?d_Score_put_back ?d_put_back ?d_is_chord_pair ?d_mode_of ?d_lines_of ?d_put_on_one ?d_two ?d_read_labelled ?d_is_for_two ?d_is_right_bar ?d_voice_of ?d_two_of_line ?d_two_of ?d_parted ?d_parted_told ?d_answer ?d_answers
    (case aR => k_is); (case aS => k_is)
    (case pgR => k_is); (case hdR => k_is); (case poR => k_is); (case saR => k_is); (case mkR => k_is); (case kpR => k_is)
    (case pgS => k_is); (case hdS => k_is); (case poS => k_is); (case saS => k_is); (case mkS => k_is); (case kpS => k_is)
    (case b_len => k_is)
    (case b_all => k_is)
    (case b_any => k_is)
    (case b_sum => k_is)
    (case b_range => k_is)
    (case b_tuple => k_is)
    (case b_list => k_is)
    (case b_zip => k_is)
    (case b_set => k_is)
    (case b_int => k_is)
    (case c_MOST_ITEMS => refine' Ps.ci_mk ?a13; (case a13 => k_is))
    (case c_MOST_KEYS => refine' Ps.ci_mk ?a14; (case a14 => k_is))
    (case c_MOST_KEY => refine' Ps.ci_mk ?a15; (case a15 => k_is))
    (case c_BOTH_REST => refine' Ps.ci_mk ?a16; (case a16 => k_is))
    (case c_FIRST_ALONE => refine' Ps.ci_mk ?a17; (case a17 => k_is))
    (case c_SECOND_ALONE => refine' Ps.ci_mk ?a18; (case a18 => k_is))
    (case c_SAME => refine' Ps.ci_mk ?a19; (case a19 => k_is))
    (case c_CHORDS => refine' Ps.ci_mk ?a20; (case a20 => k_is))
    (case c_APART => refine' Ps.ci_mk ?a21; (case a21 => k_is))
    (case c_REST => refine' Ps.ci_mk ?a22; (case a22 => k_is))
    (case c_BAR => refine' Ps.ci_mk ?a23; (case a23 => k_is))
    (case c_CUE => refine' Ps.ci_mk ?a24; (case a24 => k_is))
    (case c_MOST_STAVES => refine' Ps.ci_mk ?a25; (case a25 => k_is))
    (case c_MOST_BARS => refine' Ps.ci_mk ?a26; (case a26 => k_is))
    (case c_MOST_LENGTH => refine' Ps.ci_mk ?a27; (case a27 => k_is))
    (case c_MOST_BREAKS => refine' Ps.ci_mk ?a28; (case a28 => k_is))
    (case c_BAD => refine' Ps.ci_mk ?a29; (case a29 => k_is))
    (case c_NO_STAFF => refine' Ps.ci_mk ?a30; (case a30 => k_is))
    (case c_FULL => refine' Ps.ci_mk ?a31; (case a31 => k_is))
    (case t_numbers => refine' Ps.ti_mk ?a32 ?l32 ?z32 ?v32; (case a32 => k_is); (case l32 => k_is); (case z32 => decide); (case v32 => exact .cons ⟨_, rfl⟩ (.cons ⟨_, rfl⟩ (.cons ⟨_, rfl⟩ (.cons ⟨_, rfl⟩ (.cons ⟨_, rfl⟩ (.cons ⟨_, rfl⟩ (.cons ⟨_, rfl⟩ (.nil)))))))))
    (case t_rows => refine' Ps.ti_mk ?a33 ?l33 ?z33 ?v33; (case a33 => k_is); (case l33 => k_is); (case z33 => decide); (case v33 => exact .cons ⟨_, rfl⟩ (.cons ⟨_, rfl⟩ (.cons ⟨_, rfl⟩ (.cons ⟨_, rfl⟩ (.cons ⟨_, rfl⟩ (.cons ⟨_, rfl⟩ (.cons ⟨_, rfl⟩ (.nil)))))))))
    (case n_row => k_is)
    (case n_at => k_is)
    (case n_lengths => k_is)
    (case n_breaks => k_is)
    (case n_staves => k_is)
    (case d_rows_at => refine' Ps.fi_mk ?a39 ?l39 ?c39 ?k39; (case a39 => k_is); (case l39 => k_is); (case c39 => k_is); (case k39 => k_is))
    (case d_is_score => refine' Ps.fi_mk ?a40 ?l40 ?c40 ?k40; (case a40 => k_is); (case l40 => k_is); (case c40 => k_is); (case k40 => k_is))
    (case d_Score___init__ => refine' Ps.mi_mk ?a41 ?i41 ?l41 ?c41 ?k41; (case a41 => k_is); (case i41 => k_is); (case l41 => k_is); (case c41 => k_is); (case k41 => k_is))
    (case d_begun => refine' Ps.fi_mk ?a42 ?l42 ?c42 ?k42; (case a42 => k_is); (case l42 => k_is); (case c42 => k_is); (case k42 => k_is))
    (case d_Reader___init__ => refine' Ps.mi_mk ?a43 ?i43 ?l43 ?c43 ?k43; (case a43 => k_is); (case i43 => k_is); (case l43 => k_is); (case c43 => k_is); (case k43 => k_is))
    (case d_Reader_number => refine' Ps.mi_mk ?a44 ?i44 ?l44 ?c44 ?k44; (case a44 => k_is); (case i44 => k_is); (case l44 => k_is); (case c44 => k_is); (case k44 => k_is))
    (case d_Reader_item => refine' Ps.mi_mk ?a45 ?i45 ?l45 ?c45 ?k45; (case a45 => k_is); (case i45 => k_is); (case l45 => k_is); (case c45 => k_is); (case k45 => k_is))
    (case d_Reader_bar => refine' Ps.mi_mk ?a46 ?i46 ?l46 ?c46 ?k46; (case a46 => k_is); (case i46 => k_is); (case l46 => k_is); (case c46 => k_is); (case k46 => k_is))
    (case d_Reader_bars => refine' Ps.mi_mk ?a47 ?i47 ?l47 ?c47 ?k47; (case a47 => k_is); (case i47 => k_is); (case l47 => k_is); (case c47 => k_is); (case k47 => k_is))
    (case d_is_item => refine' Ps.fi_mk ?a48 ?l48 ?c48 ?k48; (case a48 => k_is); (case l48 => k_is); (case c48 => k_is); (case k48 => k_is))
    (case d_is_bar => refine' Ps.fi_mk ?a49 ?l49 ?c49 ?k49; (case a49 => k_is); (case l49 => k_is); (case c49 => k_is); (case k49 => k_is))
    (case d_Score_many => refine' Ps.mi_mk ?a50 ?i50 ?l50 ?c50 ?k50; (case a50 => k_is); (case i50 => k_is); (case l50 => k_is); (case c50 => k_is); (case k50 => k_is))
    (case d_Score_are_bars => refine' Ps.mi_mk ?a51 ?i51 ?l51 ?c51 ?k51; (case a51 => k_is); (case i51 => k_is); (case l51 => k_is); (case c51 => k_is); (case k51 => k_is))
    (case d_does_rest => refine' Ps.fi_mk ?a52 ?l52 ?c52 ?k52; (case a52 => k_is); (case l52 => k_is); (case c52 => k_is); (case k52 => k_is))
    (case d_rest_of => refine' Ps.fi_mk ?a53 ?l53 ?c53 ?k53; (case a53 => k_is); (case l53 => k_is); (case c53 => k_is); (case k53 => k_is))
    (case d_as_staff_has => refine' Ps.fi_mk ?a54 ?l54 ?c54 ?k54; (case a54 => k_is); (case l54 => k_is); (case c54 => k_is); (case k54 => k_is))
    (case d_Score_add => refine' Ps.mi_mk ?a55 ?i55 ?l55 ?c55 ?k55; (case a55 => k_is); (case i55 => k_is); (case l55 => k_is); (case c55 => k_is); (case k55 => k_is))
    (case d_add_staff => refine' Ps.fi_mk ?a56 ?l56 ?c56 ?k56; (case a56 => k_is); (case l56 => k_is); (case c56 => k_is); (case k56 => k_is))
    (case d_with_count => refine' Ps.fi_mk ?a57 ?l57 ?c57 ?k57; (case a57 => k_is); (case l57 => k_is); (case c57 => k_is); (case k57 => k_is))
    (case d_told => refine' Ps.fi_mk ?a58 ?l58 ?c58 ?k58; (case a58 => k_is); (case l58 => k_is); (case c58 => k_is); (case k58 => k_is))
    (case d_all_told => refine' Ps.fi_mk ?a59 ?l59 ?c59 ?k59; (case a59 => k_is); (case l59 => k_is); (case c59 => k_is); (case k59 => k_is))
    (case d_staff_told => refine' Ps.fi_mk ?a60 ?l60 ?c60 ?k60; (case a60 => k_is); (case l60 => k_is); (case c60 => k_is); (case k60 => k_is))
    (case d_lists_told => refine' Ps.fi_mk ?a61 ?l61 ?c61 ?k61; (case a61 => k_is); (case l61 => k_is); (case c61 => k_is); (case k61 => k_is))
    (case d_piece_told => refine' Ps.fi_mk ?a62 ?l62 ?c62 ?k62; (case a62 => k_is); (case l62 => k_is); (case c62 => k_is); (case k62 => k_is))
    (case d_Score_bars_at => refine' Ps.mi_mk ?a63 ?i63 ?l63 ?c63 ?k63; (case a63 => k_is); (case i63 => k_is); (case l63 => k_is); (case c63 => k_is); (case k63 => k_is))
    (case d_Score_do_rest => refine' Ps.mi_mk ?a64 ?i64 ?l64 ?c64 ?k64; (case a64 => k_is); (case i64 => k_is); (case l64 => k_is); (case c64 => k_is); (case k64 => k_is))
    (case d_Score_rest_end => refine' Ps.mi_mk ?a65 ?i65 ?l65 ?c65 ?k65; (case a65 => k_is); (case i65 => k_is); (case l65 => k_is); (case c65 => k_is); (case k65 => k_is))
    (case d_Score_cue_staff => refine' Ps.mi_mk ?a66 ?i66 ?l66 ?c66 ?k66; (case a66 => k_is); (case i66 => k_is); (case l66 => k_is); (case c66 => k_is); (case k66 => k_is))
    (case d_Score_rest_pieces => refine' Ps.mi_mk ?a67 ?i67 ?l67 ?c67 ?k67; (case a67 => k_is); (case i67 => k_is); (case l67 => k_is); (case c67 => k_is); (case k67 => k_is))
    (case d_Score_drawn => refine' Ps.mi_mk ?a68 ?i68 ?l68 ?c68 ?k68; (case a68 => k_is); (case i68 => k_is); (case l68 => k_is); (case c68 => k_is); (case k68 => k_is))
    (case d_draw => refine' Ps.fi_mk ?a69 ?l69 ?c69 ?k69; (case a69 => k_is); (case l69 => k_is); (case c69 => k_is); (case k69 => k_is))
    (case d_read_piece => refine' Ps.fi_mk ?a70 ?l70 ?c70 ?k70; (case a70 => k_is); (case l70 => k_is); (case c70 => k_is); (case k70 => k_is))
    (case d_read_pieces => refine' Ps.fi_mk ?a71 ?l71 ?c71 ?k71; (case a71 => k_is); (case l71 => k_is); (case c71 => k_is); (case k71 => k_is))
    (case d_Score_is_rest => refine' Ps.mi_mk ?a72 ?i72 ?l72 ?c72 ?k72; (case a72 => k_is); (case i72 => k_is); (case l72 => k_is); (case c72 => k_is); (case k72 => k_is))
    (case d_Score_is_full => refine' Ps.mi_mk ?a73 ?i73 ?l73 ?c73 ?k73; (case a73 => k_is); (case i73 => k_is); (case l73 => k_is); (case c73 => k_is); (case k73 => k_is))
    (case d_Score_columns_of => refine' Ps.mi_mk ?a74 ?i74 ?l74 ?c74 ?k74; (case a74 => k_is); (case i74 => k_is); (case l74 => k_is); (case c74 => k_is); (case k74 => k_is))
    (case d_Score_put_back => refine' Ps.mi_mk ?a75 ?i75 ?l75 ?c75 ?k75; (case a75 => k_is); (case i75 => k_is); (case l75 => k_is); (case c75 => k_is); (case k75 => k_is))
    (case d_put_back => refine' Ps.fi_mk ?a76 ?l76 ?c76 ?k76; (case a76 => k_is); (case l76 => k_is); (case c76 => k_is); (case k76 => k_is))
    (case d_is_chord_pair => refine' Ps.fi_mk ?a77 ?l77 ?c77 ?k77; (case a77 => k_is); (case l77 => k_is); (case c77 => k_is); (case k77 => k_is))
    (case d_mode_of => refine' Ps.fi_mk ?a78 ?l78 ?c78 ?k78; (case a78 => k_is); (case l78 => k_is); (case c78 => k_is); (case k78 => k_is))
    (case d_lines_of => refine' Ps.fi_mk ?a79 ?l79 ?c79 ?k79; (case a79 => k_is); (case l79 => k_is); (case c79 => k_is); (case k79 => k_is))
    (case d_put_on_one => refine' Ps.fi_mk ?a80 ?l80 ?c80 ?k80; (case a80 => k_is); (case l80 => k_is); (case c80 => k_is); (case k80 => k_is))
    (case d_two => refine' Ps.fi_mk ?a81 ?l81 ?c81 ?k81; (case a81 => k_is); (case l81 => k_is); (case c81 => k_is); (case k81 => k_is))
    (case d_read_labelled => refine' Ps.fi_mk ?a82 ?l82 ?c82 ?k82; (case a82 => k_is); (case l82 => k_is); (case c82 => k_is); (case k82 => k_is))
    (case d_is_for_two => refine' Ps.fi_mk ?a83 ?l83 ?c83 ?k83; (case a83 => k_is); (case l83 => k_is); (case c83 => k_is); (case k83 => k_is))
    (case d_is_right_bar => refine' Ps.fi_mk ?a84 ?l84 ?c84 ?k84; (case a84 => k_is); (case l84 => k_is); (case c84 => k_is); (case k84 => k_is))
    (case d_voice_of => refine' Ps.fi_mk ?a85 ?l85 ?c85 ?k85; (case a85 => k_is); (case l85 => k_is); (case c85 => k_is); (case k85 => k_is))
    (case d_two_of_line => refine' Ps.fi_mk ?a86 ?l86 ?c86 ?k86; (case a86 => k_is); (case l86 => k_is); (case c86 => k_is); (case k86 => k_is))
    (case d_two_of => refine' Ps.fi_mk ?a87 ?l87 ?c87 ?k87; (case a87 => k_is); (case l87 => k_is); (case c87 => k_is); (case k87 => k_is))
    (case d_parted => refine' Ps.fi_mk ?a88 ?l88 ?c88 ?k88; (case a88 => k_is); (case l88 => k_is); (case c88 => k_is); (case k88 => k_is))
    (case d_parted_told => refine' Ps.fi_mk ?a89 ?l89 ?c89 ?k89; (case a89 => k_is); (case l89 => k_is); (case c89 => k_is); (case k89 => k_is))
    (case d_answer => refine' Ps.fi_mk ?a90 ?l90 ?c90 ?k90; (case a90 => k_is); (case l90 => k_is); (case c90 => k_is); (case k90 => k_is))
    (case d_answers => refine' Ps.fi_mk ?a91 ?l91 ?c91 ?k91; (case a91 => k_is); (case l91 => k_is); (case c91 => k_is); (case k91 => k_is))
  case S =>
    intro K H xs a hO hwi hask hx
    cases hx with
    | cons h1 h2 =>
      cases h2
      cases h1 with
      | lst hs ha =>
        have e := L2.ints_dw a.1 _ ha
        subst e
        exact ⟨_, a.1, rfl, hs, hask, fun H' p hp => .lst (L2.SqL.of hp) (L2.dw_ints _)⟩
