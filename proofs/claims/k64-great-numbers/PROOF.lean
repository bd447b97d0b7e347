import PyProof.Rows.All
import Wide.All
import OpenK.AllK
import Wide.FinOn
import HandS.ForMost
import HandS.ForExc
import HandS.EndBits
import HandS.Flow
import HandS.TupAny
import HandS.Deep
import HandS.Wide
import HandS.IsInst
import HandS.Strs
import HandS.Style
import HandS.WideBits
import HandS.SortInts
import HandS.DictComp
import PyProof.AutoSeq1
import HandS.StrMore
import HandS.WideMore
import HandS.ExcIs
import HandS.TryOnly
import HandS.CallSlots
import HandS.Zip
import HandS.Defaults
import PySem.Challenge.RW_testsenough_k64_great_numbers_in_tests
import HandS.Codes
set_option Elab.async false
set_option linter.all false
set_option maxRecDepth 100000
/-! Y1: values as plain data (D), a store of mutable objects (Sto), how they lie in the layer's abstract heap. -/
namespace Y
open PySem L2

inductive D where
  | non | bl (b : Bool) | int (i : Int) | str (x : Str) | tup (xs : List D) | ro (xs : List D) | loc (k : Nat) | gl (x : Str) | ty (n : String)

inductive O where
  | lst (xs : List D)
  | dic (kvs : List (Key × D))
  | ins (c : Str) (fs : List (Str × D))

abbrev Sto := List O
abbrev Ev := List (Option D)

structure Wd where
  K : PySem.W.Frag
  mg : Str → Option Value
abbrev wd (X : Cx) : Wd := ⟨X.K, X.mg⟩

/-- a list that nobody writes -/
def SqR (K : PySem.W.Frag) (H : Hp) (a : Addr) (xs : List V) : Prop :=
  (∃ o, H a = some (.frz o (.lst xs))) ∨
    ∃ (o : Obj) (its : Array Value) (n : Nat), K.lookup a = some o ∧ o.cls = .type "list" ∧ o.dict = none ∧ o.data = .seq its n ∧ its.size ≤ sizeLine ∧ Vals xs its.toList
theorem SqR.sqL {K : PySem.W.Frag} {H : Hp} {a : Addr} {xs : List V} (h : SqR K H a xs) : SqL K H a xs := by
  rcases h with ⟨o, h⟩ | h
  · exact .inl (.inr ⟨o, h⟩)
  · exact .inr h

/-- a tuple: tracked, or of the written part -/
def SqU (K : PySem.W.Frag) (H : Hp) (a : Addr) (xs : List V) : Prop :=
  H a = some (.tup xs) ∨
    ∃ (o : Obj) (its : Array Value) (n : Nat), K.lookup a = some o ∧ o.cls = .type "tuple" ∧ o.data = .seq its n ∧ its.size ≤ sizeLine ∧ Vals xs its.toList
theorem SqU.sqT {K : PySem.W.Frag} {H : Hp} {a : Addr} {xs : List V} (h : SqU K H a xs) : SqT K H a xs := by
  rcases h with h | h
  · exact .inl (.inl h)
  · exact .inr h
theorem SqU.of {K : PySem.W.Frag} {H : Hp} {a : Addr} {xs : List V} (h : H a = some (.tup xs)) : SqU K H a xs := .inl h

mutual
def Rp (w : Wd) (ρ : Nat → Addr) (n : Nat) (H : Hp) : V → D → Prop
  | v, .non => v = .non
  | v, .bl b => v = .bl b
  | v, .int i => v = .int i
  | v, .str x => v = .str x
  | v, .tup xs => ∃ a vs, v = .ref a ∧ SqU w.K H a vs ∧ RpL w ρ n H vs xs
  | v, .ro xs => ∃ a vs, v = .ref a ∧ SqR w.K H a vs ∧ RpL w ρ n H vs xs
  | v, .loc k => k < n ∧ v = .ref (ρ k)
  | v, .gl x => ∃ u, w.mg x = some u ∧ RelV v u
  | v, .ty n => v = .ty n
def RpL (w : Wd) (ρ : Nat → Addr) (n : Nat) (H : Hp) : List V → List D → Prop
  | vs, [] => vs = []
  | vs, d :: ds => ∃ v r, vs = v :: r ∧ Rp w ρ n H v d ∧ RpL w ρ n H r ds
end
def RpA {κ : Type} (w : Wd) (ρ : Nat → Addr) (n : Nat) (H : Hp) : List (κ × V) → List (κ × D) → Prop
  | vs, [] => vs = []
  | vs, (k, d) :: ds => ∃ v r, vs = (k, v) :: r ∧ Rp w ρ n H v d ∧ RpA w ρ n H r ds

def RO (w : Wd) (ρ : Nat → Addr) (n : Nat) (H : Hp) : HO → O → Prop
  | ho, .lst xs => ∃ vs, ho = .lst vs ∧ RpL w ρ n H vs xs
  | ho, .dic kvs => ∃ vs, ho = .dK vs ∧ RpA w ρ n H vs kvs
  | ho, .ins c fs => ∃ C dx vs, w.mg c = some (.ref C) ∧ ho = .ins C dx vs ∧ RpA w ρ n H vs fs

structure RS (w : Wd) (ρ : Nat → Addr) (H : Hp) (s : Sto) : Prop where
  obj : ∀ k o, s[k]? = some o → ∃ ho, H (ρ k) = some ho ∧ RO w ρ s.length H ho o
  inj : ∀ i j, i < s.length → j < s.length → ρ i = ρ j → i = j

structure RE (w : Wd) (ρ : Nat → Addr) (n : Nat) (H : Hp) (σ : St) (E : Ev) : Prop where
  len : σ.length = E.length
  val : ∀ (i : Nat) (d : D), E[i]? = some (some d) → ∃ v, σ[i]? = some (some v) ∧ Rp w ρ n H v d

def Fz : HO → Prop
  | .tup _ => True
  | .frz _ _ => True
  | _ => False

/-- a later heap -/
structure Lat (ρ : Nat → Addr) (n : Nat) (H : Hp) (ρ' : Nat → Addr) (n' : Nat) (H' : Hp) : Prop where
  le : n ≤ n'
  agree : ∀ k, k < n → ρ' k = ρ k
  keep : ∀ a o, H a = some o → (∀ k, k < n → ρ k ≠ a) → H' a = some o
  froz : ∀ a o, H a = some o → Fz o → H' a = some o
  dom : ∀ a, H' a = none → H a = none
  new : ∀ k, n ≤ k → k < n' → H (ρ' k) = none

theorem Lat.refl {ρ : Nat → Addr} {n : Nat} {H : Hp} : Lat ρ n H ρ n H :=
  ⟨Nat.le_refl _, fun _ _ => rfl, fun _ _ h _ => h, fun _ _ h _ => h, fun _ h => h, fun k h1 h2 => absurd (Nat.lt_of_lt_of_le h2 h1) (Nat.lt_irrefl _)⟩
theorem Lat.trans {ρ ρ1 ρ2 : Nat → Addr} {n n1 n2 : Nat} {H H1 H2 : Hp} (a : Lat ρ n H ρ1 n1 H1) (b : Lat ρ1 n1 H1 ρ2 n2 H2) : Lat ρ n H ρ2 n2 H2 where
  le := Nat.le_trans a.le b.le
  agree := fun k h => (b.agree k (Nat.lt_of_lt_of_le h a.le)).trans (a.agree k h)
  keep := fun c o h hk => b.keep c o (a.keep c o h hk) fun k hk1 e => by
    by_cases hn : k < n
    · exact hk k hn ((a.agree k hn).symm.trans e)
    · have z := a.new k (Nat.le_of_not_lt hn) hk1
      rw [e, h] at z
      cases z
  froz := fun c o h f => b.froz c o (a.froz c o h f) f
  dom := fun c h => a.dom c (b.dom c h)
  new := fun k h1 h2 => by
    by_cases hn : k < n1
    · rw [b.agree k hn]
      exact a.new k h1 hn
    · exact a.dom _ (b.new k (Nat.le_of_not_lt hn) h2)

section
variable {w : Wd} {ρ ρ' : Nat → Addr} {n n' : Nat} {H H' : Hp}
theorem SqT.lat {K : PySem.W.Frag} {a : Addr} {xs : List V} (L : Lat ρ n H ρ' n' H') (h : SqT K H a xs) : SqT K H' a xs := by
  rcases h with (h | ⟨o, h⟩) | h
  · exact .inl (.inl (L.froz _ _ h trivial))
  · exact .inl (.inr ⟨o, L.froz _ _ h trivial⟩)
  · exact .inr h
theorem SqU.lat {K : PySem.W.Frag} {a : Addr} {xs : List V} (L : Lat ρ n H ρ' n' H') (h : SqU K H a xs) : SqU K H' a xs := by
  rcases h with h | h
  · exact .inl (L.froz _ _ h trivial)
  · exact .inr h
theorem SqR.lat {K : PySem.W.Frag} {a : Addr} {xs : List V} (L : Lat ρ n H ρ' n' H') (h : SqR K H a xs) : SqR K H' a xs := by
  rcases h with ⟨o, h⟩ | h
  · exact .inl ⟨o, L.froz _ _ h trivial⟩
  · exact .inr h
mutual
theorem Rp.lat (L : Lat ρ n H ρ' n' H') : ∀ {v : V} (d : D), Rp w ρ n H v d → Rp w ρ' n' H' v d
  | v, .non, h => by unfold Rp at h ⊢; exact h
  | v, .bl _, h => by unfold Rp at h ⊢; exact h
  | v, .int _, h => by unfold Rp at h ⊢; exact h
  | v, .str _, h => by unfold Rp at h ⊢; exact h
  | v, .tup xs, h => by
    unfold Rp at h ⊢
    obtain ⟨a, vs, e, q, r⟩ := h
    exact ⟨a, vs, e, SqU.lat L q, RpL.lat L xs r⟩
  | v, .ro xs, h => by
    unfold Rp at h ⊢
    obtain ⟨a, vs, e, q, r⟩ := h
    exact ⟨a, vs, e, SqR.lat L q, RpL.lat L xs r⟩
  | v, .loc k, h => by
    unfold Rp at h ⊢
    exact ⟨Nat.lt_of_lt_of_le h.1 L.le, by rw [L.agree k h.1]; exact h.2⟩
  | v, .gl _, h => by unfold Rp at h ⊢; exact h
  | v, .ty _, h => by unfold Rp at h ⊢; exact h
theorem RpL.lat (L : Lat ρ n H ρ' n' H') : ∀ {vs : List V} (ds : List D), RpL w ρ n H vs ds → RpL w ρ' n' H' vs ds
  | vs, [], h => by unfold RpL at h ⊢; exact h
  | vs, d :: ds, h => by
    unfold RpL at h ⊢
    obtain ⟨v, r, e, h1, h2⟩ := h
    exact ⟨v, r, e, Rp.lat L d h1, RpL.lat L ds h2⟩
end
theorem RpA.lat {κ : Type} (L : Lat ρ n H ρ' n' H') : ∀ {vs : List (κ × V)} (ds : List (κ × D)), RpA w ρ n H vs ds → RpA w ρ' n' H' vs ds
  | vs, [], h => by unfold RpA at h ⊢; exact h
  | vs, (k, d) :: ds, h => by
    unfold RpA at h ⊢
    obtain ⟨v, r, e, h1, h2⟩ := h
    exact ⟨v, r, e, Rp.lat L d h1, RpA.lat L ds h2⟩
theorem RO.lat (L : Lat ρ n H ρ' n' H') {ho : HO} {o : O} (h : RO w ρ n H ho o) : RO w ρ' n' H' ho o := by
  cases o with
  | lst xs =>
    obtain ⟨vs, e, r⟩ := h
    exact ⟨vs, e, RpL.lat L _ r⟩
  | dic kvs =>
    obtain ⟨vs, e, r⟩ := h
    exact ⟨vs, e, RpA.lat L _ r⟩
  | ins c fs =>
    obtain ⟨C, dx, vs, m, e, r⟩ := h
    exact ⟨C, dx, vs, m, e, RpA.lat L _ r⟩
theorem RE.lat {σ : St} {E : Ev} (L : Lat ρ n H ρ' n' H') (h : RE w ρ n H σ E) : RE w ρ' n' H' σ E :=
  ⟨h.len, fun i d e => let ⟨v, e1, r⟩ := h.val i d e; ⟨v, e1, Rp.lat L d r⟩⟩
end

section
variable {w : Wd} {ρ ρ' : Nat → Addr} {n n' : Nat} {H : Hp}
mutual
theorem Rp.up (ag : ∀ k, k < n → ρ' k = ρ k) (le : n ≤ n') : ∀ {v : V} (d : D), Rp w ρ n H v d → Rp w ρ' n' H v d
  | v, .non, h => by unfold Rp at h ⊢; exact h
  | v, .bl _, h => by unfold Rp at h ⊢; exact h
  | v, .int _, h => by unfold Rp at h ⊢; exact h
  | v, .str _, h => by unfold Rp at h ⊢; exact h
  | v, .tup xs, h => by
    unfold Rp at h ⊢
    obtain ⟨a, vs, e, q, r⟩ := h
    exact ⟨a, vs, e, q, RpL.up ag le xs r⟩
  | v, .ro xs, h => by
    unfold Rp at h ⊢
    obtain ⟨a, vs, e, q, r⟩ := h
    exact ⟨a, vs, e, q, RpL.up ag le xs r⟩
  | v, .loc k, h => by
    unfold Rp at h ⊢
    exact ⟨Nat.lt_of_lt_of_le h.1 le, by rw [ag k h.1]; exact h.2⟩
  | v, .gl _, h => by unfold Rp at h ⊢; exact h
  | v, .ty _, h => by unfold Rp at h ⊢; exact h
theorem RpL.up (ag : ∀ k, k < n → ρ' k = ρ k) (le : n ≤ n') : ∀ {vs : List V} (ds : List D), RpL w ρ n H vs ds → RpL w ρ' n' H vs ds
  | vs, [], h => by unfold RpL at h ⊢; exact h
  | vs, d :: ds, h => by
    unfold RpL at h ⊢
    obtain ⟨v, r, e, h1, h2⟩ := h
    exact ⟨v, r, e, Rp.up ag le d h1, RpL.up ag le ds h2⟩
end
theorem RpA.up {κ : Type} (ag : ∀ k, k < n → ρ' k = ρ k) (le : n ≤ n') : ∀ {vs : List (κ × V)} (ds : List (κ × D)), RpA w ρ n H vs ds → RpA w ρ' n' H vs ds
  | vs, [], h => by unfold RpA at h ⊢; exact h
  | vs, (k, d) :: ds, h => by
    unfold RpA at h ⊢
    obtain ⟨v, r, e, h1, h2⟩ := h
    exact ⟨v, r, e, Rp.up ag le d h1, RpA.up ag le ds h2⟩
theorem RO.up (ag : ∀ k, k < n → ρ' k = ρ k) (le : n ≤ n') {ho : HO} {o : O} (h : RO w ρ n H ho o) : RO w ρ' n' H ho o := by
  cases o with
  | lst xs =>
    obtain ⟨vs, e, r⟩ := h
    exact ⟨vs, e, RpL.up ag le _ r⟩
  | dic kvs =>
    obtain ⟨vs, e, r⟩ := h
    exact ⟨vs, e, RpA.up ag le _ r⟩
  | ins c fs =>
    obtain ⟨C, dx, vs, m, e, r⟩ := h
    exact ⟨C, dx, vs, m, e, RpA.up ag le _ r⟩
end

theorem RO.nfz {w : Wd} {ρ : Nat → Addr} {n : Nat} {H : Hp} {ho : HO} {o : O} (h : RO w ρ n H ho o) : ¬ Fz ho := by
  cases o with
  | lst xs => obtain ⟨vs, rfl, _⟩ := h; exact id
  | dic kvs => obtain ⟨vs, rfl, _⟩ := h; exact id
  | ins c fs => obtain ⟨C, dx, vs, _, rfl, _⟩ := h; exact id

/-! ### new objects, written objects -/
def ext (ρ : Nat → Addr) (n : Nat) (p : Addr) : Nat → Addr := fun k => if k = n then p else ρ k
theorem ext_lt {ρ : Nat → Addr} {n : Nat} {p : Addr} {k : Nat} (h : k < n) : ext ρ n p k = ρ k := by
  unfold ext; rw [if_neg (Nat.ne_of_lt h)]
theorem ext_eq {ρ : Nat → Addr} {n : Nat} {p : Addr} : ext ρ n p n = p := by unfold ext; rw [if_pos rfl]
section
variable {w : Wd} {ρ : Nat → Addr} {H : Hp} {s : Sto} {p : Addr} {ho : HO} {o : O} {n : Nat}
theorem Lat.fresh (h : H p = none) : Lat ρ n H ρ n (upd H p ho) where
  le := Nat.le_refl _
  agree := fun _ _ => rfl
  keep := fun a u e _ => by rw [upd_ne (ne_of_none e h)]; exact e
  froz := fun a u e _ => by rw [upd_ne (ne_of_none e h)]; exact e
  dom := fun a e => by
    by_cases q : a = p
    · rw [q]; exact h
    · rw [upd_ne q] at e; exact e
  new := fun k h1 h2 => absurd (Nat.lt_of_lt_of_le h2 h1) (Nat.lt_irrefl _)
theorem Lat.alloc (h : H p = none) : Lat ρ n H (ext ρ n p) (n + 1) (upd H p ho) where
  le := Nat.le_succ _
  agree := fun _ h => ext_lt h
  keep := fun a u e _ => by rw [upd_ne (ne_of_none e h)]; exact e
  froz := fun a u e _ => by rw [upd_ne (ne_of_none e h)]; exact e
  dom := fun a e => by
    by_cases q : a = p
    · rw [q]; exact h
    · rw [upd_ne q] at e; exact e
  new := fun k h1 h2 => by
    have e : k = n := by omega
    rw [e, ext_eq]; exact h
theorem RS.ne (r : RS w ρ H s) (h : H p = none) {k : Nat} (hk : k < s.length) : ρ k ≠ p := fun e => by
  obtain ⟨ho, q, _⟩ := r.obj k s[k] (List.getElem?_eq_getElem hk)
  rw [e, h] at q; cases q
theorem RS.fresh (r : RS w ρ H s) (h : H p = none) : RS w ρ (upd H p ho) s :=
  ⟨fun k u e => by
    obtain ⟨hu, q, ro⟩ := r.obj k u e
    exact ⟨hu, by rw [upd_ne (ne_of_none q h)]; exact q, RO.lat (Lat.fresh h) ro⟩, r.inj⟩
theorem RS.alloc (r : RS w ρ H s) (h : H p = none) (ro : RO w ρ s.length H ho o) : RS w (ext ρ s.length p) (upd H p ho) (s ++ [o]) := by
  have hl : (s ++ [o]).length = s.length + 1 := by simp
  refine ⟨fun k u e => ?_, fun i j hi hj e => ?_⟩
  · rw [hl]
    by_cases hk : k < s.length
    · rw [List.getElem?_append_left hk] at e
      obtain ⟨hu, q, ro'⟩ := r.obj k u e
      refine ⟨hu, ?_, RO.lat (Lat.alloc h) ro'⟩
      rw [ext_lt hk, upd_ne (ne_of_none q h)]; exact q
    · have hk2 : k = s.length := by
        have := (List.getElem?_eq_some_iff.mp e).1
        rw [hl] at this; omega
      subst hk2
      rw [List.getElem?_append_right (Nat.le_refl _)] at e
      simp at e
      subst e
      exact ⟨ho, by rw [ext_eq, upd_same], RO.lat (Lat.alloc h) ro⟩
  · rw [hl] at hi hj
    by_cases h1 : i < s.length
    · by_cases h2 : j < s.length
      · rw [ext_lt h1, ext_lt h2] at e; exact r.inj i j h1 h2 e
      · have ej : j = s.length := by omega
        subst ej
        rw [ext_lt h1, ext_eq] at e
        exact absurd e (r.ne h h1)
    · have ei : i = s.length := by omega
      subst ei
      by_cases h2 : j < s.length
      · rw [ext_eq, ext_lt h2] at e
        exact absurd e.symm (r.ne h h2)
      · omega
theorem Lat.set (r : RS w ρ H s) {k : Nat} (hk : k < s.length) (n : Nat) (hn : n = s.length) : Lat ρ n H ρ n (upd H (ρ k) ho) where
  le := Nat.le_refl _
  agree := fun _ _ => rfl
  keep := fun a u e hne => by rw [upd_ne (Ne.symm (hne k (by omega)))]; exact e
  froz := fun a u e f => by
    have : a ≠ ρ k := fun q => by
      obtain ⟨ho', q', ro⟩ := r.obj k s[k] (List.getElem?_eq_getElem hk)
      rw [← q, e] at q'; cases q'
      exact ro.nfz f
    rw [upd_ne this]; exact e
  dom := fun a e => by
    by_cases q : a = ρ k
    · rw [q, upd_same] at e; cases e
    · rw [upd_ne q] at e; exact e
  new := fun k h1 h2 => absurd (Nat.lt_of_lt_of_le h2 h1) (Nat.lt_irrefl _)
theorem RS.set (r : RS w ρ H s) {k : Nat} (hk : k < s.length) (ro : RO w ρ s.length H ho o) : RS w ρ (upd H (ρ k) ho) (s.set k o) := by
  have L : Lat ρ s.length H ρ s.length (upd H (ρ k) ho) := Lat.set r hk _ rfl
  have hl : (s.set k o).length = s.length := List.length_set
  refine ⟨fun j u e => ?_, fun i j hi hj e => r.inj i j (by omega) (by omega) e⟩
  rw [hl]
  by_cases hj : j = k
  · subst hj
    rw [List.getElem?_set_self hk] at e
    cases e
    exact ⟨ho, upd_same, RO.lat L ro⟩
  · rw [List.getElem?_set_ne (Ne.symm hj)] at e
    obtain ⟨hu, q, ro'⟩ := r.obj j u e
    have hjl : j < s.length := (List.getElem?_eq_some_iff.mp e).1
    have : ρ j ≠ ρ k := fun q => hj (r.inj j k hjl hk q)
    exact ⟨hu, by rw [upd_ne this]; exact q, RO.lat L ro'⟩
end

/-! ### results -/
inductive Res (α : Type) where
  | ok (a : α) (s : Sto)
  | exc (x : Str) (s : Sto)
  | err
def Res.bind {α β : Type} (r : Res α) (f : α → Sto → Res β) : Res β := match r with
  | .ok a s => f a s
  | .exc x s => .exc x s
  | .err => .err
def Res.ofO {α : Type} : Option (α × Sto) → Res α
  | some (a, s) => .ok a s
  | none => .err
@[simp] theorem Res.bind_ok {α β : Type} (a : α) (s : Sto) (f : α → Sto → Res β) : (Res.ok a s).bind f = f a s := rfl
@[simp] theorem Res.bind_exc {α β : Type} (x : Str) (s : Sto) (f : α → Sto → Res β) : (Res.exc x s : Res α).bind f = .exc x s := rfl
@[simp] theorem Res.bind_err {α β : Type} (f : α → Sto → Res β) : (Res.err : Res α).bind f = .err := rfl
@[simp] theorem Res.ofO_some {α : Type} (a : α) (s : Sto) : Res.ofO (some (a, s)) = .ok a s := rfl
@[simp] theorem Res.ofO_none {α : Type} : (Res.ofO none : Res α) = .err := rfl

abbrev Rl (α β : Type) := (Nat → Addr) → Nat → Hp → β → α → Prop
def RQ {α β : Type} (w : Wd) (R : Rl α β) (W : XK) (ρ : Nat → Addr) (n : Nat) (H : Hp) (r : Res α) (Q : β → Hp → Prop) : Prop := match r with
  | .ok a s' => ∀ ρ' H' b, Lat ρ n H ρ' s'.length H' → RS w ρ' H' s' → R ρ' s'.length H' b a → Q b H'
  | .exc x s' => ∀ ρ' H' c, Lat ρ n H ρ' s'.length H' → RS w ρ' H' s' → w.mg x = some c → W c none H'
  | .err => False
section
variable {α β γ δ : Type} {w : Wd} {R : Rl α β} {R1 : Rl γ δ} {W W' : XK} {ρ ρ1 : Nat → Addr} {n n1 : Nat} {H H1 : Hp} {r : Res α} {Q Q' : β → Hp → Prop}
theorem RQ.lat (h : RQ w R W ρ n H r Q) (L : Lat ρ n H ρ1 n1 H1) : RQ w R W ρ1 n1 H1 r Q := by
  cases r with
  | ok a s' => exact fun ρ' H' b L' hs hr => h ρ' H' b (L.trans L') hs hr
  | exc x s' => exact fun ρ' H' c L' hs hc => h ρ' H' c (L.trans L') hs hc
  | err => exact h
theorem RQ.mono (h : RQ w R W ρ n H r Q) (hQ : ∀ b H', Q b H' → Q' b H') : RQ w R W ρ n H r Q' := by
  cases r with
  | ok a s' => exact fun ρ' H' b L' hs hr => hQ b H' (h ρ' H' b L' hs hr)
  | exc x s' => exact h
  | err => exact h
theorem RQ.monoX (h : RQ w R W ρ n H r Q) (hW : ∀ c d H', W c d H' → W' c d H') : RQ w R W' ρ n H r Q := by
  cases r with
  | ok a s' => exact h
  | exc x s' => exact fun ρ' H' c L' hs hc => hW _ _ _ (h ρ' H' c L' hs hc)
  | err => exact h
/-- what comes first -/
theorem RQ.bind {r : Res γ} {f : γ → Sto → Res α} (h : RQ w R W ρ n H (r.bind f) Q) :
    RQ w R1 W ρ n H r fun b H1 => ∃ ρ1 s1 a, Lat ρ n H ρ1 s1.length H1 ∧ RS w ρ1 H1 s1 ∧ R1 ρ1 s1.length H1 b a ∧ RQ w R W ρ1 s1.length H1 (f a s1) Q := by
  cases r with
  | ok a s' => exact fun ρ' H' b L' hs hr => ⟨ρ', s', a, L', hs, hr, RQ.lat h L'⟩
  | exc x s' => exact h
  | err => exact h
end
end Y

set_option Elab.async false
set_option linter.all false
set_option maxRecDepth 100000
/-! Y2: judgements over plain data; expressions. -/
namespace Y
open PySem L2

abbrev EM (α : Type) := Ev → Sto → Res α
def tM {α β : Type} (w : Wd) (R : Rl α β) (W : WX) (m : EM α) : St → Hp → (β → Hp → Prop) → Prop :=
  fun σ H Q => ∃ ρ E s, RS w ρ H s ∧ RE w ρ s.length H σ E ∧ RQ w R (WE W σ) ρ s.length H (m E s) Q
def RB : Rl Bool Bool := fun _ _ _ b a => b = a
/-- a list or a tuple that can be read -/
def RLs (w : Wd) : Rl (List D) V := fun ρ n H v ds => ∃ a vs, v = .ref a ∧ (SqL w.K H a vs ∨ SqU w.K H a vs) ∧ RpL w ρ n H vs ds

section
variable {α β γ δ : Type} {w : Wd} {R : Rl α β} {R1 : Rl γ δ} {W : WX} {σ : St} {H : Hp} {Q : β → Hp → Prop}
theorem tM.bind {m : EM γ} {f : γ → EM α} (h : tM w R W (fun E s => (m E s).bind fun a s1 => f a E s1) σ H Q) :
    tM w R1 W m σ H fun b H1 => ∃ ρ1 E s1 a, RS w ρ1 H1 s1 ∧ RE w ρ1 s1.length H1 σ E ∧ R1 ρ1 s1.length H1 b a ∧ RQ w R (WE W σ) ρ1 s1.length H1 (f a E s1) Q := by
  obtain ⟨ρ, E, s, hs, he, h⟩ := h
  refine ⟨ρ, E, s, hs, he, RQ.mono (RQ.bind (R1 := R1) h) ?_⟩
  rintro b H' ⟨ρ1, s1, a, L, hs1, hr, hq⟩
  exact ⟨ρ1, E, s1, a, hs1, he.lat L, hr, hq⟩
end
theorem PE.imp {X : Cx} {e : Expr} {t t' : TE} (h : PE X e t) (hi : ∀ σ H Q, t' σ H Q → t σ H Q) : PE X e t' := ⟨fun pins s σ H Q I q => h.run pins s σ H Q I (hi _ _ _ q)⟩
theorem PT.imp {X : Cx} {e : Expr} {t t' : TT} (h : PT X e t) (hi : ∀ σ H Q, t' σ H Q → t σ H Q) : PT X e t' := ⟨fun pins s σ H Q I q => h.run pins s σ H Q I (hi _ _ _ q)⟩
theorem PW.imp {X : Cx} {e : Expr} {t t' : TT} (h : PW X e t) (hi : ∀ σ H Q, t' σ H Q → t σ H Q) : PW X e t' := ⟨fun wh pins s σ H Q I q => h.run wh pins s σ H Q I (hi _ _ _ q)⟩
theorem PA.imp {X : Cx} {es : List Expr} {t t' : TA} (h : PA X es t) (hi : ∀ σ H Q, t' σ H Q → t σ H Q) : PA X es t' := ⟨fun pos pins s σ H Q I q => h.run pos pins s σ H Q I (hi _ _ _ q)⟩
theorem PS.imp {X : Cx} {st : Stmt} {t t' : TS} (h : PS X st t) (hi : ∀ D σ H, t' D σ H → t D σ H) : PS X st t' := ⟨fun pins s σ H D I q => h.run pins s σ H D I (hi _ _ _ q)⟩
theorem PSs.imp {X : Cx} {st : List Stmt} {t t' : TS} (h : PSs X st t) (hi : ∀ D σ H, t' D σ H → t D σ H) : PSs X st t' := ⟨fun pins s σ H D I q => h.run pins s σ H D I (hi _ _ _ q)⟩

abbrev ME (X : Cx) (W : WX) (e : Expr) (m : EM D) : Prop := PE X e (tM (wd X) (Rp (wd X)) W m)
abbrev ML (X : Cx) (W : WX) (e : Expr) (m : EM (List D)) : Prop := PE X e (tM (wd X) (RLs (wd X)) W m)
abbrev MT (X : Cx) (W : WX) (e : Expr) (m : EM Bool) : Prop := PT X e (tM (wd X) RB W m)
abbrev MW (X : Cx) (W : WX) (e : Expr) (m : EM Bool) : Prop := PW X e (tM (wd X) RB W m)
abbrev MA (X : Cx) (W : WX) (es : List Expr) (m : EM (List D)) : Prop := PA X es (tM (wd X) (RpL (wd X)) W m)

def eErr {α : Type} : EM α := fun _ _ => .err
theorem tM_err {α β : Type} {w : Wd} {R : Rl α β} {W : WX} {σ : St} {H : Hp} {Q : β → Hp → Prop} (h : tM w R W eErr σ H Q) : False := by
  obtain ⟨_, _, _, _, _, h⟩ := h; exact h
section
variable {X : Cx} {W : WX}
theorem me_err {e : Expr} : ME X W e eErr := ⟨fun _ _ _ _ _ _ h => (tM_err h).elim⟩
theorem ml_err {e : Expr} : ML X W e eErr := ⟨fun _ _ _ _ _ _ h => (tM_err h).elim⟩
theorem mt_err {e : Expr} : MT X W e eErr := ⟨fun _ _ _ _ _ _ h => (tM_err h).elim⟩
theorem mw_err {e : Expr} : MW X W e eErr := ⟨fun _ _ _ _ _ _ _ h => (tM_err h).elim⟩
theorem ma_err {es : List Expr} : MA X W es eErr := ⟨fun _ _ _ _ _ _ _ h => (tM_err h).elim⟩

/-! ### names, constants -/
def eVar (i : Nat) : EM D := fun E s => match E[i]? with
  | some (some d) => .ok d s
  | _ => .err
theorem me_var {i : Nat} {x : Str} {pos : Pos} (hN : X.N[i]? = some x) (hv : Vis X.env.scope x) (hd : (x == ("__debug__" : Str)) = false) (hcd : (x == ("__classdict__" : Str)) = false) : ME X W (.Name x pos) (eVar i) := by
  refine PE.imp (pe_var hN hv hd hcd) ?_
  rintro σ H Q ⟨ρ, E, s, hs, he, h⟩
  unfold eVar at h
  split at h
  · rename_i d e
    obtain ⟨v, hv, r⟩ := he.val _ _ e
    exact ⟨v, hv, h ρ H v Lat.refl hs r⟩
  · exact h.elim
def eC (d : D) : EM D := fun _ s => .ok d s
theorem tM_c {w : Wd} {d : D} {v : V} {σ : St} {H : Hp} {Q : VK} (hr : ∀ ρ n H, Rp w ρ n H v d) (h : tM w (Rp w) W (eC d) σ H Q) : Q v H := by
  obtain ⟨ρ, E, s, hs, he, h⟩ := h
  exact h ρ H v Lat.refl hs (hr _ _ _)
theorem me_const {e : Expr} {v : V} {d : D} (h : PE X e (tC v)) (hr : ∀ ρ n H, Rp (wd X) ρ n H v d) : ME X W e (eC d) := PE.imp h fun _ _ _ q => tM_c hr q
theorem me_int {i : Int} {j : Nat} {pos : Pos} : ME X W (.Constant (.int i) j pos) (eC (.int i)) := me_const pe_int fun _ _ _ => by unfold Rp; rfl
theorem me_bl {b : Bool} {j : Nat} {pos : Pos} : ME X W (.Constant (.bool b) j pos) (eC (.bl b)) := me_const pe_bl fun _ _ _ => by unfold Rp; rfl
theorem me_non {j : Nat} {pos : Pos} : ME X W (.Constant .none j pos) (eC .non) := me_const pe_non fun _ _ _ => by unfold Rp; rfl
theorem me_str {x : Str} {j : Nat} {pos : Pos} : ME X W (.Constant (.str x) j pos) (eC (.str x)) := me_const pe_str fun _ _ _ => by unfold Rp; rfl

/-! ### operators by values -/
abbrev P2 := D → D → Sto → Option (D × Sto)
abbrev P1 := D → Sto → Option (D × Sto)
abbrev PL := List D → Sto → Option (D × Sto)
def r2 (w : Wd) (p : P2) : R2 := fun x y H Q => ∃ ρ s dx dy, RS w ρ H s ∧ Rp w ρ s.length H x dx ∧ Rp w ρ s.length H y dy ∧ RQ w (Rp w) E0 ρ s.length H (.ofO (p dx dy s)) Q
def r1 (w : Wd) (p : P1) : V → Hp → VK → Prop := fun x H Q => ∃ ρ s dx, RS w ρ H s ∧ Rp w ρ s.length H x dx ∧ RQ w (Rp w) E0 ρ s.length H (.ofO (p dx s)) Q
def rL (w : Wd) (p : PL) : List V → Hp → VK → Prop := fun xs H Q => ∃ ρ s ds, RS w ρ H s ∧ RpL w ρ s.length H xs ds ∧ RQ w (Rp w) E0 ρ s.length H (.ofO (p ds s)) Q
abbrev OpM (X : Cx) (f : Value → Value → Sem Value) (p : P2) : Prop := OpR X f (r2 (wd X) p)
abbrev UnM (X : Cx) (f : Value → Sem Value) (p : P1) : Prop := UnR X f (r1 (wd X) p)
abbrev CallM (X : Cx) (f : Value) (p : PL) : Prop := CallR X f (rL (wd X) p)
theorem RQ.ofO {α β : Type} {w : Wd} {R : Rl α β} {W W' : XK} {ρ : Nat → Addr} {n : Nat} {H : Hp} {o : Option (α × Sto)} {Q : β → Hp → Prop} (h : RQ w R W ρ n H (.ofO o) Q) : RQ w R W' ρ n H (.ofO o) Q := by
  cases o with
  | none => exact h
  | some p => exact h

def eBin (p : P2) (a b : EM D) : EM D := fun E s => (a E s).bind fun x s1 => (b E s1).bind fun y s2 => .ofO (p x y s2)
theorem tM_bin {w : Wd} {p : P2} {a b : EM D} {σ : St} {H : Hp} {Q : VK} (h : tM w (Rp w) W (eBin p a b) σ H Q) : tOp (r2 w p) (tM w (Rp w) W a) (tM w (Rp w) W b) σ H Q := by
  obtain ⟨ρ, E, s, hs, he, h⟩ := tM.bind (R1 := Rp w) (m := a) (f := fun x E s1 => (b E s1).bind fun y s2 => .ofO (p x y s2)) h
  refine ⟨ρ, E, s, hs, he, RQ.mono h ?_⟩
  rintro x H1 ⟨ρ1, E1, s1, dx, hs1, he1, rx, hq⟩
  refine ⟨ρ1, E1, s1, hs1, he1, RQ.mono (RQ.bind (R1 := Rp w) hq) ?_⟩
  rintro y H2 ⟨ρ2, s2, dy, L, hs2, ry, hq2⟩
  exact ⟨ρ2, s2, dx, dy, hs2, Rp.lat L _ rx, ry, RQ.ofO hq2⟩
theorem me_bin {op : Operator} {p : P2} {a b : Expr} {ma mb : EM D} {pos : Pos} (ho : OpM X (binaryOp op) p) (ha : ME X W a ma) (hb : ME X W b mb) : ME X W (.BinOp a op b pos) (eBin p ma mb) :=
  PE.imp (pe_op ho ha hb) fun _ _ _ h => tM_bin h
theorem me_cmp {op : CmpOp} {p : P2} {a b : Expr} {ma mb : EM D} {pos : Pos} (ho : OpM X (compareOp op) p) (ha : ME X W a ma) (hb : ME X W b mb) (hm : behindInMarks op b = false) : ME X W (.Compare a [op] [b] pos) (eBin p ma mb) :=
  PE.imp (pe_cmpR ho ha hb hm) fun _ _ _ h => tM_bin h
def eUn (p : P1) (a : EM D) : EM D := fun E s => (a E s).bind fun x s1 => .ofO (p x s1)
theorem me_un {op : UnaryOp} {p : P1} {a : Expr} {ma : EM D} {pos : Pos} (ho : UnM X (unaryOp op) p) (ha : ME X W a ma) : ME X W (.UnaryOp op a pos) (eUn p ma) := by
  refine PE.imp (pe_un ho ha) ?_
  intro σ H Q h
  obtain ⟨ρ, E, s, hs, he, h⟩ := tM.bind (R1 := Rp (wd X)) (m := ma) (f := fun x E s1 => .ofO (p x s1)) h
  refine ⟨ρ, E, s, hs, he, RQ.mono h ?_⟩
  rintro x H1 ⟨ρ1, E1, s1, dx, hs1, he1, rx, hq⟩
  exact ⟨ρ1, s1, dx, hs1, rx, RQ.ofO hq⟩

/-! ### tests -/
/-- a bool-valued expression as a test -/
def tOfB (m : EM D) : EM Bool := fun E s => (m E s).bind fun d s1 => match d with
  | .bl b => .ok b s1
  | _ => .err
theorem tTest_of {w : Wd} {m : EM D} {σ : St} {H : Hp} {Q : Bool → Hp → Prop} (h : tM w RB W (tOfB m) σ H Q) : tTest (tM w (Rp w) W m) σ H Q := by
  obtain ⟨ρ, E, s, hs, he, h⟩ := tM.bind (R1 := Rp w) (m := m) (f := fun d E s1 => match d with | .bl b => .ok b s1 | _ => .err) h
  refine ⟨ρ, E, s, hs, he, RQ.mono h ?_⟩
  rintro x H1 ⟨ρ1, E1, s1, dx, hs1, he1, rx, hq⟩
  cases dx with
  | bl b =>
    unfold Rp at rx
    exact ⟨b, rx, hq ρ1 H1 b Lat.refl hs1 rfl⟩
  | _ => exact hq.elim
theorem mt_cmp {op : CmpOp} {p : P2} {a b : Expr} {ma mb : EM D} {pos : Pos} (ho : OpM X (compareOp op) p) (ha : ME X W a ma) (hb : ME X W b mb) (hm : behindInMarks op b = false) : MT X W (.Compare a [op] [b] pos) (tOfB (eBin p ma mb)) := by
  refine PT.imp (pt_cmpR ho ha hb hm) fun σ H Q h => ?_
  obtain ⟨ρ, E, s, hs, he, h⟩ := tTest_of h
  exact tM_bin ⟨ρ, E, s, hs, he, h⟩

/-- truth -/
def truD (d : D) (s : Sto) : Option Bool := match d with
  | .non => some false
  | .bl b => some b
  | .int i => some (i != 0)
  | .str x => if x.length ≤ sizeLine then some (x.length != 0) else none
  | .tup xs => some (!xs.isEmpty)
  | .ro xs => some (!xs.isEmpty)
  | .loc k => match s[k]? with
    | some (.lst xs) => some (!xs.isEmpty)
    | some (.dic kvs) => some (!kvs.isEmpty)
    | _ => none
  | _ => none
theorem RpL.empty {w : Wd} {ρ : Nat → Addr} {n : Nat} {H : Hp} : ∀ {vs : List V} {ds : List D}, RpL w ρ n H vs ds → vs.isEmpty = ds.isEmpty
  | vs, [], h => by unfold RpL at h; rw [h]; rfl
  | vs, d :: ds, h => by
    unfold RpL at h
    obtain ⟨v, r, rfl, _⟩ := h
    rfl
theorem RpA.empty {κ : Type} {w : Wd} {ρ : Nat → Addr} {n : Nat} {H : Hp} : ∀ {vs : List (κ × V)} {ds : List (κ × D)}, RpA w ρ n H vs ds → vs.isEmpty = ds.isEmpty
  | vs, [], h => by unfold RpA at h; rw [h]; rfl
  | vs, (k, d) :: ds, h => by
    unfold RpA at h
    obtain ⟨v, r, rfl, _⟩ := h
    rfl
theorem RS.get {w : Wd} {ρ : Nat → Addr} {H : Hp} {s : Sto} (hs : RS w ρ H s) {k : Nat} {o : O} (e : s[k]? = some o) : ∃ ho, H (ρ k) = some ho ∧ RO w ρ s.length H ho o := hs.obj k o e
theorem truD_ok {w : Wd} {ρ : Nat → Addr} {H : Hp} {s : Sto} {v : V} {d : D} {b : Bool} (hs : RS w ρ H s) (hr : Rp w ρ s.length H v d) (h : truD d s = some b) : TruV w.K v H b := by
  cases d with
  | non => unfold Rp at hr; subst hr; simp only [truD] at h; cases h; rfl
  | bl c => unfold Rp at hr; subst hr; simp only [truD] at h; cases h; rfl
  | int i => unfold Rp at hr; subst hr; simp only [truD] at h; cases h; rfl
  | str x =>
    unfold Rp at hr; subst hr; simp only [truD] at h
    split at h
    · rename_i hl
      cases h
      refine ⟨hl, ?_⟩
      by_cases q : x.length = 0
      · rw [q]; rfl
      · have e1 : (x.length != 0) = true := by simpa using q
        have e2 : ((x.length : Int) != 0) = true := by simp; omega
        rw [e1, e2]
    · cases h
  | tup xs =>
    unfold Rp at hr
    obtain ⟨a, vs, rfl, hq, hl⟩ := hr
    simp only [truD] at h; cases h
    exact .inr (.inl ⟨vs, hq.sqT, by rw [RpL.empty hl]⟩)
  | ro xs =>
    unfold Rp at hr
    obtain ⟨a, vs, rfl, hq, hl⟩ := hr
    simp only [truD] at h; cases h
    exact .inl ⟨vs, hq.sqL, by rw [RpL.empty hl]⟩
  | loc k =>
    unfold Rp at hr
    obtain ⟨_, rfl⟩ := hr
    simp only [truD] at h
    split at h
    · rename_i xs e
      cases h
      obtain ⟨ho, e1, vs, rfl, hl⟩ := hs.get e
      exact .inl ⟨vs, SqL.of e1, by rw [RpL.empty hl]⟩
    · rename_i kvs e
      cases h
      obtain ⟨ho, e1, vs, rfl, hl⟩ := hs.get e
      exact .inr (.inr ⟨vs, e1, by rw [RpA.empty hl]⟩)
    · cases h
  | gl x => simp only [truD] at h; cases h
  | ty n => simp only [truD] at h; cases h
def tOfT (m : EM D) : EM Bool := fun E s => (m E s).bind fun d s1 => match truD d s1 with
  | some b => .ok b s1
  | none => .err
theorem tru_of {w : Wd} {m : EM D} {σ : St} {H : Hp} {Q : Bool → Hp → Prop} (h : tM w RB W (tOfT m) σ H Q) : tM w (Rp w) W m σ H fun x H' => ∃ k, TruV w.K x H' k ∧ Q k H' := by
  obtain ⟨ρ, E, s, hs, he, h⟩ := tM.bind (R1 := Rp w) (m := m) (f := fun d E s1 => match truD d s1 with | some b => .ok b s1 | none => .err) h
  refine ⟨ρ, E, s, hs, he, RQ.mono h ?_⟩
  rintro x H1 ⟨ρ1, E1, s1, dx, hs1, he1, rx, hq⟩
  split at hq
  · rename_i b e
    exact ⟨b, truD_ok hs1 rx e, hq ρ1 H1 b Lat.refl hs1 rfl⟩
  · exact hq.elim
theorem mt_truth {a : Expr} {ma : EM D} (ha : ME X W a ma) (he : ∀ whole, isTrue a X.env whole = (do let v ← whole; standAt a.pos; holding [v] (truthy v))) : MT X W a (tOfT ma) :=
  PT.imp (pt_truth ha he) fun _ _ _ h => tru_of h
def tNt (a : EM Bool) : EM Bool := fun E s => (a E s).bind fun b s1 => .ok (!b) s1
theorem mt_not {a : Expr} {ma : EM Bool} {pos : Pos} (ha : MT X W a ma) : MT X W (.UnaryOp .Not a pos) (tNt ma) := by
  refine PT.imp (pt_not ha) ?_
  intro σ H Q h
  obtain ⟨ρ, E, s, hs, he, h⟩ := tM.bind (R1 := RB) (m := ma) (f := fun b E s1 => .ok (!b) s1) h
  refine ⟨ρ, E, s, hs, he, RQ.mono h ?_⟩
  rintro b H1 ⟨ρ1, E1, s1, c, hs1, he1, hb, hq⟩
  cases hb
  exact hq ρ1 H1 _ Lat.refl hs1 rfl
def tAn (a b : EM Bool) : EM Bool := fun E s => (a E s).bind fun c s1 => if c = true then b E s1 else .ok false s1
def tOr' (a b : EM Bool) : EM Bool := fun E s => (a E s).bind fun c s1 => if c = true then .ok true s1 else b E s1
theorem mw_and {a b : Expr} {rest : List Expr} {ma mb : EM Bool} {pos : Pos} (ha : MT X W a ma) (hb : MW X W (.BoolOp .And (b :: rest) pos) mb) : MW X W (.BoolOp .And (a :: b :: rest) pos) (tAn ma mb) := by
  refine PW.imp (pw_and ha hb) ?_
  intro σ H Q h
  obtain ⟨ρ, E, s, hs, he, h⟩ := tM.bind (R1 := RB) (m := ma) (f := fun c E s1 => if c = true then mb E s1 else .ok false s1) h
  refine ⟨ρ, E, s, hs, he, RQ.mono h ?_⟩
  rintro c H1 ⟨ρ1, E1, s1, c', hs1, he1, hb, hq⟩
  cases hb
  cases c with
  | true => exact ⟨ρ1, E1, s1, hs1, he1, hq⟩
  | false => exact hq ρ1 H1 _ Lat.refl hs1 rfl
theorem mw_or {a b : Expr} {rest : List Expr} {ma mb : EM Bool} {pos : Pos} (ha : MT X W a ma) (hb : MW X W (.BoolOp .Or (b :: rest) pos) mb) : MW X W (.BoolOp .Or (a :: b :: rest) pos) (tOr' ma mb) := by
  refine PW.imp (pw_or ha hb) ?_
  intro σ H Q h
  obtain ⟨ρ, E, s, hs, he, h⟩ := tM.bind (R1 := RB) (m := ma) (f := fun c E s1 => if c = true then .ok true s1 else mb E s1) h
  refine ⟨ρ, E, s, hs, he, RQ.mono h ?_⟩
  rintro c H1 ⟨ρ1, E1, s1, c', hs1, he1, hb, hq⟩
  cases hb
  cases c with
  | true => exact hq ρ1 H1 _ Lat.refl hs1 rfl
  | false => exact ⟨ρ1, E1, s1, hs1, he1, hq⟩
theorem mw_and1 {a : Expr} {ma : EM Bool} {pos : Pos} (ha : MT X W a ma) : MW X W (.BoolOp .And [a] pos) ma := pw_and1 ha
theorem mw_or1 {a : Expr} {ma : EM Bool} {pos : Pos} (ha : MT X W a ma) : MW X W (.BoolOp .Or [a] pos) ma := pw_or1 ha
/-- as values -/
def eAn (a b : EM D) : EM D := fun E s => (a E s).bind fun d s1 => match truD d s1 with
  | some true => b E s1
  | some false => .ok d s1
  | none => .err
def eOr (a b : EM D) : EM D := fun E s => (a E s).bind fun d s1 => match truD d s1 with
  | some true => .ok d s1
  | some false => b E s1
  | none => .err
def eNt (a : EM D) : EM D := fun E s => (a E s).bind fun d s1 => match truD d s1 with
  | some b => .ok (.bl (!b)) s1
  | none => .err
theorem me_and {a b : Expr} {rest : List Expr} {ma mb : EM D} {pos : Pos} (ha : ME X W a ma) (hb : ME X W (.BoolOp .And (b :: rest) pos) mb) : ME X W (.BoolOp .And (a :: b :: rest) pos) (eAn ma mb) := by
  refine PE.imp (pe_andT ha hb) ?_
  intro σ H Q h
  obtain ⟨ρ, E, s, hs, he, h⟩ := tM.bind (R1 := Rp (wd X)) (m := ma) (f := fun d E s1 => match truD d s1 with | some true => mb E s1 | some false => .ok d s1 | none => .err) h
  refine ⟨ρ, E, s, hs, he, RQ.mono h ?_⟩
  rintro x H1 ⟨ρ1, E1, s1, dx, hs1, he1, rx, hq⟩
  split at hq
  · rename_i e
    exact ⟨true, truD_ok hs1 rx e, ρ1, E1, s1, hs1, he1, hq⟩
  · rename_i e
    exact ⟨false, truD_ok hs1 rx e, hq ρ1 H1 _ Lat.refl hs1 rx⟩
  · exact hq.elim
theorem me_or {a b : Expr} {rest : List Expr} {ma mb : EM D} {pos : Pos} (ha : ME X W a ma) (hb : ME X W (.BoolOp .Or (b :: rest) pos) mb) : ME X W (.BoolOp .Or (a :: b :: rest) pos) (eOr ma mb) := by
  refine PE.imp (pe_orT ha hb) ?_
  intro σ H Q h
  obtain ⟨ρ, E, s, hs, he, h⟩ := tM.bind (R1 := Rp (wd X)) (m := ma) (f := fun d E s1 => match truD d s1 with | some true => .ok d s1 | some false => mb E s1 | none => .err) h
  refine ⟨ρ, E, s, hs, he, RQ.mono h ?_⟩
  rintro x H1 ⟨ρ1, E1, s1, dx, hs1, he1, rx, hq⟩
  split at hq
  · rename_i e
    exact ⟨true, truD_ok hs1 rx e, hq ρ1 H1 _ Lat.refl hs1 rx⟩
  · rename_i e
    exact ⟨false, truD_ok hs1 rx e, ρ1, E1, s1, hs1, he1, hq⟩
  · exact hq.elim
theorem me_not {a : Expr} {ma : EM D} {pos : Pos} (ha : ME X W a ma) : ME X W (.UnaryOp .Not a pos) (eNt ma) := by
  refine PE.imp (pe_notT ha) ?_
  intro σ H Q h
  obtain ⟨ρ, E, s, hs, he, h⟩ := tM.bind (R1 := Rp (wd X)) (m := ma) (f := fun d E s1 => match truD d s1 with | some b => Res.ok (D.bl (!b)) s1 | none => .err) h
  refine ⟨ρ, E, s, hs, he, RQ.mono h ?_⟩
  rintro x H1 ⟨ρ1, E1, s1, dx, hs1, he1, rx, hq⟩
  split at hq
  · rename_i b e
    exact ⟨b, truD_ok hs1 rx e, hq ρ1 H1 _ Lat.refl hs1 (by unfold Rp; rfl)⟩
  · exact hq.elim
def eIf (c : EM Bool) (a b : EM D) : EM D := fun E s => (c E s).bind fun k s1 => if k = true then a E s1 else b E s1
theorem me_if {c a b : Expr} {mc : EM Bool} {ma mb : EM D} {pos : Pos} (hc : MT X W c mc) (ha : ME X W a ma) (hb : ME X W b mb) : ME X W (.IfExp c a b pos) (eIf mc ma mb) := by
  refine PE.imp (pe_ifExp hc ha hb) ?_
  intro σ H Q h
  obtain ⟨ρ, E, s, hs, he, h⟩ := tM.bind (R1 := RB) (m := mc) (f := fun k E s1 => if k = true then ma E s1 else mb E s1) h
  refine ⟨ρ, E, s, hs, he, RQ.mono h ?_⟩
  rintro c H1 ⟨ρ1, E1, s1, c', hs1, he1, hb, hq⟩
  cases hb
  cases c with
  | true => exact ⟨ρ1, E1, s1, hs1, he1, hq⟩
  | false => exact ⟨ρ1, E1, s1, hs1, he1, hq⟩

/-! ### argument lists, displays -/
def aNil : EM (List D) := fun _ s => .ok [] s
def aCons (a : EM D) (b : EM (List D)) : EM (List D) := fun E s => (a E s).bind fun d s1 => (b E s1).bind fun ds s2 => .ok (d :: ds) s2
theorem ma_nil : MA X W [] aNil := by
  refine PA.imp pa_nil ?_
  rintro σ H Q ⟨ρ, E, s, hs, he, h⟩
  exact h ρ H [] Lat.refl hs (by unfold RpL; rfl)
theorem ma_cons {e : Expr} {es : List Expr} {m : EM D} {r : EM (List D)} (ha : ME X W e m) (hr : MA X W es r) (hs : starEach (e :: es) X.env = (false, eval e X.env) :: starEach es X.env) : MA X W (e :: es) (aCons m r) := by
  refine PA.imp (pa_cons ha hr hs) ?_
  intro σ H Q h
  obtain ⟨ρ, E, s, hs, he, h⟩ := tM.bind (R1 := Rp (wd X)) (m := m) (f := fun d E s1 => (r E s1).bind fun ds s2 => .ok (d :: ds) s2) h
  refine ⟨ρ, E, s, hs, he, RQ.mono h ?_⟩
  rintro x H1 ⟨ρ1, E1, s1, dx, hs1, he1, rx, hq⟩
  refine ⟨ρ1, E1, s1, hs1, he1, RQ.mono (RQ.bind (R1 := RpL (wd X)) hq) ?_⟩
  rintro xs H2 ⟨ρ2, s2, ds, L, hs2, rxs, hq2⟩
  exact hq2 ρ2 H2 _ Lat.refl hs2 (by unfold RpL; exact ⟨x, xs, rfl, Rp.lat L _ rx, rxs⟩)
theorem RpL.length {w : Wd} {ρ : Nat → Addr} {n : Nat} {H : Hp} : ∀ {vs : List V} {ds : List D}, RpL w ρ n H vs ds → vs.length = ds.length
  | vs, [], h => by unfold RpL at h; rw [h]; rfl
  | vs, d :: ds, h => by
    unfold RpL at h
    obtain ⟨v, r, rfl, _, h2⟩ := h
    rw [List.length_cons, List.length_cons, RpL.length h2]
def mkTup : PL := fun ds s => if ds.length ≤ sizeLine then some (.tup ds, s) else none
def mkLst : PL := fun ds s => if ds.length ≤ sizeLine then some (.loc s.length, s ++ [.lst ds]) else none
def eA (p : PL) (a : EM (List D)) : EM D := fun E s => (a E s).bind fun ds s1 => .ofO (p ds s1)
/-- what a list of values gives -/
theorem tM_A {w : Wd} {p : PL} {a : EM (List D)} {σ : St} {H : Hp} {Q : VK} (h : tM w (Rp w) W (eA p a) σ H Q) : tM w (RpL w) W a σ H fun xs H1 => rL w p xs H1 Q := by
  obtain ⟨ρ, E, s, hs, he, h⟩ := tM.bind (R1 := RpL w) (m := a) (f := fun ds E s1 => .ofO (p ds s1)) h
  refine ⟨ρ, E, s, hs, he, RQ.mono h ?_⟩
  rintro xs H1 ⟨ρ1, E1, s1, ds, hs1, he1, rx, hq⟩
  exact ⟨ρ1, s1, ds, hs1, rx, RQ.ofO hq⟩
/-- a new tuple -/
theorem RQ.tup {w : Wd} {W : XK} {ρ : Nat → Addr} {H : Hp} {s : Sto} {vs : List V} {ds : List D} {Q : VK} {p : Addr} (h : RQ w (Rp w) W ρ s.length H (.ok (.tup ds) s) Q) (hs : RS w ρ H s) (hr : RpL w ρ s.length H vs ds) (hp : H p = none) : Q (.ref p) (upd H p (.tup vs)) :=
  h ρ _ _ (Lat.fresh hp) (hs.fresh hp) (by unfold Rp; exact ⟨p, vs, rfl, SqU.of upd_same, RpL.lat (Lat.fresh hp) _ hr⟩)
/-- a new object of the store -/
theorem RQ.obj {w : Wd} {W : XK} {ρ : Nat → Addr} {H : Hp} {s : Sto} {ho : HO} {o : O} {Q : VK} {p : Addr} (h : RQ w (Rp w) W ρ s.length H (.ok (.loc s.length) (s ++ [o])) Q) (hs : RS w ρ H s) (hr : RO w ρ s.length H ho o) (hp : H p = none) : Q (.ref p) (upd H p ho) := by
  have hl : (s ++ [o]).length = s.length + 1 := by simp
  refine h (ext ρ s.length p) _ _ (by rw [hl]; exact Lat.alloc hp) (hs.alloc hp hr) ?_
  unfold Rp
  exact ⟨by rw [hl]; exact Nat.lt_succ_self _, by rw [ext_eq]⟩
theorem me_tup {es : List Expr} {k : Nat} {m : EM (List D)} {pos : Pos} (h : MA X W es m) : ME X W (.Tuple es k pos) (eA mkTup m) := by
  refine PE.imp (pe_tup h) fun σ H Q hq => ?_
  obtain ⟨ρ, E, s, hs, he, hq⟩ := tM_A hq
  refine ⟨ρ, E, s, hs, he, RQ.mono hq ?_⟩
  rintro xs H1 ⟨ρ1, s1, ds, hs1, rx, hq⟩
  unfold mkTup at hq
  split at hq
  · rename_i hl
    exact ⟨by rw [RpL.length rx]; exact hl, fun p hp => RQ.tup hq hs1 rx hp⟩
  · exact hq.elim
theorem me_lst {es : List Expr} {m : EM (List D)} {pos : Pos} (h : MA X W es m) : ME X W (.List es pos) (eA mkLst m) := by
  refine PE.imp (pe_lst h) fun σ H Q hq => ?_
  obtain ⟨ρ, E, s, hs, he, hq⟩ := tM_A hq
  refine ⟨ρ, E, s, hs, he, RQ.mono hq ?_⟩
  rintro xs H1 ⟨ρ1, s1, ds, hs1, rx, hq⟩
  unfold mkLst at hq
  split at hq
  · rename_i hl
    exact ⟨by rw [RpL.length rx]; exact hl, fun p hp => RQ.obj hq hs1 ⟨xs, rfl, rx⟩ hp⟩
  · exact hq.elim
/-- a built-in function, a built-in type, on values -/
theorem me_callB {x : Str} {id : String} {p : PL} {e : Expr} {es : List Expr} {m : EM (List D)} {np pos : Pos} (hc : CallM X (.builtin id) p) (hg : Gl X x) (hm : X.mg x = none) (hv : bootBuiltins x = some (.builtin id)) (ha : MA X W (e :: es) m) (hn : x ≠ "__name__") (hdb : (x == ("__debug__" : Str)) = false)
    (he : starEach (e :: es) X.env = (false, eval e X.env) :: starEach es X.env) (hpl : (backTo pos (starEach es X.env)).any (·.1) = false) : ME X W (.Call (.Name x np) (e :: es) [] pos) (eA p m) :=
  PE.imp (pe_callB hc hg hm hv ha hn hdb he hpl) fun _ _ _ h => tM_A h
theorem me_callTy {x : Str} {T : String} {p : PL} {e : Expr} {es : List Expr} {m : EM (List D)} {np pos : Pos} (hc : CallM X (.type T) p) (hg : Gl X x) (hm : X.mg x = none) (hv : bootBuiltins x = some (.type T)) (ha : MA X W (e :: es) m) (hn : x ≠ "__name__") (hdb : (x == ("__debug__" : Str)) = false)
    (he : starEach (e :: es) X.env = (false, eval e X.env) :: starEach es X.env) (hpl : (backTo pos (starEach es X.env)).any (·.1) = false) : ME X W (.Call (.Name x np) (e :: es) [] pos) (eA p m) :=
  PE.imp (pe_callTy hc hg hm hv ha hn hdb he hpl) fun _ _ _ h => tM_A h
end

/-! ### the call of a def -/
def spM (w : Wd) (n : Nat) (F : List D → Sto → Res D) : Sp := fun vs H Q E => ∃ ρ s ds, RS w ρ H s ∧ RpL w ρ s.length H vs ds ∧ ds.length = n ∧ RQ w (Rp w) E ρ s.length H (F ds s) Q
structure FnG (X : Cx) (x : Str) (n : Nat) (F : List D → Sto → Res D) : Prop where
  ex : ∃ k f fd ps, X.mg x = some (.ref f) ∧ PySem.W.keepIn X.K (.ref f) = true ∧ Binds X.K fd ps [] ∧ ps.length = n ∧ Room k X.A ∧ FnOk X.prog X.w X.K X.mg X.base (L2.CX X.prog X.w) k f fd ps (spM (wd X) n F)
def eCall (n : Nat) (F : List D → Sto → Res D) (a : EM (List D)) : EM D := fun E s => (a E s).bind fun ds s1 => if ds.length = n then F ds s1 else .err
section
variable {X : Cx} {W : WX}
theorem me_call {x : Str} {n : Nat} {F : List D → Sto → Res D} {e : Expr} {es : List Expr} {m : EM (List D)} {np pos : Pos} (G : FnG X x n F) (tk : Takes X W) (hg : Gl X x) (ha : MA X W (e :: es) m) (hdb : (x == ("__debug__" : Str)) = false)
    (he : starEach (e :: es) X.env = (false, eval e X.env) :: starEach es X.env) (hpl : (backTo pos (starEach es X.env)).any (·.1) = false) : ME X W (.Call (.Name x np) (e :: es) [] pos) (eCall n F m) := by
  obtain ⟨k, f, fd, ps, hm, hk, hb, hn, hr, FO⟩ := G.ex
  refine PE.imp (pe_callS (E := WE W) FO hr hg hm hk hb (fun σ => passAt tk σ) ha hdb he hpl) ?_
  intro σ H Q h
  obtain ⟨ρ, E, s, hs, he, h⟩ := tM.bind (R1 := RpL (wd X)) (m := m) (f := fun ds E s1 => if ds.length = n then F ds s1 else .err) h
  refine ⟨ρ, E, s, hs, he, RQ.mono h ?_⟩
  rintro xs H1 ⟨ρ1, E1, s1, ds, hs1, he1, rx, hq⟩
  split at hq
  · rename_i hl
    exact ⟨ρ1, s1, ds, hs1, rx, hl, hq⟩
  · exact hq.elim
theorem me_call0 {x : Str} {F : List D → Sto → Res D} {np pos : Pos} (G : FnG X x 0 F) (tk : Takes X W) (hg : Gl X x) (hdb : (x == ("__debug__" : Str)) = false) : ME X W (.Call (.Name x np) [] [] pos) (eCall 0 F aNil) := by
  obtain ⟨k, f, fd, ps, hm, hk, hb, hn, hr, FO⟩ := G.ex
  refine ⟨fun pins s σ H Q I h => ?_⟩
  refine wpAny_Call_Name_kw (ld_glob I hg hm ?_ hdb)
  refine PySem.W.callWith_K0 I.kIn hk (run_fnS (E := WE W) (us := []) FO hr hb (passAt tk σ) I .nil ?_)
  obtain ⟨ρ, E, st, hs, he, h⟩ := h
  exact ⟨ρ, st, [], hs, by unfold RpL; rfl, rfl, h⟩
end
end Y

set_option Elab.async false
set_option linter.all false
set_option maxRecDepth 100000
/-! Y3: what lists, dicts, tuples give; operators on data. -/
namespace Y
open PySem L2

section
variable {w : Wd} {ρ : Nat → Addr} {n : Nat} {H : Hp}
theorem RpL.get : ∀ {vs : List V} {ds : List D} {i : Nat} {d : D}, RpL w ρ n H vs ds → ds[i]? = some d → ∃ v, vs[i]? = some v ∧ Rp w ρ n H v d
  | _, [], i, d, h, e => by simp at e
  | vs, x :: ds, 0, d, h, e => by
    unfold RpL at h
    obtain ⟨v, r, rfl, h1, h2⟩ := h
    simp at e; subst e
    exact ⟨v, rfl, h1⟩
  | vs, x :: ds, i + 1, d, h, e => by
    unfold RpL at h
    obtain ⟨v, r, rfl, h1, h2⟩ := h
    obtain ⟨v', e1, r1⟩ := RpL.get (i := i) (d := d) h2 (by simpa using e)
    exact ⟨v', by simpa using e1, r1⟩
theorem RpL.append : ∀ {vs ws : List V} {ds es : List D}, RpL w ρ n H vs ds → RpL w ρ n H ws es → RpL w ρ n H (vs ++ ws) (ds ++ es)
  | vs, ws, [], es, h, q => by
    unfold RpL at h; subst h; exact q
  | vs, ws, d :: ds, es, h, q => by
    unfold RpL at h
    obtain ⟨v, r, rfl, h1, h2⟩ := h
    show RpL w ρ n H (v :: (r ++ ws)) (d :: (ds ++ es))
    unfold RpL
    exact ⟨v, _, rfl, h1, RpL.append h2 q⟩
theorem RpL.one {v : V} {d : D} (h : Rp w ρ n H v d) : RpL w ρ n H [v] [d] := by
  unfold RpL; exact ⟨v, [], rfl, h, by unfold RpL; rfl⟩
theorem RpL.nil : RpL w ρ n H [] [] := by unfold RpL; rfl
theorem RpL.cons {v : V} {d : D} {vs : List V} {ds : List D} (h : Rp w ρ n H v d) (q : RpL w ρ n H vs ds) : RpL w ρ n H (v :: vs) (d :: ds) := by
  unfold RpL; exact ⟨v, vs, rfl, h, q⟩
theorem RpL.inv {vs : List V} {d : D} {ds : List D} (h : RpL w ρ n H vs (d :: ds)) : ∃ v r, vs = v :: r ∧ Rp w ρ n H v d ∧ RpL w ρ n H r ds := by
  unfold RpL at h; exact h
theorem RpL.inv0 {vs : List V} (h : RpL w ρ n H vs []) : vs = [] := by
  unfold RpL at h; exact h
theorem RpL.drop : ∀ {vs : List V} {ds : List D} (k : Nat), RpL w ρ n H vs ds → RpL w ρ n H (vs.drop k) (ds.drop k)
  | _, _, 0, h => h
  | vs, [], k + 1, h => by rw [h.inv0]; exact RpL.nil
  | vs, d :: ds, k + 1, h => by
    obtain ⟨v, r, rfl, h1, h2⟩ := h.inv
    exact RpL.drop k h2
theorem RpL.take : ∀ {vs : List V} {ds : List D} (k : Nat), RpL w ρ n H vs ds → RpL w ρ n H (vs.take k) (ds.take k)
  | _, _, 0, h => RpL.nil
  | vs, [], k + 1, h => by rw [h.inv0]; exact RpL.nil
  | vs, d :: ds, k + 1, h => by
    obtain ⟨v, r, rfl, h1, h2⟩ := h.inv
    exact RpL.cons h1 (RpL.take k h2)
theorem RpL.set {v : V} {d : D} (h : Rp w ρ n H v d) : ∀ {vs : List V} {ds : List D} (k : Nat), RpL w ρ n H vs ds → RpL w ρ n H (vs.set k v) (ds.set k d)
  | vs, [], _, q => by rw [q.inv0]; exact RpL.nil
  | vs, e :: ds, 0, q => by
    obtain ⟨v', r, rfl, h1, h2⟩ := q.inv
    exact RpL.cons h h2
  | vs, e :: ds, k + 1, q => by
    obtain ⟨v', r, rfl, h1, h2⟩ := q.inv
    exact RpL.cons h1 (RpL.set h k h2)
theorem RpL.reverse : ∀ {vs : List V} {ds : List D}, RpL w ρ n H vs ds → RpL w ρ n H vs.reverse ds.reverse
  | vs, [], h => by rw [h.inv0]; exact RpL.nil
  | vs, d :: ds, h => by
    obtain ⟨v, r, rfl, h1, h2⟩ := h.inv
    rw [List.reverse_cons, List.reverse_cons]
    exact RpL.append (RpL.reverse h2) (RpL.one h1)
theorem RpL.atI {vs : List V} {ds : List D} {i : Int} {d : D} (h : RpL w ρ n H vs ds) (e : L2.atI ds i = some d) : ∃ v, L2.atI vs i = some v ∧ Rp w ρ n H v d := by
  unfold L2.atI at e ⊢
  rw [RpL.length h]
  cases q : ixN ds.length i with
  | none => rw [q] at e; cases e
  | some j =>
    rw [q] at e
    exact RpL.get h e

def getA {κ α : Type} [DecidableEq κ] (kvs : List (κ × α)) (k : κ) : Option α := (kvs.find? fun kv => decide (kv.1 = k)).map (·.2)
def putA {κ α : Type} [DecidableEq κ] (kvs : List (κ × α)) (k : κ) (v : α) : List (κ × α) :=
  if (kvs.any fun kv => decide (kv.1 = k)) = true then kvs.map (fun kv => if kv.1 = k then (kv.1, v) else kv) else kvs ++ [(k, v)]
theorem RpA.inv {κ : Type} {vs : List (κ × V)} {k : κ} {d : D} {ds : List (κ × D)} (h : RpA w ρ n H vs ((k, d) :: ds)) : ∃ v r, vs = (k, v) :: r ∧ Rp w ρ n H v d ∧ RpA w ρ n H r ds := by
  unfold RpA at h; exact h
theorem RpA.inv0 {κ : Type} {vs : List (κ × V)} (h : RpA w ρ n H vs ([] : List (κ × D))) : vs = [] := by
  unfold RpA at h; exact h
theorem RpA.nil {κ : Type} : RpA w ρ n H ([] : List (κ × V)) ([] : List (κ × D)) := by unfold RpA; rfl
theorem RpA.cons {κ : Type} {k : κ} {v : V} {d : D} {vs : List (κ × V)} {ds : List (κ × D)} (h : Rp w ρ n H v d) (q : RpA w ρ n H vs ds) : RpA w ρ n H ((k, v) :: vs) ((k, d) :: ds) := by
  unfold RpA; exact ⟨v, vs, rfl, h, q⟩
theorem RpA.append {κ : Type} : ∀ {vs ws : List (κ × V)} {ds es : List (κ × D)}, RpA w ρ n H vs ds → RpA w ρ n H ws es → RpA w ρ n H (vs ++ ws) (ds ++ es)
  | vs, ws, [], es, h, q => by rw [h.inv0]; exact q
  | vs, ws, (k, d) :: ds, es, h, q => by
    obtain ⟨v, r, rfl, h1, h2⟩ := h.inv
    exact RpA.cons h1 (RpA.append h2 q)
theorem RpA.keys {κ : Type} : ∀ {vs : List (κ × V)} {ds : List (κ × D)}, RpA w ρ n H vs ds → vs.map (·.1) = ds.map (·.1)
  | vs, [], h => by rw [h.inv0]; rfl
  | vs, (k, d) :: ds, h => by
    obtain ⟨v, r, rfl, h1, h2⟩ := h.inv
    rw [List.map_cons, List.map_cons, RpA.keys h2]
theorem RpA.length {κ : Type} {vs : List (κ × V)} {ds : List (κ × D)} (h : RpA w ρ n H vs ds) : vs.length = ds.length := by
  have := congrArg List.length h.keys
  simpa using this
section
variable {κ : Type} [DecidableEq κ]
theorem RpA.get : ∀ {vs : List (κ × V)} {ds : List (κ × D)} (k : κ), RpA w ρ n H vs ds → (∀ d, getA ds k = some d → ∃ v, valV vs k = some v ∧ Rp w ρ n H v d) ∧ (getA ds k = none → valV vs k = none)
  | vs, [], k, h => by
    rw [h.inv0]
    exact ⟨fun d e => by simp [getA] at e, fun _ => rfl⟩
  | vs, (k', d) :: ds, k, h => by
    obtain ⟨v, r, rfl, h1, h2⟩ := h.inv
    by_cases e : k' = k
    · refine ⟨fun d' q => ⟨v, valV_pos e, ?_⟩, fun q => ?_⟩
      · have : getA ((k', d) :: ds) k = some d := by simp [getA, List.find?_cons, e]
        rw [this] at q; cases q; exact h1
      · have : getA ((k', d) :: ds) k = some d := by simp [getA, List.find?_cons, e]
        rw [this] at q; cases q
    · have e1 : getA ((k', d) :: ds) k = getA ds k := by simp [getA, List.find?_cons, e]
      rw [e1, valV_neg e]
      exact RpA.get k h2
theorem RpA.any : ∀ {vs : List (κ × V)} {ds : List (κ × D)} (k : κ), RpA w ρ n H vs ds → (vs.any fun kv => decide (kv.1 = k)) = ds.any fun kv => decide (kv.1 = k)
  | vs, [], k, h => by rw [h.inv0]; rfl
  | vs, (k', d) :: ds, k, h => by
    obtain ⟨v, r, rfl, h1, h2⟩ := h.inv
    rw [List.any_cons, List.any_cons, RpA.any k h2]
theorem RpA.mapSet {v : V} {d : D} (hv : Rp w ρ n H v d) : ∀ {vs : List (κ × V)} {ds : List (κ × D)} (k : κ), RpA w ρ n H vs ds → RpA w ρ n H (vs.map fun kv => if kv.1 = k then (kv.1, v) else kv) (ds.map fun kv => if kv.1 = k then (kv.1, d) else kv)
  | vs, [], k, h => by rw [h.inv0]; exact RpA.nil
  | vs, (k', d') :: ds, k, h => by
    obtain ⟨v', r, rfl, h1, h2⟩ := h.inv
    rw [List.map_cons, List.map_cons]
    by_cases e : k' = k
    · rw [if_pos e, if_pos e]
      exact RpA.cons hv (RpA.mapSet hv k h2)
    · rw [if_neg e, if_neg e]
      exact RpA.cons h1 (RpA.mapSet hv k h2)
theorem RpA.put {v : V} {d : D} (hv : Rp w ρ n H v d) {vs : List (κ × V)} {ds : List (κ × D)} (k : κ) (h : RpA w ρ n H vs ds) : RpA w ρ n H (putK vs k v) (putA ds k d) := by
  unfold putK putA
  rw [RpA.any k h]
  by_cases e : (ds.any fun kv => decide (kv.1 = k)) = true
  · rw [if_pos e, if_pos e]; exact RpA.mapSet hv k h
  · rw [if_neg e, if_neg e]; exact RpA.append h (RpA.cons hv RpA.nil)
end
end

/-! ### what can be read as a list -/
def seqD (d : D) (s : Sto) : Option (List D) := match d with
  | .tup xs => some xs
  | .ro xs => some xs
  | .loc k => match s[k]? with
    | some (.lst xs) => some xs
    | _ => none
  | _ => none
theorem seqD_ok {w : Wd} {ρ : Nat → Addr} {H : Hp} {s : Sto} {v : V} {d : D} {ds : List D} (hs : RS w ρ H s) (hr : Rp w ρ s.length H v d) (h : seqD d s = some ds) : RLs w ρ s.length H v ds := by
  cases d with
  | tup xs =>
    unfold Rp at hr
    obtain ⟨a, vs, rfl, hq, hl⟩ := hr
    simp only [seqD] at h; cases h
    exact ⟨a, vs, rfl, .inr hq, hl⟩
  | ro xs =>
    unfold Rp at hr
    obtain ⟨a, vs, rfl, hq, hl⟩ := hr
    simp only [seqD] at h; cases h
    exact ⟨a, vs, rfl, .inl hq.sqL, hl⟩
  | loc k =>
    unfold Rp at hr
    obtain ⟨_, rfl⟩ := hr
    simp only [seqD] at h
    split at h
    · rename_i xs e
      cases h
      obtain ⟨ho, e1, vs, rfl, hl⟩ := hs.get e
      exact ⟨_, vs, rfl, .inl (SqL.of e1), hl⟩
    · cases h
  | _ => simp only [seqD] at h; cases h
def lOfE (m : EM D) : EM (List D) := fun E s => (m E s).bind fun d s1 => match seqD d s1 with
  | some ds => .ok ds s1
  | none => .err
section
variable {X : Cx} {W : WX}
theorem ml_of {e : Expr} {m : EM D} (h : ME X W e m) : ML X W e (lOfE m) := by
  refine PE.imp h ?_
  intro σ H Q h
  obtain ⟨ρ, E, s, hs, he, h⟩ := tM.bind (R1 := Rp (wd X)) (m := m) (f := fun d E s1 => match seqD d s1 with | some ds => Res.ok ds s1 | none => .err) h
  refine ⟨ρ, E, s, hs, he, RQ.mono h ?_⟩
  rintro x H1 ⟨ρ1, E1, s1, dx, hs1, he1, rx, hq⟩
  split at hq
  · rename_i ds e
    exact hq ρ1 H1 x Lat.refl hs1 (seqD_ok hs1 rx e)
  · exact hq.elim
end

/-! ### fresh lists: not in the store -/
def RF (w : Wd) (W : XK) (ρ : Nat → Addr) (n : Nat) (H : Hp) (r : Res (List D)) (Q : VK) : Prop := match r with
  | .ok ds s' => ∀ ρ' H' a vs, Lat ρ n H ρ' s'.length H' → RS w ρ' H' s' → H a = none → (∀ k, k < s'.length → ρ' k ≠ a) → H' a = some (.lst vs) → RpL w ρ' s'.length H' vs ds → Q (.ref a) H'
  | .exc x s' => ∀ ρ' H' c, Lat ρ n H ρ' s'.length H' → RS w ρ' H' s' → w.mg x = some c → W c none H'
  | .err => False
def tF (w : Wd) (W : WX) (m : EM (List D)) : TE := fun σ H Q => ∃ ρ E s, RS w ρ H s ∧ RE w ρ s.length H σ E ∧ RF w (WE W σ) ρ s.length H (m E s) Q
abbrev MF (X : Cx) (W : WX) (e : Expr) (m : EM (List D)) : Prop := PE X e (tF (wd X) W m)
def eAlloc (m : EM (List D)) : EM D := fun E s => (m E s).bind fun ds s1 => .ok (.loc s1.length) (s1 ++ [.lst ds])
theorem RS.adopt {w : Wd} {ρ : Nat → Addr} {H : Hp} {s : Sto} {a : Addr} {ho : HO} {o : O} (r : RS w ρ H s) (hn : ∀ k, k < s.length → ρ k ≠ a) (e : H a = some ho) (ro : RO w ρ s.length H ho o) :
    RS w (ext ρ s.length a) H (s ++ [o]) := by
  have hl : (s ++ [o]).length = s.length + 1 := by simp
  have up : ∀ {ho : HO} {o : O}, RO w ρ s.length H ho o → RO w (ext ρ s.length a) (s.length + 1) H ho o := fun {ho o} h => RO.up (fun k h => ext_lt h) (Nat.le_succ _) h
  refine ⟨fun k u q => ?_, fun i j hi hj q => ?_⟩
  · rw [hl]
    by_cases hk : k < s.length
    · rw [List.getElem?_append_left hk] at q
      obtain ⟨hu, z, ro'⟩ := r.obj k u q
      exact ⟨hu, by rw [ext_lt hk]; exact z, up ro'⟩
    · have hk2 : k = s.length := by
        have := (List.getElem?_eq_some_iff.mp q).1
        rw [hl] at this; omega
      subst hk2
      rw [List.getElem?_append_right (Nat.le_refl _)] at q
      simp at q
      subst q
      exact ⟨ho, by rw [ext_eq]; exact e, up ro⟩
  · rw [hl] at hi hj
    by_cases h1 : i < s.length
    · by_cases h2 : j < s.length
      · rw [ext_lt h1, ext_lt h2] at q; exact r.inj i j h1 h2 q
      · have ej : j = s.length := by omega
        subst ej
        rw [ext_lt h1, ext_eq] at q
        exact absurd q (hn i h1)
    · have ei : i = s.length := by omega
      subst ei
      by_cases h2 : j < s.length
      · rw [ext_eq, ext_lt h2] at q
        exact absurd q.symm (hn j h2)
      · omega

section
variable {X : Cx} {W : WX}
theorem ml_of_mf {e : Expr} {m : EM (List D)} (h : MF X W e m) : ML X W e m := by
  refine PE.imp h ?_
  rintro σ H Q ⟨ρ, E, s, hs, he, h⟩
  refine ⟨ρ, E, s, hs, he, ?_⟩
  cases q : m E s with
  | ok ds s' =>
    rw [q] at h
    exact fun ρ' H' a vs L hs' _ _ e r => h ρ' H' (.ref a) L hs' ⟨a, vs, rfl, .inl (SqL.of e), r⟩
  | exc x s' => rw [q] at h; exact h
  | err => rw [q] at h; exact h
theorem me_of_mf {e : Expr} {m : EM (List D)} (h : MF X W e m) : ME X W e (eAlloc m) := by
  refine PE.imp h ?_
  rintro σ H Q ⟨ρ, E, s, hs, he, h⟩
  refine ⟨ρ, E, s, hs, he, ?_⟩
  unfold eAlloc at h
  cases q : m E s with
  | ok ds s' =>
    rw [q] at h
    intro ρ' H' a vs L hs' h0 hn e r
    have hl : (s' ++ [O.lst ds]).length = s'.length + 1 := by simp
    refine h (ext ρ' s'.length a) H' (.ref a) ?_ (hs'.adopt hn e ⟨vs, rfl, r⟩) ?_
    · rw [hl]
      refine ⟨Nat.le_succ_of_le L.le, fun k hk => by rw [ext_lt (Nat.lt_of_lt_of_le hk L.le)]; exact L.agree k hk, L.keep, L.froz, L.dom, fun k h1 h2 => ?_⟩
      by_cases hk : k < s'.length
      · rw [ext_lt hk]; exact L.new k h1 hk
      · have : k = s'.length := by omega
        rw [this, ext_eq]; exact h0
    · unfold Rp
      exact ⟨by rw [hl]; exact Nat.lt_succ_self _, by rw [ext_eq]⟩
  | exc x s' => rw [q] at h; exact h
  | err => rw [q] at h; exact h
end
end Y

set_option Elab.async false
set_option linter.all false
set_option maxRecDepth 100000
/-! Y4: operators by values. -/
namespace Y
open PySem L2

section
variable {w : Wd} {ρ : Nat → Addr} {n : Nat} {H : Hp} {v : V}
theorem Rp.int_ {i : Int} (h : Rp w ρ n H v (.int i)) : v = .int i := by unfold Rp at h; exact h
theorem Rp.str_ {x : Str} (h : Rp w ρ n H v (.str x)) : v = .str x := by unfold Rp at h; exact h
theorem Rp.bl_ {b : Bool} (h : Rp w ρ n H v (.bl b)) : v = .bl b := by unfold Rp at h; exact h
theorem Rp.non_ (h : Rp w ρ n H v .non) : v = .non := by unfold Rp at h; exact h
theorem Rp.ty_ {t : String} (h : Rp w ρ n H v (.ty t)) : v = .ty t := by unfold Rp at h; exact h
theorem Rp.tup_ {xs : List D} (h : Rp w ρ n H v (.tup xs)) : ∃ a vs, v = .ref a ∧ SqU w.K H a vs ∧ RpL w ρ n H vs xs := by unfold Rp at h; exact h
theorem Rp.ro_ {xs : List D} (h : Rp w ρ n H v (.ro xs)) : ∃ a vs, v = .ref a ∧ SqR w.K H a vs ∧ RpL w ρ n H vs xs := by unfold Rp at h; exact h
theorem Rp.loc_ {k : Nat} (h : Rp w ρ n H v (.loc k)) : k < n ∧ v = .ref (ρ k) := by unfold Rp at h; exact h
theorem Rp.int (i : Int) : Rp w ρ n H (.int i) (.int i) := by unfold Rp; rfl
theorem Rp.str (x : Str) : Rp w ρ n H (.str x) (.str x) := by unfold Rp; rfl
theorem Rp.bl (b : Bool) : Rp w ρ n H (.bl b) (.bl b) := by unfold Rp; rfl
theorem Rp.non : Rp w ρ n H .non .non := by unfold Rp; rfl
theorem Rp.tup {a : Addr} {vs : List V} {xs : List D} (h : SqU w.K H a vs) (r : RpL w ρ n H vs xs) : Rp w ρ n H (.ref a) (.tup xs) := by unfold Rp; exact ⟨a, vs, rfl, h, r⟩
end
/-- a result in the same state -/
theorem RQ.val {w : Wd} {W : XK} {ρ : Nat → Addr} {H : Hp} {s : Sto} {d : D} {v : V} {Q : VK} (h : RQ w (Rp w) W ρ s.length H (.ofO (some (d, s))) Q) (hs : RS w ρ H s) (r : Rp w ρ s.length H v d) : Q v H := h ρ H v Lat.refl hs r

/-! ### arithmetic -/
/-- the number is small (kept from the kernel's unary roads) -/
def fitI (j : Int) : Bool := Nat.ble j.natAbs 1152921504606846975
theorem fitI_iff {j : Int} : fitI j = true ↔ j.natAbs ≤ 1152921504606846975 := by
  unfold fitI; rw [Nat.ble_eq]
theorem fitI_62 {j : Int} (h : fitI j = true) : -(2 ^ 62) ≤ j ∧ j < 2 ^ 62 := by
  have h := fitI_iff.mp h
  have e : (2 : Int) ^ 62 = 4611686018427387904 := by decide +kernel
  rw [e]; omega
theorem fitI_63 {j : Int} (h : fitI j = true) : j < 2 ^ 63 := by
  have h := fitI_iff.mp h
  have e : (2 : Int) ^ 63 = 9223372036854775808 := by decide +kernel
  rw [e]; omega
theorem fitI_63n {j : Int} (h : fitI j = true) : -(2 ^ 63) ≤ j := by
  have h := fitI_iff.mp h
  have e : (2 : Int) ^ 63 = 9223372036854775808 := by decide +kernel
  rw [e]; omega
theorem fitI_64 {j : Int} (h : fitI j = true) : -(2 ^ 64) < j ∧ j < 2 ^ 64 := by
  have h := fitI_iff.mp h
  have e : (2 : Int) ^ 64 = 18446744073709551616 := by decide +kernel
  rw [e]; omega
theorem fitI_nat {j : Int} (h : fitI j = true) : j.natAbs < 2 ^ 64 := by
  have h := fitI_iff.mp h
  have e : (2 : Nat) ^ 64 = 18446744073709551616 := by decide +kernel
  rw [e]; omega
/-- a text times a number -/
def repS (x : Str) (n : Int) : Str := if n < 1 then Str.empty else if (n == 1 || x.length == 0) = true then x else ⟨(List.replicate n.toNat x.cps).foldl (· ++ ·) #[]⟩
def pAdd : P2
  | .int i, .int j, s => some (.int (i + j), s)
  | .str x, .str y, s => if x.length + y.length ≤ sizeLine then some (.str (x ++ y), s) else none
  | .tup xs, .tup ys, s => if xs.length + ys.length ≤ sizeLine then some (.tup (xs ++ ys), s) else none
  | .loc i, .loc j, s => match s[i]?, s[j]? with
    | some (.lst xs), some (.lst ys) => if xs.length + ys.length ≤ sizeLine then some (.loc s.length, s ++ [.lst (xs ++ ys)]) else none
    | _, _ => none
  | _, _, _ => none
def pSub : P2
  | .int i, .int j, s => some (.int (i - j), s)
  | _, _, _ => none
def pMul : P2
  | .int i, .int j, s => if i.natAbs.log2 + j.natAbs.log2 < 1000000 then some (.int (i * j), s) else none
  | .str x, .int j, s => if fitI j = true ∧ x.length * j.toNat ≤ sizeLine then some (.str (repS x j), s) else none
  | .loc k, .int j, s => match s[k]? with
    | some (.lst xs) => if fitI j = true ∧ xs.length * j.toNat ≤ sizeLine then some (.loc s.length, s ++ [.lst (List.replicate j.toNat xs).flatten]) else none
    | _ => none
  | _, _, _ => none
def pDiv : P2
  | .int i, .int j, s => if 0 < j ∧ j.natAbs.log2 < 9000 then some (.int (i / j), s) else none
  | _, _, _ => none
def pMod : P2
  | .int i, .int j, s => if 0 < j then some (.int (i % j), s) else none
  | _, _, _ => none
def pPow : P2
  | .int i, .int j, s => if 0 ≤ j ∧ j ≤ 1000000 ∧ fitI i = true then some (.int (i ^ j.toNat), s) else none
  | _, _, _ => none
def p2None : P2 := fun _ _ _ => none
def pBin : Operator → P2
  | .Add => pAdd
  | .Sub => pSub
  | .Mult => pMul
  | .FloorDiv => pDiv
  | .Mod => pMod
  | .Pow => pPow
  | _ => p2None
section
variable {X : Cx}
theorem op_add' : OpM X (binaryOp .Add) pAdd := by
  rintro pins s σ H x y v u Q I rx ry ⟨ρ, st, dx, dy, hs, hx, hy, q⟩
  unfold pAdd at q
  split at q
  · rename_i i j
    exact op_add pins s σ H x y v u Q I rx ry ⟨i, j, hx.int_, hy.int_, q.val hs (Rp.int _)⟩
  · rename_i i j
    split at q
    · rename_i hl
      exact op_add_str pins s σ H x y v u Q I rx ry ⟨i, j, hx.str_, hy.str_, hl, q.val hs (Rp.str _)⟩
    · exact q.elim
  · rename_i xs ys
    split at q
    · rename_i hl
      obtain ⟨a, vs, rfl, qa, la⟩ := hx.tup_
      obtain ⟨b, ws, rfl, qb, lb⟩ := hy.tup_
      refine op_catA pins s σ H _ _ v u Q I rx ry ⟨a, b, vs, ws, rfl, rfl, qa.sqT, qb.sqT, by rw [RpL.length la, RpL.length lb]; exact hl, fun e => ?_, fun e1 e2 => ?_, fun e1 e2 p hp => ?_⟩
      · have e3 : xs = [] := by cases xs with
          | nil => rfl
          | cons _ _ => obtain ⟨_, _, z, _⟩ := la.inv; rw [e] at z; cases z
        subst e3
        exact q.val hs (Rp.tup qb lb)
      · have e3 : ys = [] := by cases ys with
          | nil => rfl
          | cons _ _ => obtain ⟨_, _, z, _⟩ := lb.inv; rw [e2] at z; cases z
        subst e3
        rw [List.append_nil] at q
        exact q.val hs (Rp.tup qa la)
      · exact RQ.tup q hs (RpL.append la lb) hp
    · exact q.elim
  · rename_i i j
    split at q
    · rename_i xs ys e1 e2
      split at q
      · rename_i hl
        obtain ⟨_, rfl⟩ := hx.loc_
        obtain ⟨_, rfl⟩ := hy.loc_
        obtain ⟨ho1, h1, vs, rfl, r1⟩ := hs.get e1
        obtain ⟨ho2, h2, ws, rfl, r2⟩ := hs.get e2
        exact op_cat pins s σ H _ _ v u Q I rx ry ⟨_, _, vs, ws, rfl, rfl, h1, h2, by rw [RpL.length r1, RpL.length r2]; exact hl, fun p hp => RQ.obj q hs ⟨_, rfl, RpL.append r1 r2⟩ hp⟩
      · exact q.elim
    · exact q.elim
  · exact q.elim
theorem op_none {f : Value → Value → Sem Value} : OpM X f p2None := by
  rintro pins s σ H x y v u Q I rx ry ⟨ρ, st, dx, dy, hs, hx, hy, q⟩
  exact q.elim
/-- two ints, under a condition -/
theorem op_int {f : Value → Value → Sem Value} {C : Int → Int → Prop} [∀ i j, Decidable (C i j)] {g : Int → Int → Int} {p : P2} (h : OpR X f (rI C fun i j => V.int (g i j)))
    (hp : ∀ dx dy s r, p dx dy s = some r → ∃ i j, dx = .int i ∧ dy = .int j ∧ C i j ∧ r = (.int (g i j), s)) : OpM X f p := by
  rintro pins s σ H x y v u Q I rx ry ⟨ρ, st, dx, dy, hs, hx, hy, q⟩
  cases e : p dx dy st with
  | none => rw [e] at q; exact q.elim
  | some r =>
    obtain ⟨i, j, rfl, rfl, hc, rfl⟩ := hp _ _ _ _ e
    rw [e] at q
    exact h pins s σ H x y v u Q I rx ry ⟨i, j, hx.int_, hy.int_, hc, q.val hs (Rp.int _)⟩
theorem RpL.flat {w : Wd} {ρ : Nat → Addr} {n : Nat} {H : Hp} {vs : List V} {ds : List D} (h : RpL w ρ n H vs ds) : ∀ m : Nat, RpL w ρ n H (List.replicate m vs).flatten (List.replicate m ds).flatten
  | 0 => by simp; unfold RpL; rfl
  | m + 1 => by
    rw [List.replicate_succ, List.replicate_succ, List.flatten_cons, List.flatten_cons]
    exact RpL.append h (RpL.flat h m)
theorem size_rep {α : Type} (a : Array α) : ∀ (m : Nat) (b : Array α), (List.foldl (· ++ ·) b (List.replicate m a)).size = b.size + m * a.size
  | 0, b => by simp
  | m + 1, b => by
    rw [List.replicate_succ, List.foldl_cons, size_rep a m (b ++ a), Array.size_append, Nat.succ_mul]
    omega
theorem op_mul' : OpM X (binaryOp .Mult) pMul := by
  rintro pins s σ H x y v u Q I rx ry ⟨ρ, st, dx, dy, hs, hx, hy, q⟩
  unfold pMul at q
  split at q
  · rename_i i j
    split at q
    · rename_i hl
      exact op_mulW pins s σ H x y v u Q I rx ry ⟨i, j, hx.int_, hy.int_, hl, q.val hs (Rp.int _)⟩
    · exact q.elim
  · rename_i x' j
    split at q
    · rename_i hl
      obtain ⟨h1, h2⟩ := hl
      have h1 := fitI_iff.mp h1
      cases hx.str_
      cases hy.int_
      obtain ⟨t, rfl⟩ := rx
      obtain ⟨t2, rfl⟩ := ry
      have e63 : (2 : Int) ^ 63 = 9223372036854775808 := by decide +kernel
      have hb : ¬ j < 1 → ¬ ((x'.length : Int) > (2 ^ 63 - 1) / j) := fun hj => by
        have h3 : (x'.length : Int) * j ≤ 16777216 := by
          obtain ⟨m, rfl⟩ : ∃ m : Nat, j = m := ⟨j.toNat, by omega⟩
          rw [Int.toNat_natCast, sizeLine_eq] at h2
          rw [← Int.natCast_mul]
          omega
        have := (Int.le_ediv_iff_mul_le (show (0 : Int) < j by omega)).mpr (show (x'.length : Int) * j ≤ 2 ^ 63 - 1 by rw [e63]; omega)
        omega
      refine P.mul_str (by rw [e63, decide_eq_false (by omega), decide_eq_false (by omega)]; rfl) (fun hj _ => hb hj) (fun _ _ => ?_) ?_
      · unfold Builtin.Str.tooLong
        exact decide_eq_false (Nat.not_lt.mpr h2)
      · unfold repS at q
        by_cases c1 : j < 1
        · rw [if_pos c1] at q ⊢
          exact ⟨by decide, .str Str.empty, H, I.tok _, ⟨_, rfl⟩, RQ.val q hs (Rp.str _)⟩
        · rw [if_neg c1] at q ⊢
          by_cases c2 : (j == 1 || x'.length == 0) = true
          · rw [if_pos c2] at q ⊢
            exact ⟨.str x', H, I, ⟨t, rfl⟩, RQ.val q hs (Rp.str _)⟩
          · rw [if_neg c2] at q ⊢
            refine ⟨?_, .str _, H, I.tok _, ⟨_, rfl⟩, RQ.val q hs (Rp.str _)⟩
            have := size_rep x'.cps j.toNat #[]
            show (List.foldl (· ++ ·) #[] (List.replicate j.toNat x'.cps)).size ≤ sizeLine
            rw [this]
            have h3 : x'.cps.size * j.toNat ≤ sizeLine := h2
            rw [Nat.mul_comm]
            simpa using h3
    · exact q.elim
  · rename_i k j
    split at q
    · rename_i xs e1
      split at q
      · rename_i hl
        obtain ⟨_, rfl⟩ := hx.loc_
        obtain ⟨ho1, h1, vs, rfl, r1⟩ := hs.get e1
        cases hy.int_
        exact op_rep pins s σ H _ _ v u Q I rx ry ⟨_, j, vs, rfl, rfl, h1, fitI_63n hl.1, fitI_63 hl.1, by rw [RpL.length r1]; exact hl.2, fun p hp => RQ.obj q hs ⟨_, rfl, RpL.flat r1 _⟩ hp⟩
      · exact q.elim
    · exact q.elim
  · exact q.elim
theorem op_bin (op : Operator) : OpM X (binaryOp op) (pBin op) := by
  cases op with
  | Add => exact op_add'
  | Sub =>
    refine op_int (C := fun _ _ => True) (g := fun i j => i - j) (fun pins s σ H x y v u Q I rx ry ⟨i, j, a, b, _, q⟩ => op_sub pins s σ H x y v u Q I rx ry ⟨i, j, a, b, q⟩) fun dx dy s r e => ?_
    have e : pSub dx dy s = some r := e
    unfold pSub at e
    split at e
    · cases e; exact ⟨_, _, rfl, rfl, trivial, rfl⟩
    · cases e
  | Mult => exact op_mul'
  | FloorDiv =>
    refine op_int (C := fun i j => 0 < j ∧ j.natAbs.log2 < 9000) (g := fun i j => i / j) op_fdivW fun dx dy s r e => ?_
    have e : pDiv dx dy s = some r := e
    unfold pDiv at e
    split at e
    · split at e
      · cases e; exact ⟨_, _, rfl, rfl, by assumption, rfl⟩
      · cases e
    · cases e
  | Mod =>
    refine op_int (C := fun i j => 0 < j) (g := fun i j => i % j) op_mod fun dx dy s r e => ?_
    have e : pMod dx dy s = some r := e
    unfold pMod at e
    split at e
    · split at e
      · cases e; exact ⟨_, _, rfl, rfl, by assumption, rfl⟩
      · cases e
    · cases e
  | Pow =>
    refine op_int (C := fun i j => 0 ≤ j ∧ j ≤ 1000000 ∧ i.natAbs < 2 ^ 64) (g := fun i j => i ^ j.toNat) op_pow fun dx dy s r e => ?_
    have e : pPow dx dy s = some r := e
    unfold pPow at e
    split at e
    · split at e
      · rename_i hc; cases e; exact ⟨_, _, rfl, rfl, ⟨hc.1, hc.2.1, fitI_nat hc.2.2⟩, rfl⟩
      · cases e
    · cases e
  | _ => exact op_none
def pNeg : P1
  | .int i, s => some (.int (-i), s)
  | _, _ => none
theorem un_neg' : UnM X (unaryOp .USub) pNeg := by
  rintro pins s σ H x v Q I rx ⟨ρ, st, dx, hs, hx, q⟩
  unfold pNeg at q
  split at q
  · exact un_neg pins s σ H x v Q I rx ⟨_, hx.int_, q.val hs (Rp.int _)⟩
  · exact q.elim
end

/-! ### comparisons -/
mutual
def pd0 : D → Option PyData
  | .non => some .none
  | .bl b => some (.bool b)
  | .int i => some (.int i)
  | .str x => some (.str x)
  | .tup xs => (pd0L xs).map .tuple
  | .ro xs => (pd0L xs).map .list
  | _ => none
def pd0L : List D → Option (List PyData)
  | [] => some []
  | d :: ds => match pd0 d, pd0L ds with
    | some e, some es => some (e :: es)
    | _, _ => none
end
def pd (d : D) (s : Sto) : Option PyData := match d with
  | .loc k => match s[k]? with
    | some (.lst xs) => (pd0L xs).map .list
    | _ => none
  | d => pd0 d
section
variable {w : Wd} {ρ : Nat → Addr} {n : Nat} {H : Hp}
mutual
theorem Rp.dp : ∀ {v : V} (d : D) {e : PyData}, Rp w ρ n H v d → pd0 d = some e → Dp w.K H v e
  | v, .non, e, h, q => by rw [h.non_]; unfold pd0 at q; cases q; exact .non
  | v, .bl b, e, h, q => by rw [h.bl_]; unfold pd0 at q; cases q; exact .bl b
  | v, .int i, e, h, q => by rw [h.int_]; unfold pd0 at q; cases q; exact .int i
  | v, .str x, e, h, q => by rw [h.str_]; unfold pd0 at q; cases q; exact .str x
  | v, .tup xs, e, h, q => by
    obtain ⟨a, vs, rfl, sq, r⟩ := h.tup_
    unfold pd0 at q
    cases z : pd0L xs with
    | none => rw [z] at q; cases q
    | some es => rw [z] at q; cases q; exact .tup sq.sqT (RpL.dp xs r z)
  | v, .ro xs, e, h, q => by
    obtain ⟨a, vs, rfl, sq, r⟩ := h.ro_
    unfold pd0 at q
    cases z : pd0L xs with
    | none => rw [z] at q; cases q
    | some es => rw [z] at q; cases q; exact .lst sq.sqL (RpL.dp xs r z)
  | v, .loc k, e, h, q => by unfold pd0 at q; cases q
  | v, .gl k, e, h, q => by unfold pd0 at q; cases q
  | v, .ty k, e, h, q => by unfold pd0 at q; cases q
theorem RpL.dp : ∀ {vs : List V} (ds : List D) {es : List PyData}, RpL w ρ n H vs ds → pd0L ds = some es → DpAll w.K H vs es
  | vs, [], es, h, q => by rw [h.inv0]; unfold pd0L at q; cases q; exact .nil
  | vs, d :: ds, es, h, q => by
    obtain ⟨v, r, rfl, h1, h2⟩ := h.inv
    unfold pd0L at q
    cases z1 : pd0 d with
    | none => rw [z1] at q; cases q
    | some e1 =>
      cases z2 : pd0L ds with
      | none => rw [z1, z2] at q; cases q
      | some e2 => rw [z1, z2] at q; cases q; exact .cons (Rp.dp d h1 z1) (RpL.dp ds h2 z2)
end
theorem pd_ok {s : Sto} {v : V} {d : D} {e : PyData} (hs : RS w ρ H s) (hr : Rp w ρ s.length H v d) (q : pd d s = some e) : Dp w.K H v e := by
  cases d with
  | loc k =>
    simp only [pd] at q
    split at q
    · rename_i xs e1
      cases z : pd0L xs with
      | none => rw [z] at q; cases q
      | some es =>
        rw [z] at q; cases q
        obtain ⟨_, rfl⟩ := hr.loc_
        obtain ⟨ho, h1, vs, rfl, r⟩ := hs.get e1
        exact .lst (SqL.of h1) (RpL.dp xs r z)
    · cases q
  | _ => exact Rp.dp _ hr q
end
/-- the scalars -/
def scalD : D → D → Option Bool
  | .non, .non => some true
  | .non, .int _ => some false | .int _, .non => some false | .non, .bl _ => some false | .bl _, .non => some false | .non, .str _ => some false | .str _, .non => some false
  | .int i, .int j => some (decide (i = j))
  | .bl i, .bl j => some (decide (i = j))
  | .str x, .str y => some (decide (x = y))
  | .int _, .str _ => some false | .str _, .int _ => some false | .bl _, .str _ => some false | .str _, .bl _ => some false
  | _, _ => none
theorem scalD_ok {w : Wd} {ρ : Nat → Addr} {n : Nat} {H : Hp} {x y : V} {dx dy : D} {b : Bool} (hx : Rp w ρ n H x dx) (hy : Rp w ρ n H y dy) (h : scalD dx dy = some b) : scal x y = true ∧ decide (x = y) = b := by
  unfold scalD at h
  split at h <;> first | (cases h; done) | skip
  all_goals
    cases h
    unfold Rp at hx hy
    subst hx hy
    refine ⟨rfl, ?_⟩
    first
      | rfl
      | (rename_i i j; by_cases e : i = j
         · subst e; simp
         · simp [e])
      | simp
def eqP (x y : D) (s : Sto) : Option Bool := match scalD x y with
  | some b => some b
  | none => match pd x s, pd y s with
    | some a, some b => if SeqAt.shaped a = true ∧ SeqAt.shaped b = true then some (PyData.eqv a b) else none
    | _, _ => none
def pEq : P2 := fun x y s => (eqP x y s).map fun b => (.bl b, s)
def pNe : P2 := fun x y s => (eqP x y s).map fun b => (.bl (!b), s)
def pLt : P2
  | .int i, .int j, s => some (.bl (decide (i < j)), s)
  | .str x, .str y, s => some (.bl (decide (x.cps.toList < y.cps.toList)), s)
  | _, _, _ => none
def pLe : P2
  | .int i, .int j, s => some (.bl (decide (i ≤ j)), s)
  | _, _, _ => none
def pGt : P2
  | .int i, .int j, s => some (.bl (decide (j < i)), s)
  | .str x, .str y, s => some (.bl (decide (y.cps.toList < x.cps.toList)), s)
  | _, _, _ => none
def pGe : P2
  | .int i, .int j, s => some (.bl (decide (j ≤ i)), s)
  | _, _, _ => none
def keyD : D → Option Key
  | .int i => some (.inl i)
  | .str x => some (.inr x)
  | _ => none
theorem keyD_ok {w : Wd} {ρ : Nat → Addr} {n : Nat} {H : Hp} {v : V} {d : D} {k : Key} (h : Rp w ρ n H v d) (e : keyD d = some k) : v = kV k := by
  unfold keyD at e
  split at e
  · cases e; exact h.int_
  · cases e; exact h.str_
  · cases e
/-- x in a tuple or list: the items in order, each compared -/
def inL (x : D) (s : Sto) : List D → Option Bool
  | [] => some false
  | y :: ys => match eqP y x s with
    | some true => some true
    | some false => inL x s ys
    | none => none
def flatD : D → Bool
  | .non => true | .bl _ => true | .int _ => true | .str _ => true | _ => false
def flatEq : D → D → Bool
  | .non, .non => true
  | .bl a, .bl b => a == b
  | .bl a, .int j => (if a then 1 else 0) == j
  | .int i, .bl b => i == (if b then 1 else 0)
  | .int i, .int j => i == j
  | .str x, .str y => decide (x = y)
  | _, _ => false
def inP (x y : D) (s : Sto) : Option Bool := match y with
  | .loc k => match s[k]? with
    | some (.dic kvs) => (keyD x).map fun k => (getA kvs k).isSome
    | some (.lst ys) => if flatD x = true ∧ ys.all flatD = true then some (ys.any fun y => flatEq y x) else
      match pd0 x, pd0L ys with
      | some a, some b => if SeqAt.shaped a = true ∧ SeqAt.shaped (.list b) = true then some (b.any fun z => PyData.eqv z a) else none
      | _, _ => none
    | _ => none
  | .tup ys => if flatD x = true ∧ ys.all flatD = true then some (ys.any fun y => flatEq y x) else none
  | .ro ys => if flatD x = true ∧ ys.all flatD = true then some (ys.any fun y => flatEq y x) else none
  | .str z => match x with
    | .str c => some (!(Builtin.Str.occurrences z c 0 z.length 1).isEmpty)
    | _ => none
  | _ => none
def pIn : P2 := fun x y s => (inP x y s).map fun b => (.bl b, s)
def pNotIn : P2 := fun x y s => (inP x y s).map fun b => (.bl (!b), s)
def pIs : P2
  | x, .non, s => match x with
    | .gl _ => none
    | .ty _ => none
    | .non => some (.bl true, s)
    | _ => some (.bl false, s)
  | _, _, _ => none
def pIsNot : P2
  | x, .non, s => match x with
    | .gl _ => none
    | .ty _ => none
    | .non => some (.bl false, s)
    | _ => some (.bl true, s)
  | _, _, _ => none
def pCmp : CmpOp → P2
  | .Eq => pEq
  | .NotEq => pNe
  | .Lt => pLt
  | .LtE => pLe
  | .Gt => pGt
  | .GtE => pGe
  | .Is => pIs
  | .IsNot => pIsNot
  | .In => pIn
  | .NotIn => pNotIn

section
variable {w : Wd} {ρ : Nat → Addr} {n : Nat} {H : Hp}
theorem flat_ok {v : V} {d : D} (h : Rp w ρ n H v d) (f : flatD d = true) : flatV v = true := by
  cases d with
  | non => rw [h.non_]; rfl
  | bl b => rw [h.bl_]; rfl
  | int i => rw [h.int_]; rfl
  | str x => rw [h.str_]; rfl
  | _ => cases f
theorem flats_ok : ∀ {vs : List V} {ds : List D}, RpL w ρ n H vs ds → ds.all flatD = true → vs.all flatV = true
  | vs, [], h, _ => by rw [h.inv0]; rfl
  | vs, d :: ds, h, f => by
    obtain ⟨v, r, rfl, h1, h2⟩ := h.inv
    rw [List.all_cons, Bool.and_eq_true] at f
    rw [List.all_cons, flat_ok h1 f.1, flats_ok h2 f.2]
    rfl
theorem flatEq_ok {x y : V} {dx dy : D} (hx : Rp w ρ n H x dx) (hy : Rp w ρ n H y dy) (fx : flatD dx = true) (fy : flatD dy = true) : eqV x y = flatEq dx dy := by
  cases dx <;> first | (cases fx; done) | skip
  all_goals cases dy <;> first | (cases fy; done) | skip
  all_goals
    unfold Rp at hx hy
    subst hx hy
    first
      | rfl
      | (unfold eqV flatEq; first | rfl | (simp; done))
theorem any_ok {x : V} {dx : D} (hx : Rp w ρ n H x dx) (fx : flatD dx = true) : ∀ {vs : List V} {ds : List D}, RpL w ρ n H vs ds → ds.all flatD = true → inV x vs = ds.any fun y => flatEq y dx
  | vs, [], h, _ => by rw [h.inv0]; rfl
  | vs, d :: ds, h, f => by
    obtain ⟨v, r, rfl, h1, h2⟩ := h.inv
    rw [List.all_cons, Bool.and_eq_true] at f
    have ih := any_ok hx fx h2 f.2
    unfold inV at ih ⊢
    rw [List.any_cons, List.any_cons, ih, flatEq_ok h1 hx f.1 fx]
end
section
variable {X : Cx}
theorem eq_run (hr : Room 0 X.A) {pins : List (Addr × Obj)} {s : Shared} {σ : St} {H : Hp} {x y : V} {v u : Value} {Q : VK} {ρ : Nat → Addr} {st : Sto} {dx dy : D} {b : Bool} (I : Inv X pins σ H s) (rx : RelV x v) (ry : RelV y u) (hs : RS (wd X) ρ H st)
    (hx : Rp (wd X) ρ st.length H x dx) (hy : Rp (wd X) ρ st.length H y dy) (e : eqP dx dy st = some b) :
    (Q (.bl b) H → wpAny (model X.prog X.w) X.A (compareOp .Eq v u) (EP X pins σ Q) X.xe s) ∧ (Q (.bl (!b)) H → wpAny (model X.prog X.w) X.A (compareOp .NotEq v u) (EP X pins σ Q) X.xe s) := by
  unfold eqP at e
  split at e
  · rename_i b' e'
    cases e
    obtain ⟨h1, h2⟩ := scalD_ok hx hy e'
    exact ⟨fun q => op_eq pins s σ H x y v u Q I rx ry ⟨h1, by rw [h2]; exact q⟩, fun q => op_ne pins s σ H x y v u Q I rx ry ⟨h1, by rw [h2]; exact q⟩⟩
  · split at e
    · rename_i a c ea ec
      split at e
      · rename_i hsh
        cases e
        have da := pd_ok hs hx ea
        have dc := pd_ok hs hy ec
        exact ⟨fun q => op_eqD hr.units pins s σ H x y v u Q I rx ry ⟨a, c, da, dc, hsh.1, hsh.2, q⟩, fun q => op_neD hr.units pins s σ H x y v u Q I rx ry ⟨a, c, da, dc, hsh.1, hsh.2, q⟩⟩
      · cases e
    · cases e
theorem in_run (hr : Room 0 X.A) {pins : List (Addr × Obj)} {s : Shared} {σ : St} {H : Hp} {x y : V} {v u : Value} {Q : VK} {ρ : Nat → Addr} {st : Sto} {dx dy : D} {b : Bool} (I : Inv X pins σ H s) (rx : RelV x v) (ry : RelV y u) (hs : RS (wd X) ρ H st)
    (hx : Rp (wd X) ρ st.length H x dx) (hy : Rp (wd X) ρ st.length H y dy) (e : inP dx dy st = some b) :
    (Q (.bl b) H → wpAny (model X.prog X.w) X.A (compareOp .In v u) (EP X pins σ Q) X.xe s) ∧ (Q (.bl (!b)) H → wpAny (model X.prog X.w) X.A (compareOp .NotIn v u) (EP X pins σ Q) X.xe s) := by
  have hu : X.A.units + 65 < cLine := by have := hr.un; omega
  have hu1 : X.A.units + 1 < cLine := by omega
  have flat : ∀ {a : Addr} {vs : List V} {ys : List D}, y = .ref a → (SqL X.K H a vs ∨ SqT X.K H a vs) → RpL (wd X) ρ st.length H vs ys → flatD dx = true → ys.all flatD = true →
      (Q (.bl (ys.any fun y => flatEq y dx)) H → wpAny (model X.prog X.w) X.A (compareOp .In v u) (EP X pins σ Q) X.xe s) ∧ (Q (.bl (!(ys.any fun y => flatEq y dx))) H → wpAny (model X.prog X.w) X.A (compareOp .NotIn v u) (EP X pins σ Q) X.xe s) := by
    intro a vs ys ey sq r f1 f2
    have ea := any_ok hx f1 r f2
    refine ⟨fun q => op_in_seq pins s σ H x y v u Q I rx ry ⟨a, vs, ey, sq, flat_ok hx f1, flats_ok r f2, ?_⟩, fun q => op_notIn_seq pins s σ H x y v u Q I rx ry ⟨a, vs, ey, sq, flat_ok hx f1, flats_ok r f2, ?_⟩⟩
    · show Q (.bl (if false = true then !inV x vs else inV x vs)) H
      rw [if_neg Bool.false_ne_true, ea]; exact q
    · show Q (.bl (if true = true then !inV x vs else inV x vs)) H
      rw [if_pos rfl, ea]; exact q
  unfold inP at e
  split at e
  · rename_i k
    obtain ⟨_, rfl⟩ := hy.loc_
    cases (show u = Value.ref (ρ k) from ry)
    split at e
    · rename_i kvs e1
      obtain ⟨ho, h1, vs, rfl, r⟩ := hs.get e1
      cases ek : keyD dx with
      | none => rw [ek] at e; cases e
      | some k' =>
        rw [ek] at e; cases e
        have ev := keyD_ok hx ek
        subst ev
        have g : DGet H (ρ k) (kV k') (valV vs k') := DGet.k h1
        obtain ⟨g1, g2⟩ := RpA.get k' r
        have eb : (valV vs k').isSome = (getA kvs k').isSome := by
          cases z : getA kvs k' with
          | none => rw [g2 z]; rfl
          | some d => obtain ⟨v', e', _⟩ := g1 d z; rw [e']; rfl
        exact ⟨fun q => d_in hu1 I g rx fun s3 I3 => ⟨.bl _, H, I3, rfl, by rw [eb]; exact q⟩, fun q => d_notIn hu1 I g rx fun s3 I3 => ⟨.bl _, H, I3, rfl, by rw [eb]; exact q⟩⟩
    · rename_i ys e1
      obtain ⟨ho, h1, vs, rfl, r⟩ := hs.get e1
      split at e
      · rename_i hf
        cases e
        exact flat rfl (.inl (SqL.of h1)) r hf.1 hf.2
      · split at e
        · rename_i a c ea ec
          split at e
          · rename_i hsh
            cases e
            have da := Rp.dp _ hx ea
            have dc := RpL.dp _ r ec
            exact ⟨fun q => op_inD hu pins s σ H x (.ref (ρ k)) v _ Q I rx rfl ⟨a, c, da, .lst (SqL.of h1) dc, hsh.1, hsh.2, q⟩, fun q => op_notInD hu pins s σ H x (.ref (ρ k)) v _ Q I rx rfl ⟨a, c, da, .lst (SqL.of h1) dc, hsh.1, hsh.2, q⟩⟩
          · cases e
        · cases e
    · cases e
  · rename_i ys
    obtain ⟨a, vs, e0, sq, r⟩ := hy.tup_
    split at e
    · rename_i hf
      cases e
      exact flat e0 (.inr sq.sqT) r hf.1 hf.2
    · cases e
  · rename_i ys
    obtain ⟨a, vs, e0, sq, r⟩ := hy.ro_
    split at e
    · rename_i hf
      cases e
      exact flat e0 (.inl sq.sqL) r hf.1 hf.2
    · cases e
  · rename_i z
    split at e
    · rename_i c
      cases e
      exact ⟨fun q => op_in_str pins s σ H x y v u Q I rx ry ⟨c, z, hx.str_, hy.str_, q⟩, fun q => op_notin_str pins s σ H x y v u Q I rx ry ⟨c, z, hx.str_, hy.str_, q⟩⟩
    · cases e
  · cases e
def isNonD : D → Bool
  | .non => true
  | _ => false
theorem isn_ok {w : Wd} {ρ : Nat → Addr} {n : Nat} {H : Hp} {x : V} {dx : D} (hx : Rp w ρ n H x dx) (h1 : ∀ z, dx ≠ .gl z) (h2 : ∀ z, dx ≠ .ty z) : decide (x = V.non) = isNonD dx := by
  cases dx with
  | non => cases hx.non_; rfl
  | bl b => cases hx.bl_; rfl
  | int b => cases hx.int_; rfl
  | str b => cases hx.str_; rfl
  | tup b => obtain ⟨a, vs, rfl, _⟩ := hx.tup_; rfl
  | ro b => obtain ⟨a, vs, rfl, _⟩ := hx.ro_; rfl
  | loc b => obtain ⟨_, rfl⟩ := hx.loc_; rfl
  | gl z => exact absurd rfl (h1 z)
  | ty z => exact absurd rfl (h2 z)
theorem op_cmp (hr : Room 0 X.A) (op : CmpOp) : OpM X (compareOp op) (pCmp op) := by
  have iB : ∀ {g : Int → Int → Bool} {p : P2} {f : Value → Value → Sem Value} (h : OpR X f (rI0 fun i j => V.bl (g i j))) (hp : ∀ dx dy s r, p dx dy s = some r → ∃ i j, dx = .int i ∧ dy = .int j ∧ r = (.bl (g i j), s)), OpM X f p := by
    intro g p f h hp
    rintro pins s σ H x y v u Q I rx ry ⟨ρ, st, dx, dy, hs, hx, hy, q⟩
    cases e : p dx dy st with
    | none => rw [e] at q; exact q.elim
    | some r =>
      obtain ⟨i, j, rfl, rfl, rfl⟩ := hp _ _ _ _ e
      rw [e] at q
      exact h pins s σ H x y v u Q I rx ry ⟨i, j, hx.int_, hy.int_, q.val hs (Rp.bl _)⟩
  cases op with
  | Eq =>
    rintro pins s σ H x y v u Q I rx ry ⟨ρ, st, dx, dy, hs, hx, hy, q⟩
    change RQ _ _ _ _ _ _ (.ofO (pEq dx dy st)) Q at q
    unfold pEq at q
    cases e : eqP dx dy st with
    | none => rw [e] at q; exact q.elim
    | some b => rw [e] at q; exact (eq_run hr I rx ry hs hx hy e).1 (RQ.val q hs (Rp.bl _))
  | NotEq =>
    rintro pins s σ H x y v u Q I rx ry ⟨ρ, st, dx, dy, hs, hx, hy, q⟩
    change RQ _ _ _ _ _ _ (.ofO (pNe dx dy st)) Q at q
    unfold pNe at q
    cases e : eqP dx dy st with
    | none => rw [e] at q; exact q.elim
    | some b => rw [e] at q; exact (eq_run hr I rx ry hs hx hy e).2 (RQ.val q hs (Rp.bl _))
  | Lt =>
    rintro pins s σ H x y v u Q I rx ry ⟨ρ, st, dx, dy, hs, hx, hy, q⟩
    change RQ _ _ _ _ _ _ (.ofO (pLt dx dy st)) Q at q
    unfold pLt at q
    split at q
    · exact op_lt pins s σ H x y v u Q I rx ry ⟨_, _, hx.int_, hy.int_, q.val hs (Rp.bl _)⟩
    · exact op_lt_str pins s σ H x y v u Q I rx ry ⟨_, _, hx.str_, hy.str_, q.val hs (Rp.bl _)⟩
    · exact q.elim
  | LtE =>
    refine iB (g := fun i j => decide (i ≤ j)) op_le fun dx dy s r e => ?_
    change pLe dx dy s = some r at e
    unfold pLe at e
    split at e
    · cases e; exact ⟨_, _, rfl, rfl, rfl⟩
    · cases e
  | Gt =>
    rintro pins s σ H x y v u Q I rx ry ⟨ρ, st, dx, dy, hs, hx, hy, q⟩
    change RQ _ _ _ _ _ _ (.ofO (pGt dx dy st)) Q at q
    unfold pGt at q
    split at q
    · exact op_gt pins s σ H x y v u Q I rx ry ⟨_, _, hx.int_, hy.int_, q.val hs (Rp.bl _)⟩
    · exact op_gt_str pins s σ H x y v u Q I rx ry ⟨_, _, hx.str_, hy.str_, q.val hs (Rp.bl _)⟩
    · exact q.elim
  | GtE =>
    refine iB (g := fun i j => decide (j ≤ i)) op_ge fun dx dy s r e => ?_
    change pGe dx dy s = some r at e
    unfold pGe at e
    split at e
    · cases e; exact ⟨_, _, rfl, rfl, rfl⟩
    · cases e
  | Is =>
    rintro pins s σ H x y v u Q I rx ry ⟨ρ, st, dx, dy, hs, hx, hy, q⟩
    change RQ _ _ _ _ _ _ (.ofO (pIs dx dy st)) Q at q
    unfold pIs at q
    split at q
    · split at q
      · exact q.elim
      · exact q.elim
      · exact op_isN pins s σ H x y v u Q I rx ry ⟨hy.non_, by rw [isn_ok hx (by simp) (by simp)]; exact q.val hs (Rp.bl _)⟩
      · refine op_isN pins s σ H x y v u Q I rx ry ⟨hy.non_, ?_⟩
        rename_i h1 h2 h3
        rw [isn_ok hx (fun z e => h1 z e) (fun z e => h2 z e)]
        have e : isNonD dx = false := by
          cases dx <;> first | rfl | exact (h3 rfl).elim
        rw [e]
        exact q.val hs (Rp.bl _)
    · exact q.elim
  | IsNot =>
    rintro pins s σ H x y v u Q I rx ry ⟨ρ, st, dx, dy, hs, hx, hy, q⟩
    change RQ _ _ _ _ _ _ (.ofO (pIsNot dx dy st)) Q at q
    unfold pIsNot at q
    split at q
    · split at q
      · exact q.elim
      · exact q.elim
      · exact op_notN pins s σ H x y v u Q I rx ry ⟨hy.non_, by rw [isn_ok hx (by simp) (by simp)]; exact q.val hs (Rp.bl _)⟩
      · refine op_notN pins s σ H x y v u Q I rx ry ⟨hy.non_, ?_⟩
        rename_i h1 h2 h3
        rw [isn_ok hx (fun z e => h1 z e) (fun z e => h2 z e)]
        have e : isNonD dx = false := by
          cases dx <;> first | rfl | exact (h3 rfl).elim
        rw [e]
        exact q.val hs (Rp.bl _)
    · exact q.elim
  | In =>
    rintro pins s σ H x y v u Q I rx ry ⟨ρ, st, dx, dy, hs, hx, hy, q⟩
    change RQ _ _ _ _ _ _ (.ofO (pIn dx dy st)) Q at q
    unfold pIn at q
    cases e : inP dx dy st with
    | none => rw [e] at q; exact q.elim
    | some b => rw [e] at q; exact (in_run hr I rx ry hs hx hy e).1 (RQ.val q hs (Rp.bl _))
  | NotIn =>
    rintro pins s σ H x y v u Q I rx ry ⟨ρ, st, dx, dy, hs, hx, hy, q⟩
    change RQ _ _ _ _ _ _ (.ofO (pNotIn dx dy st)) Q at q
    unfold pNotIn at q
    cases e : inP dx dy st with
    | none => rw [e] at q; exact q.elim
    | some b => rw [e] at q; exact (in_run hr I rx ry hs hx hy e).2 (RQ.val q hs (Rp.bl _))
end
end Y

set_option Elab.async false
set_option linter.all false
set_option maxRecDepth 100000
/-! Y5: subscripts, slices, built-in functions, methods of built-in types, by values. -/
namespace Y
open PySem L2

/-! ### a[i] -/
def pIx : P2
  | .tup xs, .int i, s => (atI xs i).map fun d => (d, s)
  | .ro xs, .int i, s => (atI xs i).map fun d => (d, s)
  | .str z, .int i, s => if z.length ≤ sizeLine then (atI z.cps.toList i).map fun c => (.str ⟨#[c]⟩, s) else none
  | .loc k, y, s => match s[k]? with
    | some (.lst xs) => match y with
      | .int i => (atI xs i).map fun d => (d, s)
      | _ => none
    | some (.dic kvs) => match keyD y with
      | some q => (getA kvs q).map fun d => (d, s)
      | none => none
    | _ => none
  | _, _, _ => none
section
variable {X : Cx} {W : WX}
theorem ix_dict (hu : X.A.units + 1 < cLine) : IxR X (fun x y H Q => ∃ a v, x = .ref a ∧ DGet H a y (some v) ∧ Q v H) := by
  intro value slice pins s σ H x y v u Q I rx ry h hs
  obtain ⟨a, z, rfl, g, q⟩ := h
  cases rx
  exact PyProof.Rows.tail_any (ops := [.ref a, u]) (dict_typeIs I g) PySem.F.slot_dict_getitem.lookup (d_getItem hu I g ry fun w' s3 I3 rw' => ⟨z, H, I3, rw', q⟩) hs
theorem ix_all (hr : Room 0 X.A) : IxR X (r2 (wd X) pIx) := by
  intro value slice pins s σ H x y v u Q I rx ry h hsl
  obtain ⟨ρ, st, dx, dy, hs, hx, hy, q⟩ := h
  have hu1 : X.A.units + 1 < cLine := by have := hr.un; omega
  unfold pIx at q
  split at q
  · rename_i xs i
    obtain ⟨a, vs, rfl, sq, r⟩ := hx.tup_
    cases e : atI xs i with
    | none => rw [e] at q; exact q.elim
    | some d =>
      rw [e] at q
      obtain ⟨z, e1, r1⟩ := RpL.atI r e
      exact ix_tup value slice pins s σ H _ y v u Q I rx ry ⟨a, vs, i, z, rfl, hy.int_, sq.sqT, e1, RQ.val q hs r1⟩ hsl
  · rename_i xs i
    obtain ⟨a, vs, rfl, sq, r⟩ := hx.ro_
    cases e : atI xs i with
    | none => rw [e] at q; exact q.elim
    | some d =>
      rw [e] at q
      obtain ⟨z, e1, r1⟩ := RpL.atI r e
      exact ix_list value slice pins s σ H _ y v u Q I rx ry ⟨a, vs, i, z, rfl, hy.int_, sq.sqL, e1, RQ.val q hs r1⟩ hsl
  · rename_i z i
    split at q
    · rename_i hl
      cases e : atI z.cps.toList i with
      | none => rw [e] at q; exact q.elim
      | some c =>
        rw [e] at q
        exact ix_str value slice pins s σ H _ y v u Q I rx ry ⟨z, i, c, hx.str_, hy.int_, hl, e, RQ.val q hs (Rp.str _)⟩ hsl
    · exact q.elim
  · rename_i k
    obtain ⟨_, rfl⟩ := hx.loc_
    split at q
    · rename_i xs e0
      obtain ⟨ho, h1, vs, rfl, r⟩ := hs.get e0
      split at q
      · rename_i i
        cases e : atI xs i with
        | none => rw [e] at q; exact q.elim
        | some d =>
          rw [e] at q
          obtain ⟨z, e1, r1⟩ := RpL.atI r e
          exact ix_list value slice pins s σ H _ y v u Q I rx ry ⟨_, vs, i, z, rfl, hy.int_, SqL.of h1, e1, RQ.val q hs r1⟩ hsl
      · exact q.elim
    · rename_i kvs e0
      obtain ⟨ho, h1, vs, rfl, r⟩ := hs.get e0
      split at q
      · rename_i k' ek
        have ev := keyD_ok hy ek
        subst ev
        cases e : getA kvs k' with
        | none => rw [e] at q; exact q.elim
        | some d =>
          rw [e] at q
          obtain ⟨z, e1, r1⟩ := (RpA.get k' r).1 d e
          exact ix_dict hu1 value slice pins s σ H _ _ v u Q I rx ry ⟨_, z, rfl, by rw [← e1]; exact DGet.k h1, RQ.val q hs r1⟩ hsl
      · exact q.elim
    · exact q.elim
  · exact q.elim
def isSl : Expr → Bool
  | .Slice _ _ _ _ => true
  | _ => false
theorem plainIx {b : Expr} (h : isSl b = false) : PlainIx b := by
  intro o i
  cases b <;> first | rfl | (cases h; done)
theorem me_ix {a b : Expr} {ma mb : EM D} {pos : Pos} (hr : Room 0 X.A) (ha : ME X W a ma) (hb : ME X W b mb) (hs : isSl b = false) : ME X W (.Subscript a b pos) (eBin pIx ma mb) :=
  PE.imp (pe_ix (ix_all hr) ha hb (plainIx hs)) fun _ _ _ h => tM_bin h

/-! ### a[i:j] -/
def cutA {α : Type} (xs : List α) (lo hi : Option Int) : List α := (xs.drop (HT.sIx xs.length 0 lo)).take (HT.sIx xs.length xs.length hi - HT.sIx xs.length 0 lo)
theorem cut_len {α : Type} (xs : List α) (lo hi : Option Int) : (cutA xs lo hi).length ≤ xs.length := by
  unfold cutA
  rw [List.length_take, List.length_drop]
  omega
def pSl (x : D) (lo hi : Option Int) (s : Sto) : Option (D × Sto) := match x with
  | .tup xs => some (.tup (cutA xs lo hi), s)
  | .ro xs => some (.loc s.length, s ++ [.lst (cutA xs lo hi)])
  | .str z => if z.length ≤ sizeLine then some (.str (cutS z lo hi), s) else none
  | .loc k => match s[k]? with
    | some (.lst xs) => some (.loc s.length, s ++ [.lst (cutA xs lo hi)])
    | _ => none
  | _ => none
theorem RpL.cut {w : Wd} {ρ : Nat → Addr} {n : Nat} {H : Hp} {vs : List V} {ds : List D} (r : RpL w ρ n H vs ds) (lo hi : Option Int) : RpL w ρ n H (cutV vs lo hi) (cutA ds lo hi) := by
  unfold cutV cutA
  rw [RpL.length r]
  exact RpL.take _ (RpL.drop _ r)
theorem cut_whole {α : Type} {xs : List α} {lo hi : Option Int} (h : HT.sIx xs.length 0 lo = 0 ∧ HT.sIx xs.length xs.length hi = xs.length) : cutA xs lo hi = xs := by
  unfold cutA
  rw [h.1, h.2]
  simp
theorem sl_all : SlR X (fun x lo hi H Q => ∃ ρ s dx, RS (wd X) ρ H s ∧ Rp (wd X) ρ s.length H x dx ∧ RQ (wd X) (Rp (wd X)) E0 ρ s.length H (.ofO (pSl dx lo hi s)) Q) := by
  intro pins s σ H x v vl vu lo hi sl Q I rx hsl pl pu h
  obtain ⟨ρ, st, dx, hs, hx, q⟩ := h
  unfold pSl at q
  split at q
  · rename_i xs
    obtain ⟨a, vs, rfl, sq, r⟩ := hx.tup_
    refine sl_tupA pins s σ H _ v vl vu lo hi sl Q I rx hsl pl pu ⟨a, vs, rfl, sq.sqT, fun e => ?_, fun _ p hp => RQ.tup q hs (r.cut lo hi) hp⟩
    have e2 : cutA xs lo hi = xs := cut_whole (by rw [← RpL.length r]; exact e)
    rw [e2] at q
    exact RQ.val q hs hx
  · rename_i xs
    obtain ⟨a, vs, rfl, sq, r⟩ := hx.ro_
    exact sl_list pins s σ H _ v vl vu lo hi sl Q I rx hsl pl pu ⟨a, vs, rfl, sq.sqL, fun p hp => RQ.obj q hs ⟨_, rfl, r.cut lo hi⟩ hp⟩
  · rename_i z
    split at q
    · rename_i hl
      exact sl_str pins s σ H _ v vl vu lo hi sl Q I rx hsl pl pu ⟨z, hx.str_, hl, RQ.val q hs (Rp.str _)⟩
    · exact q.elim
  · rename_i k
    obtain ⟨_, rfl⟩ := hx.loc_
    split at q
    · rename_i xs e0
      obtain ⟨ho, h1, vs, rfl, r⟩ := hs.get e0
      exact sl_list pins s σ H _ v vl vu lo hi sl Q I rx hsl pl pu ⟨_, vs, rfl, SqL.of h1, fun p hp => RQ.obj q hs ⟨_, rfl, r.cut lo hi⟩ hp⟩
    · exact q.elim
  · exact q.elim
def RO1 : Rl (Option Int) (Option Int) := fun _ _ _ b a => b = a
abbrev MO (X : Cx) (W : WX) (e : Option Expr) (m : EM (Option Int)) : Prop := PO X e (tM (wd X) RO1 W m)
def oNone : EM (Option Int) := fun _ s => .ok none s
def oSome (m : EM D) : EM (Option Int) := fun E s => (m E s).bind fun d s1 => match d with
  | .int i => .ok (some i) s1
  | _ => .err
theorem PO.imp {X : Cx} {e : Option Expr} {t t' : TO} (h : PO X e t) (hi : ∀ σ H Q, t' σ H Q → t σ H Q) : PO X e t' := ⟨fun pins s σ H Q I q => h.run pins s σ H Q I (hi _ _ _ q)⟩
theorem mo_none : MO X W none oNone := PO.imp po_none fun σ H Q ⟨ρ, E, s, hs, he, h⟩ => h ρ H none Lat.refl hs rfl
theorem mo_some {e : Expr} {m : EM D} (h : ME X W e m) : MO X W (some e) (oSome m) := by
  refine PO.imp (po_some h) fun σ H Q h => ?_
  obtain ⟨ρ, E, s, hs, he, h⟩ := tM.bind (R1 := Rp (wd X)) (m := m) (f := fun d E s1 => match d with | .int i => Res.ok (some i) s1 | _ => .err) h
  refine ⟨ρ, E, s, hs, he, RQ.mono h ?_⟩
  rintro x H1 ⟨ρ1, E1, s1, dx, hs1, he1, rx, hq⟩
  cases dx with
  | int i => exact ⟨i, rx.int_, hq ρ1 H1 _ Lat.refl hs1 rfl⟩
  | _ => exact hq.elim
def eSl (a : EM D) (lo hi : EM (Option Int)) : EM D := fun E s => (a E s).bind fun x s1 => (lo E s1).bind fun l s2 => (hi E s2).bind fun h s3 => .ofO (pSl x l h s3)
theorem me_sl {e : Expr} {lo hi : Option Expr} {m : EM D} {ml mh : EM (Option Int)} {p2 pos : Pos} (he : ME X W e m) (hl : MO X W lo ml) (hh : MO X W hi mh) : ME X W (.Subscript e (.Slice lo hi none p2) pos) (eSl m ml mh) := by
  refine PE.imp (pe_slice sl_all he hl hh) fun σ H Q h => ?_
  obtain ⟨ρ, E, s, hs, he, h⟩ := tM.bind (R1 := Rp (wd X)) (m := m) (f := fun x E s1 => (ml E s1).bind fun l s2 => (mh E s2).bind fun h s3 => .ofO (pSl x l h s3)) h
  refine ⟨ρ, E, s, hs, he, RQ.mono h ?_⟩
  rintro x H1 ⟨ρ1, E1, s1, dx, hs1, he1, rx, hq⟩
  refine ⟨ρ1, E1, s1, hs1, he1, RQ.mono (RQ.bind (R1 := RO1) hq) ?_⟩
  rintro l H2 ⟨ρ2, s2, l', L2, hs2, el, hq2⟩
  cases el
  refine ⟨ρ2, E1, s2, hs2, he1.lat L2, RQ.mono (RQ.bind (R1 := RO1) hq2) ?_⟩
  rintro u H3 ⟨ρ3, s3, u', L3, hs3, eu, hq3⟩
  cases eu
  exact ⟨ρ3, s3, dx, hs3, Rp.lat L3 _ (Rp.lat L2 _ rx), RQ.ofO hq3⟩
/-- xs[::-1] of a list: a fresh list -/
def fRev (m : EM D) : EM (List D) := fun E s => (m E s).bind fun d s1 => match d with
  | .ro xs => .ok xs.reverse s1
  | .loc k => match s1[k]? with
    | some (.lst xs) => .ok xs.reverse s1
    | _ => .err
  | _ => .err
/-- a fresh list at hand -/
theorem RF.new {w : Wd} {W : XK} {ρ : Nat → Addr} {H : Hp} {s : Sto} {vs : List V} {ds : List D} {Q : VK} {p : Addr} (h : RF w W ρ s.length H (.ok ds s) Q) (hs : RS w ρ H s) (hr : RpL w ρ s.length H vs ds) (hp : H p = none) : Q (.ref p) (upd H p (.lst vs)) :=
  h ρ _ p vs (Lat.fresh hp) (hs.fresh hp) hp (fun k hk => hs.ne hp hk) upd_same (RpL.lat (Lat.fresh hp) _ hr)
theorem RF.lat {w : Wd} {W : XK} {ρ ρ1 : Nat → Addr} {n n1 : Nat} {H H1 : Hp} {r : Res (List D)} {Q : VK} (h : RF w W ρ n H r Q) (L : Lat ρ n H ρ1 n1 H1) : RF w W ρ1 n1 H1 r Q := by
  cases r with
  | ok a s' => exact fun ρ' H' a vs L' hs h0 hn e hr => h ρ' H' a vs (L.trans L') hs (L.dom _ h0) hn e hr
  | exc x s' => exact fun ρ' H' c L' hs hc => h ρ' H' c (L.trans L') hs hc
  | err => exact h
theorem RF.bind {γ δ : Type} {w : Wd} {R1 : Rl γ δ} {W : XK} {ρ : Nat → Addr} {n : Nat} {H : Hp} {Q : VK} {r : Res γ} {f : γ → Sto → Res (List D)} (h : RF w W ρ n H (r.bind f) Q) :
    RQ w R1 W ρ n H r fun b H1 => ∃ ρ1 s1 a, Lat ρ n H ρ1 s1.length H1 ∧ RS w ρ1 H1 s1 ∧ R1 ρ1 s1.length H1 b a ∧ RF w W ρ1 s1.length H1 (f a s1) Q := by
  cases r with
  | ok a s' => exact fun ρ' H' b L' hs hr => ⟨ρ', s', a, L', hs, hr, RF.lat h L'⟩
  | exc x s' => exact h
  | err => exact h
theorem tF.bind {γ δ : Type} {w : Wd} {R1 : Rl γ δ} {σ : St} {H : Hp} {Q : VK} {m : EM γ} {f : γ → EM (List D)} (h : tF w W (fun E s => (m E s).bind fun a s1 => f a E s1) σ H Q) :
    tM w R1 W m σ H fun b H1 => ∃ ρ1 E s1 a, RS w ρ1 H1 s1 ∧ RE w ρ1 s1.length H1 σ E ∧ R1 ρ1 s1.length H1 b a ∧ RF w (WE W σ) ρ1 s1.length H1 (f a E s1) Q := by
  obtain ⟨ρ, E, s, hs, he, h⟩ := h
  refine ⟨ρ, E, s, hs, he, RQ.mono (RF.bind (R1 := R1) h) ?_⟩
  rintro b H' ⟨ρ1, s1, a, L, hs1, hr, hq⟩
  exact ⟨ρ1, E, s1, a, hs1, he.lat L, hr, hq⟩
theorem mf_rev {e : Expr} {m : EM D} {k : Nat} {p1 p2 p3 pos : Pos} (he : ME X W e m) : MF X W (.Subscript e (.Slice none none (some (.UnaryOp .USub (.Constant (.int 1) k p1) p2)) p3) pos) (fRev m) := by
  refine PE.imp (pe_revL he) fun σ H Q h => ?_
  obtain ⟨ρ, E, s, hs, he, h⟩ := tF.bind (R1 := Rp (wd X)) (m := m) (f := fun d E s1 => match d with | .ro xs => Res.ok xs.reverse s1 | .loc k => (match s1[k]? with | some (.lst xs) => Res.ok xs.reverse s1 | _ => .err) | _ => .err) h
  refine ⟨ρ, E, s, hs, he, RQ.mono h ?_⟩
  rintro x H1 ⟨ρ1, E1, s1, dx, hs1, he1, rx, hq⟩
  cases dx with
  | ro xs =>
    obtain ⟨a, vs, rfl, sq, r⟩ := rx.ro_
    exact ⟨a, vs, rfl, sq.sqL, fun p hp => RF.new hq hs1 r.reverse hp⟩
  | loc k =>
    obtain ⟨_, rfl⟩ := rx.loc_
    simp only at hq
    split at hq
    · rename_i xs e0
      obtain ⟨ho, h1, vs, rfl, r⟩ := hs1.get e0
      exact ⟨_, vs, rfl, SqL.of h1, fun p hp => RF.new hq hs1 r.reverse hp⟩
    · exact hq.elim
  | _ => exact hq.elim

/-! ### built-in functions of one list -/
/-- only lists -/
def RLl (w : Wd) : Rl (List D) V := fun ρ n H v ds => ∃ a vs, v = .ref a ∧ SqL w.K H a vs ∧ RpL w ρ n H vs ds
abbrev MLl (X : Cx) (W : WX) (e : Expr) (m : EM (List D)) : Prop := PE X e (tM (wd X) (RLl (wd X)) W m)
def lstD (d : D) (s : Sto) : Option (List D) := match d with
  | .ro xs => some xs
  | .loc k => match s[k]? with
    | some (.lst xs) => some xs
    | _ => none
  | _ => none
theorem lstD_ok {w : Wd} {ρ : Nat → Addr} {H : Hp} {s : Sto} {v : V} {d : D} {ds : List D} (hs : RS w ρ H s) (hr : Rp w ρ s.length H v d) (h : lstD d s = some ds) : RLl w ρ s.length H v ds := by
  cases d with
  | ro xs =>
    obtain ⟨a, vs, rfl, hq, hl⟩ := hr.ro_
    simp only [lstD] at h; cases h
    exact ⟨a, vs, rfl, hq.sqL, hl⟩
  | loc k =>
    obtain ⟨_, rfl⟩ := hr.loc_
    simp only [lstD] at h
    split at h
    · rename_i xs e
      cases h
      obtain ⟨ho, e1, vs, rfl, hl⟩ := hs.get e
      exact ⟨_, vs, rfl, SqL.of e1, hl⟩
    · cases h
  | _ => simp only [lstD] at h; cases h
def lOfL (m : EM D) : EM (List D) := fun E s => (m E s).bind fun d s1 => match lstD d s1 with
  | some ds => .ok ds s1
  | none => .err
theorem mll_of {e : Expr} {m : EM D} (h : ME X W e m) : MLl X W e (lOfL m) := by
  refine PE.imp h ?_
  intro σ H Q h
  obtain ⟨ρ, E, s, hs, he, h⟩ := tM.bind (R1 := Rp (wd X)) (m := m) (f := fun d E s1 => match lstD d s1 with | some ds => Res.ok ds s1 | none => .err) h
  refine ⟨ρ, E, s, hs, he, RQ.mono h ?_⟩
  rintro x H1 ⟨ρ1, E1, s1, dx, hs1, he1, rx, hq⟩
  split at hq
  · rename_i ds e
    exact hq ρ1 H1 x Lat.refl hs1 (lstD_ok hs1 rx e)
  · exact hq.elim
theorem mll_of_mf {e : Expr} {m : EM (List D)} (h : MF X W e m) : MLl X W e m := by
  refine PE.imp h ?_
  rintro σ H Q ⟨ρ, E, s, hs, he, h⟩
  refine ⟨ρ, E, s, hs, he, ?_⟩
  cases q : m E s with
  | ok ds s' =>
    rw [q] at h
    exact fun ρ' H' a vs L hs' _ _ e r => h ρ' H' (.ref a) L hs' ⟨a, vs, rfl, SqL.of e, r⟩
  | exc x s' => rw [q] at h; exact h
  | err => rw [q] at h; exact h

def eL (p : List D → Option D) (m : EM (List D)) : EM D := fun E s => (m E s).bind fun ds s1 => match p ds with
  | some d => .ok d s1
  | none => .err
theorem tM_L {w : Wd} {R : Rl (List D) V} {p : List D → Option D} {m : EM (List D)} {σ : St} {H : Hp} {Q : VK} (h : tM w (Rp w) W (eL p m) σ H Q) :
    tM w R W m σ H fun b H1 => ∃ ρ1 s1 ds d, RS w ρ1 H1 s1 ∧ R ρ1 s1.length H1 b ds ∧ p ds = some d ∧ RQ w (Rp w) E0 ρ1 s1.length H1 (.ofO (some (d, s1))) Q := by
  obtain ⟨ρ, E, s, hs, he, h⟩ := tM.bind (R1 := R) (m := m) (f := fun ds E s1 => match p ds with | some d => Res.ok d s1 | none => .err) h
  refine ⟨ρ, E, s, hs, he, RQ.mono h ?_⟩
  rintro x H1 ⟨ρ1, E1, s1, ds, hs1, he1, rx, hq⟩
  split at hq
  · rename_i d e
    exact ⟨ρ1, s1, ds, d, hs1, rx, e, hq⟩
  · exact hq.elim
def intsD : List D → Option (List Int)
  | [] => some []
  | .int i :: r => (intsD r).map (i :: ·)
  | _ => none
def blsD : List D → Option (List Bool)
  | [] => some []
  | .bl i :: r => (blsD r).map (i :: ·)
  | _ => none
def strsD : List D → Option (List Str)
  | [] => some []
  | .str i :: r => (strsD r).map (i :: ·)
  | _ => none
section
variable {w : Wd} {ρ : Nat → Addr} {n : Nat} {H : Hp}
theorem intsD_ok : ∀ {vs : List V} {ds : List D} {ns : List Int}, RpL w ρ n H vs ds → intsD ds = some ns → vs = ns.map V.int
  | vs, [], ns, h, e => by rw [h.inv0]; unfold intsD at e; cases e; rfl
  | vs, d :: ds, ns, h, e => by
    obtain ⟨v, r, rfl, h1, h2⟩ := h.inv
    unfold intsD at e
    split at e
    · rename_i heq; cases heq
    · rename_i i r' heq
      cases heq
      cases z : intsD ds with
      | none => rw [z] at e; cases e
      | some ms =>
        rw [z] at e; cases e
        rw [h1.int_, intsD_ok h2 z]; rfl
    · cases e
theorem blsD_ok : ∀ {vs : List V} {ds : List D} {ns : List Bool}, RpL w ρ n H vs ds → blsD ds = some ns → vs = ns.map V.bl
  | vs, [], ns, h, e => by rw [h.inv0]; unfold blsD at e; cases e; rfl
  | vs, d :: ds, ns, h, e => by
    obtain ⟨v, r, rfl, h1, h2⟩ := h.inv
    unfold blsD at e
    split at e
    · rename_i heq; cases heq
    · rename_i i r' heq
      cases heq
      cases z : blsD ds with
      | none => rw [z] at e; cases e
      | some ms =>
        rw [z] at e; cases e
        rw [h1.bl_, blsD_ok h2 z]; rfl
    · cases e
theorem strsD_ok : ∀ {vs : List V} {ds : List D} {ns : List Str}, RpL w ρ n H vs ds → strsD ds = some ns → vs = ns.map V.str
  | vs, [], ns, h, e => by rw [h.inv0]; unfold strsD at e; cases e; rfl
  | vs, d :: ds, ns, h, e => by
    obtain ⟨v, r, rfl, h1, h2⟩ := h.inv
    unfold strsD at e
    split at e
    · rename_i heq; cases heq
    · rename_i i r' heq
      cases heq
      cases z : strsD ds with
      | none => rw [z] at e; cases e
      | some ms =>
        rw [z] at e; cases e
        rw [h1.str_, strsD_ok h2 z]; rfl
    · cases e
theorem RpL.ints : ∀ ns : List Int, RpL w ρ n H (ns.map V.int) (ns.map D.int)
  | [] => RpL.nil
  | i :: r => RpL.cons (Rp.int i) (RpL.ints r)
theorem RpL.strs : ∀ ns : List Str, RpL w ρ n H (ns.map V.str) (ns.map D.str)
  | [] => RpL.nil
  | i :: r => RpL.cons (Rp.str i) (RpL.strs r)
end
/-- built-in functions of one list that give a value: tuple, sum, all, any -/
def lTup : List D → Option D := fun ds => some (.tup ds)
def lSum : List D → Option D := fun ds => (intsD ds).map fun ns => .int ns.sum
def lAll : List D → Option D := fun ds => (blsD ds).map fun bs => .bl (bs.all id)
def lAny : List D → Option D := fun ds => (blsD ds).map fun bs => .bl (bs.any id)
section
variable {e : Expr} {m : EM (List D)} {np pos : Pos}
theorem star1 (h : starEach [e] X.env = [(false, eval e X.env)]) : starEach (e :: []) X.env = (false, eval e X.env) :: starEach [] X.env := h
theorem me_tupL (hm : X.mg "tuple" = none) (hg : Gl X "tuple") (h : ML X W e m) (hst : starEach [e] X.env = [(false, eval e X.env)]) : ME X W (.Call (.Name "tuple" np) [e] [] pos) (eL lTup m) := by
  refine PE.imp (pe_callTy (call_tuple_of (X := X)) hg hm (by decide +kernel) (pa_cons h pa_nil (star1 hst)) (by decide) (by decide) (star1 hst) rfl) fun σ H Q h => ?_
  obtain ⟨ρ, E, s, hs, he, h⟩ := tM_L (R := RLs (wd X)) h
  refine ⟨ρ, E, s, hs, he, RQ.mono h ?_⟩
  rintro x H1 ⟨ρ1, s1, ds, d, hs1, ⟨a, vs, rfl, sq, r⟩, e, q⟩
  cases e
  refine ⟨a, vs, rfl, ?_⟩
  rcases sq with sq | sq
  · exact .inl ⟨sq, fun l hl => RQ.tup q hs1 r hl⟩
  · exact .inr ⟨sq.sqT, q ρ1 H1 _ Lat.refl hs1 (Rp.tup sq r)⟩
end
end
end Y

set_option Elab.async false
set_option linter.all false
set_option maxRecDepth 100000
/-! Y6: built-in functions and methods. -/
namespace SrtO
open PySem PyProof.Rows Srt
section
variable {prog : Program} {w : World} {A : Around} {E : Value → Shared → Prop} {s : Shared}
def ysv : Value → PySem.Str
  | .str x _ => x
  | _ => ⟨#[]⟩
def yltS (v u : Value) : Bool := decide ((ysv v).cps.toList < (ysv u).cps.toList)
theorem yswo_str : Swo yltS := by
  refine ⟨fun x y h => ?_, fun x y z h1 h2 => ?_⟩
  · have a := of_decide_eq_true h
    exact decide_eq_false (List.lt_asymm a)
  · have a := List.not_lt.mp (of_decide_eq_false h1)
    have b := List.not_lt.mp (of_decide_eq_false h2)
    exact decide_eq_false (List.not_lt.mpr (List.le_trans a b))
theorem ystrs_mem : ∀ {vs : List Value} {ns : List PySem.Str}, StrsAre vs ns → ∀ v ∈ vs, ∃ i t, v = Value.str i t
  | _, _, .nil, v, h => absurd h (by simp)
  | _, _, .cons n t r, v, h => by
    rcases List.mem_cons.mp h with e | h
    · exact ⟨n, t, e⟩
    · exact ystrs_mem r v h
theorem ystrs_sv : ∀ {vs : List Value}, (∀ v ∈ vs, ∃ i t, v = Value.str i t) → StrsAre vs (vs.map ysv)
  | [], _ => .nil
  | v :: vs, h => by
    obtain ⟨i, t, e⟩ := h v List.mem_cons_self
    subst e
    exact .cons i t (ystrs_sv fun u hu => h u (List.mem_cons_of_mem _ hu))
theorem ysv_strs : ∀ {vs : List Value} {ns : List PySem.Str}, StrsAre vs ns → vs.map ysv = ns
  | _, _, .nil => rfl
  | _, _, .cons n t r => congrArg (n :: ·) (ysv_strs r)
theorem ystr_cmp {vs : List Value} {ns : List PySem.Str} (hI : StrsAre vs ns) : Cmp prog w A s oneType' (fun p => p.1 ∈ vs) (lt2 yltS) := by
  intro p q hm hm'
  obtain ⟨a, t, e⟩ := ystrs_mem hI _ hm
  obtain ⟨b, u, e'⟩ := ystrs_mem hI _ hm'
  show wpAny (model prog w) A (keyLt' oneType' p.1 q.1) (fun r s' => s' = s ∧ r = yltS p.1 q.1) (fun _ _ => False) s
  rw [e, e', keyLt'_oneType]
  exact oneLt_str ⟨rfl, rfl⟩
theorem ystrs_sortable {a : Addr} {vs : List Value} {ns : List PySem.Str} (hI : StrsAre vs ns) (h2 : 2 ≤ vs.length) : SortableO prog w A s a vs yltS := by
  intro h' _
  refine ⟨oneType', fun Q E hq => ?_, ystr_cmp hI⟩
  match vs, hI, h2 with
  | v1 :: v2 :: rest, hI, _ =>
    rw [keyKind_strs hI]
    exact wpAny_pure hq
  | [], _, h => exact absurd h (by decide)
  | [v], _, h => exact absurd h (by simp)
theorem ystrs_out {vs out : List Value} {ns : List PySem.Str} (hI : StrsAre vs ns) (hs : Srtd yltS out) (hb : Stb yltS out vs) : StrsAre out (out.map ysv) ∧ (out.map ysv).Perm ns ∧ (out.map ysv).Pairwise (fun x y => x.cps.toList ≤ y.cps.toList) := by
  refine ⟨ystrs_sv fun v hv => ystrs_mem hI v (hb.perm.mem_iff.mp hv), ?_, ?_⟩
  · have q := hb.perm.map ysv
    rw [ysv_strs hI] at q
    exact q
  · exact List.pairwise_map.mpr (hs.imp fun {x y} h => List.not_lt.mp (of_decide_eq_false h))
end
end SrtO
namespace Y
open PySem L2

/-! ### sorting ints, texts -/
def leS (x y : Str) : Bool := decide (x.cps.toList ≤ y.cps.toList)
def leI (x y : Int) : Bool := decide (x ≤ y)
def srtI (l : List Int) : List Int := l.mergeSort leI
def srtS (l : List Str) : List Str := l.mergeSort leS
theorem str_eq {x y : Str} (h : x.cps.toList = y.cps.toList) : x = y := by
  cases x; cases y
  simp only at h
  rw [Array.toList_inj.mp h]
theorem srtI_uniq {l m : List Int} (hp : m.Perm l) (hs : m.Pairwise (· ≤ ·)) : m = srtI l := by
  have h1 : (srtI l).Pairwise (· ≤ ·) := (List.pairwise_mergeSort (le := leI) (fun a b c h1 h2 => by simp only [leI, decide_eq_true_eq] at *; omega) (fun a b => by simp only [leI, Bool.or_eq_true, decide_eq_true_eq]; omega) l).imp fun {a b} h => by simpa [leI] using h
  exact List.Perm.eq_of_pairwise (fun a b _ _ x y => Int.le_antisymm x y) hs h1 (hp.trans (List.mergeSort_perm l leI).symm)
theorem srtS_uniq {l m : List Str} (hp : m.Perm l) (hs : m.Pairwise (fun x y => x.cps.toList ≤ y.cps.toList)) : m = srtS l := by
  have h1 : (srtS l).Pairwise (fun x y => x.cps.toList ≤ y.cps.toList) := (List.pairwise_mergeSort (le := leS) (fun a b c h1 h2 => by simp only [leS, decide_eq_true_eq] at *; exact List.le_trans h1 h2) (fun a b => by simp only [leS, Bool.or_eq_true, decide_eq_true_eq]; exact List.le_total _ _) l).imp fun {a b} h => by simpa [leS] using h
  exact List.Perm.eq_of_pairwise (fun a b _ _ x y => str_eq (List.le_antisymm x y)) hs h1 (hp.trans (List.mergeSort_perm l leS).symm)
theorem srtS_len (l : List Str) : (srtS l).length = l.length := (List.mergeSort_perm l leS).length_eq
theorem srtI_len (l : List Int) : (srtI l).length = l.length := (List.mergeSort_perm l leI).length_eq
theorem cr_sortedS' {X : Cx} : CallR X (.builtin "sorted") (fun vs H Q => ∃ (a : Addr) (ns : List Str), vs = [V.ref a] ∧ SqL X.K H a (ns.map V.str) ∧ ∀ p, H p = none → Q (.ref p) (upd H p (.lst ((srtS ns).map V.str)))) := by
  intro pins s σ H vs us Q I r h
  obtain ⟨a, ns, rfl, hs, q⟩ := h
  obtain ⟨its, rv, hl, hz⟩ := I.list hs
  rw [Vals.ref1 r]
  have hi := rv.strs
  refine SrtO.sorted_ord SrtO.yswo_str hl.isList (by rw [← rv.length]; exact hz) (fun h2 h₁ a' _ _ => SrtO.ystrs_sortable hi h2) fun out h1 h2 => ?_
  obtain ⟨k1, k2, k3⟩ := SrtO.ystrs_out hi h1 h2
  have e := srtS_uniq k2 k3
  obtain ⟨ep, he'⟩ := PyProof.Rows.sortedAll_at s.heap its out.toArray
  have hlen : ((out.map SrtO.ysv).map V.str).length ≤ sizeLine := by
    rw [List.length_map, k2.length_eq]
    rw [List.length_map] at hz
    exact hz
  refine ⟨.ref _, upd H (s.heap.objs.size + 1) (.lst ((out.map SrtO.ysv).map V.str)), I.laid (t' := s.toks) (fun _ _ => PyProof.Rows.sortedAll_old) (Nat.le_succ _) ⟨hlen, out, ep, vals_of_strs k1, he'⟩, rfl, ?_⟩
  rw [e]
  exact q _ (I.hok.fresh (Nat.le_succ _))
theorem cr_sortedI' {X : Cx} : CallR X (.builtin "sorted") (fun vs H Q => ∃ (a : Addr) (ns : List Int), vs = [V.ref a] ∧ SqL X.K H a (ns.map V.int) ∧ ∀ p, H p = none → Q (.ref p) (upd H p (.lst ((srtI ns).map V.int)))) := by
  intro pins s σ H vs us Q I r h
  obtain ⟨a, ns, rfl, hs, q⟩ := h
  exact cr_sortedI pins s σ H [V.ref a] us Q I r ⟨a, ns, rfl, hs, fun ns' p h1 h2 hp => by rw [srtI_uniq h1 h2]; exact q p hp⟩
section
open PySem.Spec PyProof.Rows
theorem rising_pw : ∀ (l : List Str) (p : Str), risingS p l = true → (p :: l).Pairwise (fun x y => x.cps.toList ≤ y.cps.toList)
  | [], p, _ => List.pairwise_singleton _ _
  | x :: r, p, h => by
    unfold risingS at h
    rw [Bool.and_eq_true] at h
    have ih := rising_pw r x h.2
    have hpx : p.cps.toList ≤ x.cps.toList := by
      have h1 := h.1
      rw [Bool.not_eq_true', ltCps_eq] at h1
      exact List.not_lt.mp (of_decide_eq_false h1)
    refine List.pairwise_cons.mpr ⟨fun y hy => ?_, ih⟩
    rcases List.mem_cons.mp hy with e | hy
    · rw [e]; exact hpx
    · exact List.le_trans hpx ((List.pairwise_cons.mp ih).1 y hy)
theorem sortedS_pw : ∀ (l : List Str), sortedS l = true → l.Pairwise (fun x y => x.cps.toList ≤ y.cps.toList)
  | [], _ => List.Pairwise.nil
  | x :: r, h => rising_pw r x h
end
/-- sorted: a fresh list -/
def srtD (ds : List D) : Option (List D) := match intsD ds with
  | some ns => some ((srtI ns).map D.int)
  | none => match strsD ds with
    | some ns => some ((srtS ns).map D.str)
    | none => none
def keysS (kvs : List (Key × D)) : Option (List Str) := kvs.mapM fun kv => match kv.1 with
  | .inr x => some x
  | .inl _ => none
/-- sorted(a dict with text keys): its keys -/
def fSorted (m : EM D) : EM (List D) := fun E s => (m E s).bind fun d s1 => match lstD d s1 with
  | some ds => match srtD ds with
    | some es => .ok es s1
    | none => .err
  | none => match d with
    | .loc k => match s1[k]? with
      | some (.dic kvs) => match keysS kvs with
        | some ks => if ks.length < 64 then .ok ((srtS ks).map D.str) s1 else .err
        | none => .err
      | _ => .err
    | _ => .err
def fSortedL (m : EM (List D)) : EM (List D) := fun E s => (m E s).bind fun ds s1 => match srtD ds with
  | some es => .ok es s1
  | none => .err
def fList (m : EM (List D)) : EM (List D) := m
section
variable {X : Cx} {W : WX} {e : Expr} {np pos : Pos}
theorem callB_L {x : Str} {id : String} {R : Rl (List D) V} {r : List V → Hp → VK → Prop} {m : EM (List D)} {t' : TE} (hc : CallR X (.builtin id) r) (hg : Gl X x) (hm : X.mg x = none) (hv : bootBuiltins x = some (.builtin id)) (hn : x ≠ "__name__") (hdb : (x == ("__debug__" : Str)) = false)
    (h : PE X e (tM (wd X) R W m)) (hst : starEach [e] X.env = [(false, eval e X.env)]) (hi : ∀ σ H Q, t' σ H Q → tM (wd X) R W m σ H fun v H1 => r [v] H1 Q) : PE X (.Call (.Name x np) [e] [] pos) t' :=
  PE.imp (pe_callB hc hg hm hv (pa_cons h pa_nil (star1 hst)) hn hdb (star1 hst) rfl) hi
theorem callTy_L {x : Str} {T : String} {R : Rl (List D) V} {r : List V → Hp → VK → Prop} {m : EM (List D)} {t' : TE} (hc : CallR X (.type T) r) (hg : Gl X x) (hm : X.mg x = none) (hv : bootBuiltins x = some (.type T)) (hn : x ≠ "__name__") (hdb : (x == ("__debug__" : Str)) = false)
    (h : PE X e (tM (wd X) R W m)) (hst : starEach [e] X.env = [(false, eval e X.env)]) (hi : ∀ σ H Q, t' σ H Q → tM (wd X) R W m σ H fun v H1 => r [v] H1 Q) : PE X (.Call (.Name x np) [e] [] pos) t' :=
  PE.imp (pe_callTy hc hg hm hv (pa_cons h pa_nil (star1 hst)) hn hdb (star1 hst) rfl) hi
theorem callB_V {x : Str} {id : String} {r : List V → Hp → VK → Prop} {m : EM D} {t' : TE} (hc : CallR X (.builtin id) r) (hg : Gl X x) (hm : X.mg x = none) (hv : bootBuiltins x = some (.builtin id)) (hn : x ≠ "__name__") (hdb : (x == ("__debug__" : Str)) = false)
    (h : ME X W e m) (hst : starEach [e] X.env = [(false, eval e X.env)]) (hi : ∀ σ H Q, t' σ H Q → tM (wd X) (Rp (wd X)) W m σ H fun v H1 => r [v] H1 Q) : PE X (.Call (.Name x np) [e] [] pos) t' :=
  PE.imp (pe_callB hc hg hm hv (pa_cons h pa_nil (star1 hst)) hn hdb (star1 hst) rfl) hi
theorem me_sumL {m : EM (List D)} (hc : X.calm = true) (hm : X.mg "sum" = none) (hg : Gl X "sum") (h : MLl X W e m) (hst : starEach [e] X.env = [(false, eval e X.env)]) : ME X W (.Call (.Name "sum" np) [e] [] pos) (eL lSum m) := by
  refine callB_L (cr_sum hc) hg hm (by decide +kernel) (by decide) (by decide) h hst fun σ H Q h => ?_
  obtain ⟨ρ, E, s, hs, he, h⟩ := tM_L (R := RLl (wd X)) h
  refine ⟨ρ, E, s, hs, he, RQ.mono h ?_⟩
  rintro x H1 ⟨ρ1, s1, ds, d, hs1, ⟨a, vs, rfl, sq, r⟩, e, q⟩
  unfold lSum at e
  cases z : intsD ds with
  | none => rw [z] at e; cases e
  | some ns =>
    rw [z] at e; cases e
    exact ⟨a, ns, rfl, by rw [← intsD_ok r z]; exact sq, RQ.val q hs1 (Rp.int _)⟩
theorem me_allL {m : EM (List D)} (hc : X.calm = true) (hm : X.mg "all" = none) (hg : Gl X "all") (h : MLl X W e m) (hst : starEach [e] X.env = [(false, eval e X.env)]) : ME X W (.Call (.Name "all" np) [e] [] pos) (eL lAll m) := by
  refine callB_L (cr_all hc) hg hm (by decide +kernel) (by decide) (by decide) h hst fun σ H Q h => ?_
  obtain ⟨ρ, E, s, hs, he, h⟩ := tM_L (R := RLl (wd X)) h
  refine ⟨ρ, E, s, hs, he, RQ.mono h ?_⟩
  rintro x H1 ⟨ρ1, s1, ds, d, hs1, ⟨a, vs, rfl, sq, r⟩, e, q⟩
  unfold lAll at e
  cases z : blsD ds with
  | none => rw [z] at e; cases e
  | some ns =>
    rw [z] at e; cases e
    exact ⟨a, ns, rfl, by rw [← blsD_ok r z]; exact sq, RQ.val q hs1 (Rp.bl _)⟩
theorem me_anyL {m : EM (List D)} (hc : X.calm = true) (hm : X.mg "any" = none) (hg : Gl X "any") (h : MLl X W e m) (hst : starEach [e] X.env = [(false, eval e X.env)]) : ME X W (.Call (.Name "any" np) [e] [] pos) (eL lAny m) := by
  refine callB_L (cr_any hc) hg hm (by decide +kernel) (by decide) (by decide) h hst fun σ H Q h => ?_
  obtain ⟨ρ, E, s, hs, he, h⟩ := tM_L (R := RLl (wd X)) h
  refine ⟨ρ, E, s, hs, he, RQ.mono h ?_⟩
  rintro x H1 ⟨ρ1, s1, ds, d, hs1, ⟨a, vs, rfl, sq, r⟩, e, q⟩
  unfold lAny at e
  cases z : blsD ds with
  | none => rw [z] at e; cases e
  | some ns =>
    rw [z] at e; cases e
    exact ⟨a, ns, rfl, by rw [← blsD_ok r z]; exact sq, RQ.val q hs1 (Rp.bl _)⟩
theorem mf_listL {m : EM (List D)} (hm : X.mg "list" = none) (hg : Gl X "list") (h : ML X W e m) (hst : starEach [e] X.env = [(false, eval e X.env)]) : MF X W (.Call (.Name "list" np) [e] [] pos) (fList m) := by
  refine callTy_L (R := RLs (wd X)) call_list_of hg hm (by decide +kernel) (by decide) (by decide) h hst fun σ H Q h => ?_
  obtain ⟨ρ, E, s, hs, he, h⟩ := h
  refine ⟨ρ, E, s, hs, he, ?_⟩
  unfold fList at h
  cases q : m E s with
  | ok ds s' =>
    rw [q] at h
    rintro ρ' H' v L hs' ⟨a, vs, rfl, sq, r⟩
    exact ⟨a, vs, rfl, sq.imp id SqU.sqT, fun l hl => h ρ' _ l vs (L.trans (Lat.fresh hl)) (hs'.fresh hl) (L.dom _ hl) (fun k hk => hs'.ne hl hk) upd_same (RpL.lat (Lat.fresh hl) _ r)⟩
  | exc x s' => rw [q] at h; exact h
  | err => rw [q] at h; exact h
theorem srtD_run {ρ : Nat → Addr} {H : Hp} {s : Sto} {a : Addr} {vs : List V} {ds es : List D} {WW : XK} {Q : VK} (hs : RS (wd X) ρ H s) (sq : SqL X.K H a vs) (r : RpL (wd X) ρ s.length H vs ds) (e : srtD ds = some es) (h : RF (wd X) WW ρ s.length H (.ok es s) Q) :
    (∃ (b : Addr) (ns : List Str), [V.ref a] = [V.ref b] ∧ SqL X.K H b (ns.map V.str) ∧ ∀ p, H p = none → Q (.ref p) (upd H p (.lst ((srtS ns).map V.str)))) ∨
    (∃ (b : Addr) (ns : List Int), [V.ref a] = [V.ref b] ∧ SqL X.K H b (ns.map V.int) ∧ ∀ p, H p = none → Q (.ref p) (upd H p (.lst ((srtI ns).map V.int)))) := by
  unfold srtD at e
  split at e
  · rename_i ns z
    cases e
    exact .inr ⟨a, ns, rfl, by rw [← intsD_ok r z]; exact sq, fun p hp => RF.new h hs (RpL.ints _) hp⟩
  · split at e
    · rename_i ns z
      cases e
      exact .inl ⟨a, ns, rfl, by rw [← strsD_ok r z]; exact sq, fun p hp => RF.new h hs (RpL.strs _) hp⟩
    · cases e
theorem mf_sortedL {m : EM (List D)} (hm : X.mg "sorted" = none) (hg : Gl X "sorted") (h : MLl X W e m) (hst : starEach [e] X.env = [(false, eval e X.env)]) : MF X W (.Call (.Name "sorted" np) [e] [] pos) (fSortedL m) := by
  refine callB_L (R := RLl (wd X)) (cr_sortedS'.or cr_sortedI') hg hm (by decide +kernel) (by decide) (by decide) h hst fun σ H Q h => ?_
  obtain ⟨ρ, E, s, hs, he, h⟩ := tF.bind (R1 := RLl (wd X)) (m := m) (f := fun ds E s1 => match srtD ds with | some es => Res.ok es s1 | none => .err) h
  refine ⟨ρ, E, s, hs, he, RQ.mono h ?_⟩
  rintro x H1 ⟨ρ1, E1, s1, ds, hs1, he1, ⟨a, vs, rfl, sq, r⟩, hq⟩
  split at hq
  · rename_i es e
    exact srtD_run hs1 sq r e hq
  · exact hq.elim
theorem keysS_ok : ∀ {kvs : List (Key × D)} {ks : List Str}, keysS kvs = some ks → kvs.map (·.1) = ks.map Sum.inr
  | [], ks, h => by simp [keysS] at h; subst h; rfl
  | (.inr x, d) :: r, ks, h => by
    simp only [keysS, List.mapM_cons, Option.pure_def, Option.bind_eq_bind, Option.bind_some] at h
    cases z : List.mapM (m := Option) (fun kv : Key × D => match kv.1 with | .inr x => some x | .inl _ => none) r with
    | none => rw [z] at h; cases h
    | some js =>
      rw [z] at h
      simp at h
      subst h
      rw [List.map_cons, List.map_cons, keysS_ok (ks := js) z]
  | (.inl x, d) :: r, ks, h => by
    simp only [keysS, List.mapM_cons, Option.pure_def, Option.bind_eq_bind, Option.bind_none] at h
    cases h
theorem mf_sorted {m : EM D} (hc : X.calm = true) (hm : X.mg "sorted" = none) (hg : Gl X "sorted") (h : ME X W e m) (hst : starEach [e] X.env = [(false, eval e X.env)]) : MF X W (.Call (.Name "sorted" np) [e] [] pos) (fSorted m) := by
  refine callB_V ((cr_sortedS'.or cr_sortedI').or (call_sortedD hc)) hg hm (by decide +kernel) (by decide) (by decide) h hst fun σ H Q h => ?_
  unfold fSorted at h
  obtain ⟨ρ, E, s, hs, he, h⟩ := tF.bind (R1 := Rp (wd X)) (m := m) h
  refine ⟨ρ, E, s, hs, he, RQ.mono h ?_⟩
  rintro x H1 ⟨ρ1, E1, s1, d, hs1, he1, rd, hq⟩
  split at hq
  · rename_i ds e
    obtain ⟨a, vs, rfl, sq, r⟩ := lstD_ok hs1 rd e
    split at hq
    · rename_i es e2
      exact .inl (srtD_run hs1 sq r e2 hq)
    · exact hq.elim
  · split at hq
    · rename_i k _
      split at hq
      · rename_i kvs e0
        split at hq
        · rename_i ks ek
          split at hq
          · rename_i h64
            obtain ⟨_, rfl⟩ := rd.loc_
            obtain ⟨ho, h1, vs, rfl, r⟩ := hs1.get e0
            refine .inr ⟨_, vs, ks, rfl, .inl h1, by rw [r.keys]; exact keysS_ok ek, h64, fun ys p hp hsr hn => ?_⟩
            rw [srtS_uniq hp (sortedS_pw _ hsr)]
            exact RF.new hq hs1 (RpL.strs _) hn
          · exact hq.elim
        · exact hq.elim
      · exact hq.elim
    · exact hq.elim
end

/-! ### built-in functions by values -/
def pLen : PL
  | [.str x], s => if x.length ≤ sizeLine then some (.int x.length, s) else none
  | [.tup xs], s => some (.int xs.length, s)
  | [.ro xs], s => some (.int xs.length, s)
  | [.loc k], s => match s[k]? with
    | some (.lst xs) => some (.int xs.length, s)
    | some (.dic kvs) => some (.int kvs.length, s)
    | _ => none
  | _, _ => none
def pAbs : PL
  | [.int i], s => some (.int (if i < 0 then -i else i), s)
  | _, _ => none
def pIntC : PL
  | [.int i], s => some (.int i, s)
  | [.bl b], s => some (.int (if b = true then 1 else 0), s)
  | [.str x], s => if x.length ≤ 640 then (PySem.intText? x).map fun n => (.int n, s) else none
  | _, _ => none
def pStr : PL
  | [.int i], s => if i.natAbs.log2 < 1900 then some (.str (Str.ofString (toString i)), s) else none
  | _, _ => none
def pOrd : PL
  | [.str x], s => if x.length = 1 then some (.int (x.cps.getD 0 0 : Nat), s) else none
  | _, _ => none
def pDivmod : PL
  | [.int i, .int j], s => if 0 < j ∧ j.natAbs.log2 < 9000 then some (.tup [.int (i / j), .int (i % j)], s) else none
  | _, _ => none
def tyD (d : D) (s : Sto) : Option String := match d with
  | .non => some "NoneType"
  | .bl _ => some "bool"
  | .int _ => some "int"
  | .str _ => some "str"
  | .tup _ => some "tuple"
  | .ro _ => some "list"
  | .loc k => match s[k]? with
    | some (.lst _) => some "list"
    | some (.dic _) => some "dict"
    | _ => none
  | _ => none
def isiB (a b : String) : Option Bool :=
  if ["NoneType", "bool", "int", "str", "tuple", "list", "dict"].contains a && ["bool", "int", "str", "tuple", "list", "dict"].contains b then some (a == b || (a == "bool" && b == "int")) else none
theorem isiB_all : (["NoneType", "bool", "int", "str", "tuple", "list", "dict"].all fun a => ["bool", "int", "str", "tuple", "list", "dict"].all fun b => kitB a b == some (a == b || (a == "bool" && b == "int"))) = true := by decide +kernel
theorem isiB_ok {a b : String} {r : Bool} (h : isiB a b = some r) : kitB a b = some r := by
  unfold isiB at h
  split at h
  · rename_i hc
    rw [Bool.and_eq_true] at hc
    have h1 := List.all_eq_true.mp (List.all_eq_true.mp isiB_all a (List.contains_iff_mem.mp hc.1)) b (List.contains_iff_mem.mp hc.2)
    rw [beq_iff_eq.mp h1]; exact h
  · cases h
def pIsi : PL
  | [d, .ty n], s => match tyD d s with
    | some t => (isiB t n).map fun b => (.bl b, s)
    | none => none
  | _, _ => none
theorem tyD_ok {w : Wd} {ρ : Nat → Addr} {H : Hp} {s : Sto} {v : V} {d : D} {t : String} (hs : RS w ρ H s) (hr : Rp w ρ s.length H v d) (h : tyD d s = some t) : TyX w.K H v (.type t) := by
  cases d with
  | non => cases hr.non_; simp only [tyD] at h; cases h; exact .base .non
  | bl b => cases hr.bl_; simp only [tyD] at h; cases h; exact .base (.bl b)
  | int b => cases hr.int_; simp only [tyD] at h; cases h; exact .base (.int b)
  | str b => cases hr.str_; simp only [tyD] at h; cases h; exact .base (.str b)
  | tup xs =>
    obtain ⟨a, vs, rfl, sq, r⟩ := hr.tup_
    simp only [tyD] at h; cases h
    rcases sq with e | ⟨o, its, n, e, c, _⟩
    · exact .base (.tup e)
    · exact .kTuple e c
  | ro xs =>
    obtain ⟨a, vs, rfl, sq, r⟩ := hr.ro_
    simp only [tyD] at h; cases h
    rcases sq with ⟨o, e⟩ | ⟨o, its, n, e, c, _⟩
    · exact .base (.frz e)
    · exact .kList e c
  | loc k =>
    obtain ⟨_, rfl⟩ := hr.loc_
    simp only [tyD] at h
    split at h
    · rename_i xs e0
      cases h
      obtain ⟨ho, h1, vs, rfl, r⟩ := hs.get e0
      exact .base (.lst h1)
    · rename_i xs e0
      cases h
      obtain ⟨ho, h1, vs, rfl, r⟩ := hs.get e0
      exact .base (.dK h1)
    · cases h
  | gl x => simp only [tyD] at h; cases h
  | ty x => simp only [tyD] at h; cases h
section
variable {X : Cx}
theorem c_len : CallM X (.builtin "len") pLen := by
  rintro pins s σ H xs us Q I rs ⟨ρ, st, ds, hs, hr, q⟩
  unfold pLen at q
  split at q
  · rename_i x _
    split at q
    · rename_i hl
      obtain ⟨v, r, rfl, h1, h2⟩ := hr.inv
      rw [h2.inv0] at rs
      have q' := RQ.val q hs (Rp.int _)
      cases h1.str_
      exact call_len pins s σ H _ us Q I rs ⟨_, _, rfl, ⟨hl, rfl⟩, q'⟩
    · exact q.elim
  · obtain ⟨v, r, rfl, h1, h2⟩ := hr.inv
    rw [h2.inv0] at rs
    obtain ⟨a, vs, rfl, sq, r⟩ := h1.tup_
    exact call_len pins s σ H _ us Q I rs ⟨_, _, rfl, .inr ⟨vs, sq.sqT, rfl⟩, by rw [RpL.length r]; exact RQ.val q hs (Rp.int _)⟩
  · obtain ⟨v, r, rfl, h1, h2⟩ := hr.inv
    rw [h2.inv0] at rs
    obtain ⟨a, vs, rfl, sq, r⟩ := h1.ro_
    exact call_len pins s σ H _ us Q I rs ⟨_, _, rfl, .inl ⟨vs, sq.sqL, rfl⟩, by rw [RpL.length r]; exact RQ.val q hs (Rp.int _)⟩
  · obtain ⟨v, r, rfl, h1, h2⟩ := hr.inv
    rw [h2.inv0] at rs
    obtain ⟨_, rfl⟩ := h1.loc_
    split at q
    · rename_i xs e0
      obtain ⟨ho, h1, vs, rfl, r⟩ := hs.get e0
      exact call_len pins s σ H _ us Q I rs ⟨_, _, rfl, .inl ⟨vs, SqL.of h1, rfl⟩, by rw [RpL.length r]; exact RQ.val q hs (Rp.int _)⟩
    · rename_i kvs e0
      obtain ⟨ho, h1, vs, rfl, r⟩ := hs.get e0
      rw [Vals.ref1 rs]
      have q' := RQ.val q hs (Rp.int _)
      rw [← RpA.length r] at q'
      exact d_len I (.inl h1) fun t s' I' => ⟨.int _, H, I', ⟨t, rfl⟩, q'⟩
    · exact q.elim
  · exact q.elim
theorem c_abs : CallM X (.builtin "abs") pAbs := by
  rintro pins s σ H xs us Q I rs ⟨ρ, st, ds, hs, hr, q⟩
  unfold pAbs at q
  split at q
  · obtain ⟨v, r, rfl, h1, h2⟩ := hr.inv
    rw [h2.inv0] at rs
    cases h1.int_
    exact call_abs pins s σ H _ us Q I rs ⟨_, rfl, RQ.val q hs (Rp.int _)⟩
  · exact q.elim
theorem c_int : CallM X (.type "int") pIntC := by
  rintro pins s σ H xs us Q I rs ⟨ρ, st, ds, hs, hr, q⟩
  unfold pIntC at q
  split at q
  · obtain ⟨v, r, rfl, h1, h2⟩ := hr.inv
    rw [h2.inv0] at rs
    cases h1.int_
    exact call_int1 pins s σ H _ us Q I rs (.inl ⟨_, rfl, RQ.val q hs (Rp.int _)⟩)
  · obtain ⟨v, r, rfl, h1, h2⟩ := hr.inv
    rw [h2.inv0] at rs
    cases h1.bl_
    exact call_int1 pins s σ H _ us Q I rs (.inr ⟨_, rfl, RQ.val q hs (Rp.int _)⟩)
  · rename_i x
    split at q
    · rename_i hl
      obtain ⟨v, r, rfl, h1, h2⟩ := hr.inv
      rw [h2.inv0] at rs
      cases h1.str_
      cases e : PySem.intText? x with
      | none => rw [e] at q; exact q.elim
      | some n =>
        rw [e] at q
        exact call_int_str pins s σ H _ us Q I rs ⟨_, _, rfl, e, hl, RQ.val q hs (Rp.int _)⟩
    · exact q.elim
  · exact q.elim
theorem c_str : CallM X (.type "str") pStr := by
  rintro pins s σ H xs us Q I rs ⟨ρ, st, ds, hs, hr, q⟩
  unfold pStr at q
  split at q
  · split at q
    · rename_i hl
      obtain ⟨v, r, rfl, h1, h2⟩ := hr.inv
      rw [h2.inv0] at rs
      cases h1.int_
      exact call_str_int pins s σ H _ us Q I rs ⟨_, rfl, by omega, RQ.val q hs (Rp.str _)⟩
    · exact q.elim
  · exact q.elim
theorem c_ord : CallM X (.builtin "ord") pOrd := by
  rintro pins s σ H xs us Q I rs ⟨ρ, st, ds, hs, hr, q⟩
  unfold pOrd at q
  split at q
  · split at q
    · rename_i hl
      obtain ⟨v, r, rfl, h1, h2⟩ := hr.inv
      rw [h2.inv0] at rs
      cases h1.str_
      exact call_ord pins s σ H _ us Q I rs ⟨_, rfl, hl, RQ.val q hs (Rp.int _)⟩
    · exact q.elim
  · exact q.elim
theorem c_divmod : CallM X (.builtin "divmod") pDivmod := by
  rintro pins s σ H xs us Q I rs ⟨ρ, st, ds, hs, hr, q⟩
  unfold pDivmod at q
  split at q
  · rename_i i j
    split at q
    · rename_i hl
      obtain ⟨v, r, rfl, h1, h2⟩ := hr.inv
      obtain ⟨v2, r2, rfl, h3, h4⟩ := h2.inv
      rw [h4.inv0] at rs
      cases h1.int_
      cases h3.int_
      refine call_divmodW pins s σ H _ us Q I rs ⟨_, _, rfl, ⟨hl.1, PyProof.noPylong_of_log2 hl.2⟩, fun p hp => ?_⟩
      have L1 : Lat ρ st.length H ρ st.length (upd H p (.tup [.int (i / j), .int (i % j)])) := Lat.fresh hp
      refine q ρ _ _ L1 (hs.fresh hp) ?_
      unfold Rp
      exact ⟨p, [.int (i / j), .int (i % j)], rfl, SqU.of upd_same, by simp only [RpL, Rp]; exact ⟨_, _, rfl, rfl, _, _, rfl, rfl, rfl⟩⟩
    · exact q.elim
  · exact q.elim
theorem c_isi : CallM X (.builtin "isinstance") pIsi := by
  rintro pins s σ H xs us Q I rs ⟨ρ, st, ds, hs, hr, q⟩
  unfold pIsi at q
  split at q
  · rename_i d n
    obtain ⟨v, r, rfl, h1, h2⟩ := hr.inv
    obtain ⟨v2, r2, rfl, h3, h4⟩ := h2.inv
    rw [h4.inv0] at rs
    cases h3.ty_
    split at q
    · rename_i t et
      cases eb : isiB t n with
      | none => rw [eb] at q; exact q.elim
      | some b =>
        rw [eb] at q
        exact call_isi pins s σ H _ us Q I rs ⟨v, _, _, _, b, rfl, .ty n, tyD_ok hs h1 et, kit_ty (isiB_ok eb), RQ.val q hs (Rp.bl _)⟩
    · exact q.elim
  · exact q.elim
end
/-! ### dict(list of pairs) -/
def pairsD : List D → Option (List (Key × D))
  | [] => some []
  | .tup [x, y] :: r => match keyD x, pairsD r with
    | some q, some kvs => some ((q, y) :: kvs)
    | _, _ => none
  | _ :: _ => none
def mergeA (kvs more : List (Key × D)) : List (Key × D) := more.foldl (fun acc kv => putA acc kv.1 kv.2) kvs
theorem RpA.merge {w : Wd} {ρ : Nat → Addr} {n : Nat} {H : Hp} : ∀ {ds : List (Key × D)} {vs : List (Key × V)} {v0 : List (Key × V)} {d0 : List (Key × D)}, RpA w ρ n H vs ds → RpA w ρ n H v0 d0 → RpA w ρ n H (mergeK v0 vs) (mergeA d0 ds)
  | [], vs, _, _, h, r0 => by rw [h.inv0]; exact r0
  | (k, d) :: ds, _, v0, d0, h, r0 => by
    obtain ⟨v, r, rfl, rv, rs⟩ := h.inv
    have q := RpA.merge rs (r0.put rv k)
    exact q
theorem pairsD_ok {w : Wd} {ρ : Nat → Addr} {H : Hp} {n : Nat} : ∀ {xs : List D} {vs : List V} {kvs : List (Key × D)}, RpL w ρ n H vs xs → pairsD xs = some kvs →
    ∃ (ps : List Addr) (rs : List (Key × V)), vs = ps.map V.ref ∧ Paired (fun p kv => SqT w.K H p [kV kv.1, kv.2]) ps rs ∧ RpA w ρ n H rs kvs
  | [], _, _, h, e => by
    rw [h.inv0]; cases e
    exact ⟨[], [], rfl, .nil, RpA.nil⟩
  | x :: xs, _, _, h, e => by
    obtain ⟨v, r, rfl, h1, h2⟩ := h.inv
    unfold pairsD at e
    split at e
    · cases ‹_ :: _ = []›
    · rename_i a b r' heq
      cases heq
      split at e
      · rename_i q kvs ek er
        cases e
        obtain ⟨p, us, rfl, sq, ru⟩ := h1.tup_
        obtain ⟨va, r2, rfl, h3, h4⟩ := ru.inv
        obtain ⟨vb, r3, rfl, h5, h6⟩ := h4.inv
        rw [h6.inv0] at sq
        have ea := keyD_ok h3 ek
        subst ea
        obtain ⟨ps, rs, rfl, pr, ra⟩ := pairsD_ok h2 er
        exact ⟨p :: ps, (q, vb) :: rs, rfl, .cons sq.sqT pr, RpA.cons h5 ra⟩
      · cases e
    · cases e
def pDict : PL
  | [d], s => match lstD d s with
    | some xs => match pairsD xs with
      | some kvs => some (.loc s.length, s ++ [.dic (mergeA [] kvs)])
      | none => none
    | none => none
  | _, _ => none
theorem c_dict {X : Cx} (hcalm : X.calm = true) : CallM X (.type "dict") pDict := by
  rintro pins s σ H xs us Q I rs ⟨ρ, st, ds, hs, hr, q⟩
  unfold pDict at q
  split at q
  · obtain ⟨v, r, rfl, h1, h2⟩ := hr.inv
    rw [h2.inv0] at rs
    split at q
    · rename_i xs e1
      split at q
      · rename_i kvs e2
        obtain ⟨a, vs, rfl, sq, rl⟩ := lstD_ok hs h1 e1
        obtain ⟨ps, rs', rfl, pr, ra⟩ := pairsD_ok rl e2
        exact call_dictP hcalm pins s σ H _ us Q I rs ⟨a, ps, rs', rfl, sq, pr, fun p hp => RQ.obj q hs ⟨_, rfl, RpA.merge ra RpA.nil⟩ hp⟩
      · exact q.elim
    · exact q.elim
  · exact q.elim
end Y

set_option Elab.async false
set_option linter.all false
set_option maxRecDepth 100000
/-! Y7: methods of built-in types; targets; plain statements. -/
namespace Y
open PySem L2

/-! ### o.m(..), o of a built-in type -/
abbrev PM := D → List D → Sto → Option (D × Sto)
def rMt (w : Wd) (p : PM) : V → List V → Hp → VK → Prop := fun x xs H Q => ∃ ρ s d ds, RS w ρ H s ∧ Rp w ρ s.length H x d ∧ RpL w ρ s.length H xs ds ∧ RQ w (Rp w) E0 ρ s.length H (.ofO (p d ds s)) Q
structure BM (X : Cx) (T : String) (name : Str) (p : PM) : Prop where
  ex : ∃ id, PlainAttrs T ∧ Slot T name id ∧ typeOf (.builtin id) = pure (.type "method_descriptor") ∧ MtR X id (rMt (wd X) p)
theorem tyV_of {w : Wd} {ρ : Nat → Addr} {H : Hp} {s : Sto} {v : V} {d : D} {t : String} (hs : RS w ρ H s) (hr : Rp w ρ s.length H v d) (h : tyD d s = some t) (ht : t = "list" ∨ t = "dict" ∨ t = "str") : tyV w.K t v H := by
  cases d with
  | str b => cases hr.str_; simp only [tyD] at h; cases h; rfl
  | ro xs =>
    obtain ⟨a, vs, rfl, sq, r⟩ := hr.ro_
    simp only [tyD] at h; cases h
    exact .inl ⟨rfl, vs, sq.sqL⟩
  | loc k =>
    obtain ⟨_, rfl⟩ := hr.loc_
    simp only [tyD] at h
    split at h
    · rename_i xs e0
      cases h
      obtain ⟨ho, h1, vs, rfl, r⟩ := hs.get e0
      exact .inl ⟨rfl, vs, SqL.of h1⟩
    · rename_i xs e0
      cases h
      obtain ⟨ho, h1, vs, rfl, r⟩ := hs.get e0
      exact .inr (.inr (.inl ⟨rfl, .inl ⟨vs, h1⟩⟩))
    · cases h
  | non => simp only [tyD] at h; cases h; rcases ht with z | z | z <;> exact absurd z (by decide)
  | bl b => simp only [tyD] at h; cases h; rcases ht with z | z | z <;> exact absurd z (by decide)
  | int b => simp only [tyD] at h; cases h; rcases ht with z | z | z <;> exact absurd z (by decide)
  | tup b => simp only [tyD] at h; cases h; rcases ht with z | z | z <;> exact absurd z (by decide)
  | gl x => simp only [tyD] at h; cases h
  | ty x => simp only [tyD] at h; cases h

def mAppend : PM
  | .loc k, [d], s => match s[k]? with
    | some (.lst xs) => if xs.length < sizeLine then some (.non, s.set k (.lst (xs ++ [d]))) else none
    | _ => none
  | _, _, _ => none
def mExtend : PM
  | .loc k, [.loc j], s => match s[k]?, s[j]? with
    | some (.lst xs), some (.lst ys) => if xs.length + ys.length ≤ sizeLine then some (.non, s.set k (.lst (xs ++ ys))) else none
    | _, _ => none
  | .loc k, [.tup ys], s => match s[k]? with
    | some (.lst xs) => if xs.length + ys.length ≤ sizeLine then some (.non, s.set k (.lst (xs ++ ys))) else none
    | _ => none
  | _, _, _ => none
def mInsert : PM
  | .loc k, [.int i, d], s => match s[k]? with
    | some (.lst xs) => if xs.length < sizeLine ∧ 0 ≤ i ∧ fitI i = true then some (.non, s.set k (.lst (xs.take i.toNat ++ [d] ++ xs.drop i.toNat))) else none
    | _ => none
  | _, _, _ => none
def mPop : PM
  | .loc k, [], s => match s[k]? with
    | some (.lst xs) => match xs[xs.length - 1]? with
      | some d => some (d, s.set k (.lst xs.dropLast))
      | none => none
    | _ => none
  | _, _, _ => none
def mGet : PM
  | .loc k, [y], s => match s[k]?, keyD y with
    | some (.dic kvs), some q => some ((getA kvs q).getD .non, s)
    | _, _ => none
  | .loc k, [y, z], s => match s[k]?, keyD y with
    | some (.dic kvs), some q => some ((getA kvs q).getD z, s)
    | _, _ => none
  | _, _, _ => none
def mFind : PM
  | .str a, [.str b], s => some (.int (Txt.find a b), s)
  | .str a, [.str b, .int i], s => some (.int (Txt.find3 a b i), s)
  | _, _, _ => none
def mZfill : PM
  | .str a, [.int i], s => if PadOk i = true then some (.str (Txt.zfill a i), s) else none
  | _, _, _ => none
def mJoin : PM
  | .str a, [.loc k], s => match s[k]? with
    | some (.lst xs) => match strsD xs with
      | some ys => if (ys.map (·.length)).sum + ys.length * a.length ≤ 16777216 then some (.str (Txt.join a ys), s) else none
      | none => none
    | _ => none
  | _, _, _ => none
def pMeth (T : String) (name : Str) : Option PM :=
  if T = "list" then
    if name = "append" then some mAppend else if name = "extend" then some mExtend else if name = "insert" then some mInsert else if name = "pop" then some mPop else none
  else if T = "dict" then
    if name = "get" then some mGet else none
  else if T = "str" then
    if name = "find" then some mFind else if name = "zfill" then some mZfill else if name = "join" then some mJoin else none
  else none
/-- a store object is written -/
theorem RQ.set {w : Wd} {W : XK} {ρ : Nat → Addr} {H : Hp} {s : Sto} {k : Nat} {ho : HO} {o : O} {d : D} {v : V} {Q : VK} (h : RQ w (Rp w) W ρ s.length H (.ofO (some (d, s.set k o))) Q) (hs : RS w ρ H s) (hk : k < s.length) (hr : RO w ρ s.length H ho o) (hd : Rp w ρ s.length H v d) : Q v (upd H (ρ k) ho) := by
  have hl : (s.set k o).length = s.length := List.length_set
  exact h ρ _ v (by rw [hl]; exact Lat.set hs hk _ rfl) (hs.set hk hr) (by rw [hl]; exact Rp.lat (Lat.set hs hk _ rfl) _ hd)
theorem RpL.dropLast {w : Wd} {ρ : Nat → Addr} {n : Nat} {H : Hp} {vs : List V} {ds : List D} (h : RpL w ρ n H vs ds) : RpL w ρ n H vs.dropLast ds.dropLast := by
  rw [List.dropLast_eq_take, List.dropLast_eq_take, RpL.length h]
  exact h.take _
section
variable {X : Cx}
theorem bm_append : BM X "list" "append" mAppend := by
  refine ⟨⟨_, PySem.F.plainAttrs_list, PySem.F.slot_list_append, PySem.F.type_list_append, ?_⟩⟩
  rintro pins s σ H x xs v us Q I rx rs ⟨ρ, st, d, ds, hs, hx, hr, q⟩
  unfold mAppend at q
  split at q
  · rename_i k d'
    split at q
    · rename_i ys e0
      split at q
      · rename_i hl
        obtain ⟨hk, rfl⟩ := hx.loc_
        obtain ⟨ho, h1, vs, rfl, r⟩ := hs.get e0
        obtain ⟨y, r', rfl, h2, h3⟩ := hr.inv
        rw [h3.inv0] at rs
        exact mt_append pins s σ H _ _ v us Q I rx rs ⟨_, vs, y, rfl, rfl, h1, by rw [RpL.length r]; exact hl, RQ.set q hs hk ⟨_, rfl, RpL.append r (RpL.one h2)⟩ Rp.non⟩
      · exact q.elim
    · exact q.elim
  · exact q.elim
section
open PySem.AutoSeq1 PySem.Builtin
/-- list.extend of any tuple -/
theorem meets_extT (l : Addr) (xs : Array Value) (n : Nat) (b : Addr) (ys : Array Value) (m : Nat) (dct : Option Addr) (sl : Array (Option Value)) (c0 : ¬(!xs.isEmpty && Builtin.List.listTooLong (xs.size + ys.size)) = true) (c1 : xs.size ≤ sizeLine) (c2 : xs.size + ys.size ≤ sizeLine + 1) :
    Meets (Builtin.«list.extend» ⟨[.ref l, .ref b], []⟩) (fun _ R s =>
      s.heap.get? l = some { cls := .type "list", dict := none, data := .seq xs n, slots := #[] } ∧
      s.heap.get? b = some { cls := .type "tuple", dict := dct, data := .seq ys m, slots := sl } ∧
      R (.ok (.ret Value.none)) { s with heap := s.heap.update l (Obj.mapSeq fun z => z ++ ys), toks := s.toks }) := by
  refine .of_wp fun prog w A R s h => ?_
  obtain ⟨hp, g, d, tk, os⟩ := s
  obtain ⟨hl, hb, h⟩ := h
  have g1 := idx_int
  have g2 := sub_tuple_tuple
  have g3 := sub_list_list
  have g4 := sub_tuple_list
  have g5 := sub_list_tuple
  have c3 : (xs ++ ys).size ≤ sizeLine + 1 := by rw [Array.size_append]; exact c2
  wp_walk using (wpAny_updateSeq hl rfl (hz := c1) (_hz' := c3)), wpAny_loadPart' hl, wpAny_loadPart' hb
  exact ⟨_, rfl, h⟩
end
def rExtT (K : PySem.W.Frag) : V → List V → Hp → VK → Prop := fun x vs H Q => ∃ l b xs zs, x = .ref l ∧ vs = [.ref b] ∧ H l = some (.lst xs) ∧ SqT K H b zs ∧ xs.length + zs.length ≤ sizeLine ∧ Q .non (upd H l (.lst (xs ++ zs)))
theorem mt_extT {X : Cx} : MtM X "list.extend" (rExtT X.K) := by
  rintro pins s σ H x vs v us Q I rx rv ⟨l, b, xs, zs, rfl, rfl, hH, hB, hz, q⟩
  cases rx
  obtain ⟨u, rfl, ru⟩ := rv.one
  cases ru
  obtain ⟨z, its, n, r, hl, e⟩ := I.lstM hH
  obtain ⟨its2, r2, ⟨o, ho, hc, m, hd⟩, hz2⟩ := I.tuple hB
  obtain ⟨oc, od, odat, osl⟩ := o
  simp only at hc hd
  subst hc hd
  have l2 := r2.length
  have hsz : its.toArray.size + its2.toArray.size ≤ sizeLine := by rw [List.size_toArray, List.size_toArray]; omega
  have hlong : ¬ (!its.toArray.isEmpty && Builtin.List.listTooLong (its.toArray.size + its2.toArray.size)) = true := by
    rw [notLongL hsz, Bool.and_false]; exact Bool.false_ne_true
  refine call_meets PySem.F.slot_list_extend ⟨_, e, rfl⟩ PySem.F.entry_list_extend (PySem.F.args_list_extend_2 _ _) (meets_extT l its.toArray n b its2.toArray m od osl hlong (by rw [List.size_toArray]; omega) (by omega)) ⟨e, ho, ?_⟩
  refine ⟨.non, _, I.lset (its' := its ++ its2) hH e (by simp) (r.append r2) ?_, rfl, q⟩
  rw [List.length_append]; omega
theorem bm_extend : BM X "list" "extend" mExtend := by
  refine ⟨⟨_, PySem.F.plainAttrs_list, PySem.F.slot_list_extend, PySem.F.type_list_extend, ?_⟩⟩
  rintro pins s σ H x xs v us Q I rx rs ⟨ρ, st, d, ds, hs, hx, hr, q⟩
  unfold mExtend at q
  split at q
  · rename_i k j
    split at q
    · rename_i ys zs e0 e1
      split at q
      · rename_i hl
        obtain ⟨hk, rfl⟩ := hx.loc_
        obtain ⟨ho, h1, vs, rfl, r⟩ := hs.get e0
        obtain ⟨ho2, h2, ws, rfl, r2⟩ := hs.get e1
        obtain ⟨y, r', rfl, h3, h4⟩ := hr.inv
        obtain ⟨_, rfl⟩ := h3.loc_
        rw [h4.inv0] at rs
        exact mt_extend pins s σ H _ _ v us Q I rx rs ⟨_, _, vs, ws, rfl, rfl, h1, h2, by rw [RpL.length r, RpL.length r2]; exact hl, RQ.set q hs hk ⟨_, rfl, RpL.append r r2⟩ Rp.non⟩
      · exact q.elim
    · exact q.elim
  · rename_i k zs
    split at q
    · rename_i ys e0
      split at q
      · rename_i hl
        obtain ⟨hk, rfl⟩ := hx.loc_
        obtain ⟨ho, h1, vs, rfl, r⟩ := hs.get e0
        obtain ⟨y, r', rfl, h3, h4⟩ := hr.inv
        obtain ⟨a, ws, rfl, sq, r2⟩ := h3.tup_
        rw [h4.inv0] at rs
        exact mt_extT pins s σ H _ _ v us Q I rx rs ⟨_, _, vs, ws, rfl, rfl, h1, sq.sqT, by rw [RpL.length r, RpL.length r2]; exact hl, RQ.set q hs hk ⟨_, rfl, RpL.append r r2⟩ Rp.non⟩
      · exact q.elim
    · exact q.elim
  · exact q.elim
theorem bm_insert : BM X "list" "insert" mInsert := by
  refine ⟨⟨_, PySem.F.plainAttrs_list, PySem.F.slot_list_insert, PySem.F.type_list_insert, ?_⟩⟩
  rintro pins s σ H x xs v us Q I rx rs ⟨ρ, st, d, ds, hs, hx, hr, q⟩
  unfold mInsert at q
  split at q
  · rename_i k i d'
    split at q
    · rename_i ys e0
      split at q
      · rename_i hl
        obtain ⟨hk, rfl⟩ := hx.loc_
        obtain ⟨ho, h1, vs, rfl, r⟩ := hs.get e0
        obtain ⟨y, r', rfl, h2, h3⟩ := hr.inv
        obtain ⟨z, r'', rfl, h4, h5⟩ := h3.inv
        cases h2.int_
        rw [h5.inv0] at rs
        exact mt_insert pins s σ H _ _ v us Q I rx rs ⟨_, vs, i, z, rfl, rfl, h1, by rw [RpL.length r]; exact hl.1, hl.2.1, fitI_63 hl.2.2, RQ.set q hs hk ⟨_, rfl, RpL.append (RpL.append (r.take _) (RpL.one h4)) (r.drop _)⟩ Rp.non⟩
      · exact q.elim
    · exact q.elim
  · exact q.elim
theorem bm_pop : BM X "list" "pop" mPop := by
  refine ⟨⟨_, PySem.F.plainAttrs_list, PySem.F.slot_list_pop, PySem.F.type_list_pop, ?_⟩⟩
  rintro pins s σ H x xs v us Q I rx rs ⟨ρ, st, d, ds, hs, hx, hr, q⟩
  unfold mPop at q
  split at q
  · rename_i k
    split at q
    · rename_i ys e0
      split at q
      · rename_i d' e1
        obtain ⟨hk, rfl⟩ := hx.loc_
        obtain ⟨ho, h1, vs, rfl, r⟩ := hs.get e0
        rw [hr.inv0] at rs
        obtain ⟨y, e2, ry⟩ := r.get e1
        exact mt_pop pins s σ H _ _ v us Q I rx rs ⟨_, vs, y, rfl, rfl, h1, by rw [RpL.length r]; exact e2, RQ.set q hs hk ⟨_, rfl, r.dropLast⟩ ry⟩
      · exact q.elim
    · exact q.elim
  · exact q.elim
theorem bm_get (hr : Room 0 X.A) : BM X "dict" "get" mGet := by
  have hu : X.A.units + 1 < cLine := by have := hr.un; omega
  refine ⟨⟨_, PySem.F.plainAttrs_dict, PySem.F.slot_dict_get, PySem.F.type_dict_get, ?_⟩⟩
  rintro pins s σ H x xs v us Q I rx rs ⟨ρ, st, d, ds, hs, hx, hr, q⟩
  unfold mGet at q
  split at q
  · rename_i k y
    split at q
    · rename_i kvs q' e0 ek
      obtain ⟨hk, rfl⟩ := hx.loc_
      cases (show v = Value.ref (ρ k) from rx)
      obtain ⟨ho, h1, vs, rfl, r⟩ := hs.get e0
      obtain ⟨y', r', rfl, h2, h3⟩ := hr.inv
      rw [h3.inv0] at rs
      have ev := keyD_ok h2 ek
      subst ev
      obtain ⟨u, rfl, ru⟩ := rs.one
      obtain ⟨g1, g2⟩ := RpA.get q' r
      refine d_get1 hu I (DGet.k h1) ru fun w' s' I' rw' => ⟨_, H, I', rw', ?_⟩
      cases z : getA kvs q' with
      | none => rw [g2 z]; rw [z] at q; exact RQ.val q hs Rp.non
      | some d' => obtain ⟨v', e', r1⟩ := g1 d' z; rw [e']; rw [z] at q; exact RQ.val q hs r1
    · exact q.elim
  · rename_i k y z
    split at q
    · rename_i kvs q' e0 ek
      obtain ⟨hk, rfl⟩ := hx.loc_
      cases (show v = Value.ref (ρ k) from rx)
      obtain ⟨ho, h1, vs, rfl, r⟩ := hs.get e0
      obtain ⟨y', r', rfl, h2, h3⟩ := hr.inv
      obtain ⟨z', r'', rfl, h4, h5⟩ := h3.inv
      rw [h5.inv0] at rs
      have ev := keyD_ok h2 ek
      subst ev
      obtain ⟨u, u2, rfl, ru, ru2⟩ := rs.two
      obtain ⟨g1, g2⟩ := RpA.get q' r
      refine d_get2 hu I (DGet.k h1) ru ru2 fun w' s' I' rw' => ⟨_, H, I', rw', ?_⟩
      cases zz : getA kvs q' with
      | none => rw [g2 zz]; rw [zz] at q; exact RQ.val q hs h4
      | some d' => obtain ⟨v', e', r1⟩ := g1 d' zz; rw [e']; rw [zz] at q; exact RQ.val q hs r1
    · exact q.elim
  · exact q.elim
theorem bm_find : BM X "str" "find" mFind := by
  refine ⟨⟨_, PySem.F.plainAttrs_str, PySem.F.slot_str_find, PySem.F.type_str_find, ?_⟩⟩
  rintro pins s σ H x xs v us Q I rx rs ⟨ρ, st, d, ds, hs, hx, hr, q⟩
  unfold mFind at q
  split at q
  · obtain ⟨y, r', rfl, h2, h3⟩ := hr.inv
    rw [h3.inv0] at rs
    cases hx.str_
    cases h2.str_
    exact mt_find pins s σ H _ _ v us Q I rx rs ⟨_, _, rfl, rfl, RQ.val q hs (Rp.int _)⟩
  · obtain ⟨y, r', rfl, h2, h3⟩ := hr.inv
    obtain ⟨z, r'', rfl, h4, h5⟩ := h3.inv
    rw [h5.inv0] at rs
    cases hx.str_
    cases h2.str_
    cases h4.int_
    exact mt_find3 pins s σ H _ _ v us Q I rx rs ⟨_, _, _, rfl, rfl, RQ.val q hs (Rp.int _)⟩
  · exact q.elim
theorem bm_zfill : BM X "str" "zfill" mZfill := by
  refine ⟨⟨_, PySem.F.plainAttrs_str, PySem.F.slot_str_zfill, PySem.F.type_str_zfill, ?_⟩⟩
  rintro pins s σ H x xs v us Q I rx rs ⟨ρ, st, d, ds, hs, hx, hr, q⟩
  unfold mZfill at q
  split at q
  · split at q
    · rename_i hp
      obtain ⟨y, r', rfl, h2, h3⟩ := hr.inv
      rw [h3.inv0] at rs
      cases hx.str_
      cases h2.int_
      exact mt_zfill pins s σ H _ _ v us Q I rx rs ⟨_, _, rfl, rfl, hp, RQ.val q hs (Rp.str _)⟩
    · exact q.elim
  · exact q.elim
theorem bm_join : BM X "str" "join" mJoin := by
  refine ⟨⟨_, PySem.F.plainAttrs_str, PySem.F.slot_str_join, PySem.F.type_str_join, ?_⟩⟩
  rintro pins s σ H x xs v us Q I rx rs ⟨ρ, st, d, ds, hs, hx, hr, q⟩
  unfold mJoin at q
  split at q
  · split at q
    · rename_i ys e0
      split at q
      · rename_i zs ez
        split at q
        · rename_i hp
          obtain ⟨y, r', rfl, h2, h3⟩ := hr.inv
          rw [h3.inv0] at rs
          cases hx.str_
          obtain ⟨_, rfl⟩ := h2.loc_
          obtain ⟨ho, h1, vs, rfl, r⟩ := hs.get e0
          rw [strsD_ok r ez] at h1
          exact mt_join pins s σ H _ _ v us Q I rx rs ⟨_, _, zs, rfl, rfl, .inl (SqL.of h1), hp, RQ.val q hs (Rp.str _)⟩
        · exact q.elim
      · exact q.elim
    · exact q.elim
  · exact q.elim
theorem bm_all (hr : Room 0 X.A) {T : String} {name : Str} {p : PM} (h : pMeth T name = some p) : (T = "list" ∨ T = "dict" ∨ T = "str") ∧ BM X T name p := by
  unfold pMeth at h
  split at h
  · rename_i h1
    subst h1
    split at h
    · rename_i n; subst n; cases h; exact ⟨.inl rfl, bm_append⟩
    split at h
    · rename_i n; subst n; cases h; exact ⟨.inl rfl, bm_extend⟩
    split at h
    · rename_i n; subst n; cases h; exact ⟨.inl rfl, bm_insert⟩
    split at h
    · rename_i n; subst n; cases h; exact ⟨.inl rfl, bm_pop⟩
    cases h
  split at h
  · rename_i h1
    subst h1
    split at h
    · rename_i n; subst n; cases h; exact ⟨.inr (.inl rfl), bm_get hr⟩
    cases h
  split at h
  · rename_i h1
    subst h1
    split at h
    · rename_i n; subst n; cases h; exact ⟨.inr (.inr rfl), bm_find⟩
    split at h
    · rename_i n; subst n; cases h; exact ⟨.inr (.inr rfl), bm_zfill⟩
    split at h
    · rename_i n; subst n; cases h; exact ⟨.inr (.inr rfl), bm_join⟩
    cases h
  cases h
end
def eMeth (name : Str) (o : EM D) (a : EM (List D)) : EM D := fun E s => (o E s).bind fun d s1 => match tyD d s1 with
  | some T => match pMeth T name with
    | some p => (a E s1).bind fun ds s2 => .ofO (p d ds s2)
    | none => .err
  | none => .err
section
variable {X : Cx} {W : WX} {o e : Expr} {es : List Expr} {name : Str} {apos cpos : Pos} {mo : EM D} {ma : EM (List D)}
/-- what the receiver gives -/
theorem tM_meth {σ : St} {H : Hp} {Q : VK} (hr : Room 0 X.A) (h : tM (wd X) (Rp (wd X)) W (eMeth name mo ma) σ H Q) :
    tM (wd X) (Rp (wd X)) W mo σ H fun x H1 => ∃ T p, tyV X.K T x H1 ∧ (BM X T name p) ∧ tM (wd X) (RpL (wd X)) W ma σ H1 fun xs H2 => rMt (wd X) p x xs H2 Q := by
  unfold eMeth at h
  obtain ⟨ρ, E, s, hs, he, h⟩ := tM.bind (R1 := Rp (wd X)) (m := mo) h
  refine ⟨ρ, E, s, hs, he, RQ.mono h ?_⟩
  rintro x H1 ⟨ρ1, E1, s1, d, hs1, he1, rd, hq⟩
  split at hq
  · rename_i T eT
    split at hq
    · rename_i p ep
      obtain ⟨hT, hb⟩ := bm_all (X := X) hr ep
      refine ⟨T, p, tyV_of hs1 rd eT hT, hb, ρ1, E1, s1, hs1, he1, RQ.mono (RQ.bind (R1 := RpL (wd X)) hq) ?_⟩
      rintro xs H2 ⟨ρ2, s2, ds, L2, hs2, rds, hq2⟩
      exact ⟨ρ2, s2, d, ds, hs2, Rp.lat L2 _ rd, rds, RQ.ofO hq2⟩
    · exact hq.elim
  · exact hq.elim
theorem me_meth (hr : Room 0 X.A) (ho : ME X W o mo) (ha : MA X W (e :: es) ma) (hbase : attributeBase o name X.env (eval o X.env) = eval o X.env)
    (hfew : ((backTo cpos (starEach (e :: es) X.env)).all (fun x => !x.1) && (backToKw cpos (keywordEach [] X.env)).all (fun x => x.1.isSome)
      && decide ((e :: es).length + ([] : List Keyword).length + (if ([] : List Keyword).isEmpty then 0 else 1) < 30)) = true)
    (hline : (apos.endLine == cpos.line) = true) (hs : starEach (e :: es) X.env = (false, eval e X.env) :: starEach es X.env) (hplain : (backTo cpos (starEach es X.env)).any (·.1) = false) :
    ME X W (.Call (.Attribute o name apos) (e :: es) [] cpos) (eMeth name mo ma) := by
  refine ⟨fun pins s σ H Q I h => ?_⟩
  refine wpAny_Call_method_late hbase hfew hline rfl (thn (ho.run pins s σ H _ I (tM_meth hr h)) fun v s1 ⟨x, H1, I1, r1, T, p, ty, hb, q1⟩ => ?_)
  obtain ⟨h1, h2⟩ := tyV_is I1 r1 ty
  obtain ⟨id, pa, slot, hty, hm⟩ := hb.ex
  refine ⟨T, id, pa, slot, hty, h1, h2, ?_⟩
  have hA := ha.run cpos pins s1 σ H1 _ I1 q1
  rw [hs] at hA ⊢
  refine Calls.callWith_builtin (by show (false || (backTo cpos (starEach es X.env)).any (·.1)) = false; rw [hplain] <;> rfl) (Calls.evalArgs_plain ?_)
  exact thn hA fun us s2 ⟨vs, H2, I2, r2, q2⟩ => hm pins s2 σ H2 x vs v us Q I2 r1 r2 q2
theorem me_meth0 (hr : Room 0 X.A) (ho : ME X W o mo) (hbase : attributeBase o name X.env (eval o X.env) = eval o X.env) (hline : (apos.endLine == cpos.line) = true) : ME X W (.Call (.Attribute o name apos) [] [] cpos) (eMeth name mo aNil) := by
  refine ⟨fun pins s σ H Q I h => ?_⟩
  refine wpAny_Call_method0_late hbase hline (thn (ho.run pins s σ H _ I (tM_meth hr h)) fun v s1 ⟨x, H1, I1, r1, T, p, ty, hb, q1⟩ => ?_)
  obtain ⟨h1, h2⟩ := tyV_is I1 r1 ty
  obtain ⟨id, pa, slot, hty, hm⟩ := hb.ex
  obtain ⟨ρ, E, st, hs, he, q⟩ := q1
  exact ⟨T, id, pa, slot, hty, h1, h2, Calls.callWith_builtin rfl (PySem.evalArgs_none (hm pins s1 σ H1 x [] v [] Q I1 r1 .nil (q ρ H1 [] Lat.refl hs RpL.nil)))⟩
end

/-! ### targets -/
abbrev GM := D → Ev → Sto → Res Ev
/-- what stands outside the slots sl stands as it stood -/
def Out (sl : List Nat) (σ σ' : St) : Prop := ∀ vs : List Nat, (∀ i ∈ sl, i ∈ vs) → wipe σ' vs = wipe σ vs
theorem wipe_set (σ : St) (i : Nat) (o : Option V) : ∀ vs : List Nat, i ∈ vs → wipe (σ.set i o) vs = wipe σ vs
  | v :: vs, h => by
    unfold wipe
    by_cases hi : i ∈ vs
    · rw [wipe_set σ i o vs hi]
    · have e : i = v := (List.mem_cons.mp h).resolve_right hi
      subst e
      have gen : ∀ us : List Nat, i ∉ us → wipe (σ.set i o) us = (wipe σ us).set i o := by
        intro us
        induction us with
        | nil => intro _; rfl
        | cons u us ih =>
          intro hn
          unfold wipe
          rw [ih (fun z => hn (List.mem_cons_of_mem _ z))]
          rw [List.set_comm _ _ (fun z => hn (by rw [z]; exact List.mem_cons_self))]
      rw [gen vs hi, List.set_set]
theorem Out.set (i : Nat) (σ : St) (o : Option V) : Out [i] σ (σ.set i o) := fun vs h => wipe_set σ i o vs (h i (by simp))
theorem Out.refl (σ : St) : Out [] σ σ := fun _ _ => rfl
theorem Out.trans {a b : List Nat} {σ σ1 σ2 : St} (h : Out a σ σ1) (g : Out b σ1 σ2) : Out (a ++ b) σ σ2 := fun vs hv =>
  (g vs fun i hi => hv i (List.mem_append_right _ hi)).trans (h vs fun i hi => hv i (List.mem_append_left _ hi))
def tG (w : Wd) (sl : List Nat) (m : GM) : TG := fun v σ H Q => ∃ ρ E s d, RS w ρ H s ∧ RE w ρ s.length H σ E ∧ Rp w ρ s.length H v d ∧ match m d E s with
  | .ok E' s' => ∀ ρ' σ' H', Lat ρ s.length H ρ' s'.length H' → RS w ρ' H' s' → RE w ρ' s'.length H' σ' E' → Out sl σ σ' → Q σ' H'
  | _ => False
abbrev GMs := List D → Ev → Sto → Res Ev
def tGs (w : Wd) (sl : List Nat) (m : GMs) : TGs := fun vs σ H Q => ∃ ρ E s ds, RS w ρ H s ∧ RE w ρ s.length H σ E ∧ RpL w ρ s.length H vs ds ∧ match m ds E s with
  | .ok E' s' => ∀ ρ' σ' H', Lat ρ s.length H ρ' s'.length H' → RS w ρ' H' s' → RE w ρ' s'.length H' σ' E' → Out sl σ σ' → Q σ' H'
  | _ => False
theorem PG.imp {X : Cx} {tg : Expr} {t t' : TG} (h : PG X tg t) (hi : ∀ v σ H Q, t' v σ H Q → t v σ H Q) : PG X tg t' := ⟨fun pins s σ H v u Q I r q => h.run pins s σ H v u Q I r (hi _ _ _ _ q)⟩
theorem PGs.imp {X : Cx} {ts : List Expr} {t t' : TGs} (h : PGs X ts t) (hi : ∀ v σ H Q, t' v σ H Q → t v σ H Q) : PGs X ts t' := ⟨fun pins s σ H v u Q I r q => h.run pins s σ H v u Q I r (hi _ _ _ _ q)⟩
theorem PG.or {X : Cx} {tg : Expr} {t t' : TG} (h : PG X tg t) (h' : PG X tg t') : PG X tg (fun v σ H Q => t v σ H Q ∨ t' v σ H Q) := ⟨fun pins s σ H v u Q I r q => q.elim (h.run pins s σ H v u Q I r) (h'.run pins s σ H v u Q I r)⟩
theorem RE.set {w : Wd} {ρ : Nat → Addr} {n : Nat} {H : Hp} {σ : St} {E : Ev} (h : RE w ρ n H σ E) (i : Nat) {v : V} {d : D} (r : Rp w ρ n H v d) : RE w ρ n H (σ.set i (some v)) (E.set i (some d)) := by
  refine ⟨by rw [List.length_set, List.length_set]; exact h.len, fun j d' e => ?_⟩
  by_cases hj : i = j
  · subst hj
    by_cases hl : i < E.length
    · rw [List.getElem?_set_self hl] at e
      cases e
      exact ⟨v, List.getElem?_set_self (by rw [h.len]; exact hl), r⟩
    · rw [List.getElem?_eq_none (by rw [List.length_set]; omega)] at e
      cases e
  · rw [List.getElem?_set_ne hj] at e ⊢
    exact h.val j d' e
def gNm (i : Nat) : GM := fun d E s => .ok (E.set i (some d)) s
abbrev MG (X : Cx) (tg : Expr) (sl : List Nat) (m : GM) : Prop := PG X tg (tG (wd X) sl m)
abbrev MGs (X : Cx) (ts : List Expr) (sl : List Nat) (m : GMs) : Prop := PGs X ts (tGs (wd X) sl m)
def gErr : GM := fun _ _ _ => .err
theorem tG_err {w : Wd} {v : V} {σ : St} {H : Hp} {Q : St → Hp → Prop} (h : tG w [] gErr v σ H Q) : False := by obtain ⟨_, _, _, _, _, _, _, h⟩ := h; exact h
section
variable {X : Cx}
theorem mg_err {tg : Expr} : MG X tg [] gErr := ⟨fun _ _ _ _ _ _ _ _ _ h => (tG_err h).elim⟩
theorem mg_name {i : Nat} {x : Str} {pos : Pos} (hN : X.N.Nodup) (hi : X.N[i]? = some x) (hx : Loc X.env.scope x) (hf : X.fn x = true ∨ X.env.scope.names.lookup x = some .local) : MG X (.Name x pos) [i] (gNm i) := by
  refine PG.imp (pg_name hN hi hx hf) ?_
  rintro v σ H Q ⟨ρ, E, s, d, hs, he, hr, h⟩
  exact h ρ _ H Lat.refl hs (he.set i hr) (Out.set i σ _)
def gsNil : GMs := fun ds E s => match ds with
  | [] => .ok E s
  | _ => .err
def gsCons (a : GM) (b : GMs) : GMs := fun ds E s => match ds with
  | d :: r => (a d E s).bind fun E1 s1 => b r E1 s1
  | [] => .err
theorem mgs_nil : MGs X [] [] gsNil := by
  refine PGs.imp pgs_nil ?_
  rintro vs σ H Q ⟨ρ, E, s, ds, hs, he, hr, h⟩
  cases ds with
  | nil => exact ⟨hr.inv0, h ρ σ H Lat.refl hs he (Out.refl σ)⟩
  | cons _ _ => exact h.elim
theorem mgs_cons {e : Expr} {es : List Expr} {a : GM} {b : GMs} {sa sb : List Nat} (h1 : MG X e sa a) (h2 : MGs X es sb b) (hs : (assignEach (e :: es) X.env).map (·.2) = assign e X.env :: (assignEach es X.env).map (·.2)) : MGs X (e :: es) (sa ++ sb) (gsCons a b) := by
  refine PGs.imp (pgs_cons h1 h2 hs) ?_
  rintro vs σ H Q ⟨ρ, E, s, ds, hs, he, hr, h⟩
  cases ds with
  | nil => exact h.elim
  | cons d r =>
    simp only [gsCons] at h
    obtain ⟨v, vr, rfl, r1, r2⟩ := hr.inv
    refine ⟨v, vr, rfl, ρ, E, s, d, hs, he, r1, ?_⟩
    cases q : a d E s with
    | ok E1 s1 =>
      rw [q] at h
      intro ρ1 σ1 H1 L1 hs1 he1 o1
      refine ⟨ρ1, E1, s1, r, hs1, he1, RpL.lat L1 _ r2, ?_⟩
      cases q2 : b r E1 s1 with
      | ok E2 s2 =>
        simp only [Res.bind_ok, q2] at h
        exact fun ρ2 σ2 H2 L2 hs2 he2 o2 => h ρ2 σ2 H2 (L1.trans L2) hs2 he2 (o1.trans o2)
      | exc y s2 => simp only [Res.bind_ok, q2] at h
      | err => simp only [Res.bind_ok, q2] at h
    | exc y s1 => rw [q] at h; exact h.elim
    | err => rw [q] at h; exact h.elim
def gTp (n : Nat) (gs : GMs) : GM := fun d E s => match seqD d s with
  | some xs => if xs.length = n then gs xs E s else .err
  | none => .err
theorem mg_tup {es : List Expr} {k : Nat} {m : GMs} {n : Nat} {sl : List Nat} {pos : Pos} (hc : X.calm = true) (h : MGs X es sl m) (hn : (assignEach es X.env).length = n) (hst : (assignEach es X.env).findIdx? (·.1) = none) : MG X (.Tuple es k pos) sl (gTp n m) := by
  refine PG.imp (Y.PG.or (pg_tup (k := k) hc h hn hst) (pg_lst (k := k) hc h hn hst)) ?_
  rintro v σ H Q ⟨ρ, E, s, d, hs, he, hr, h⟩
  unfold gTp at h
  cases e : seqD d s with
  | none => rw [e] at h; exact h.elim
  | some xs =>
    simp only [e] at h
    by_cases hl : xs.length = n
    · rw [if_pos hl] at h
      obtain ⟨a, vs, rfl, sq, r⟩ := seqD_ok hs hr e
      rcases sq with sq | sq
      · exact .inr ⟨a, vs, rfl, sq, by rw [RpL.length r]; exact hl, ρ, E, s, xs, hs, he, r, h⟩
      · exact .inl ⟨a, vs, rfl, sq.sqT, by rw [RpL.length r]; exact hl, ρ, E, s, xs, hs, he, r, h⟩
    · rw [if_neg hl] at h; exact h.elim
/-- o[i] = v -/
def pSet (o i v : D) (s : Sto) : Option Sto := match o with
  | .loc k => match s[k]? with
    | some (.lst xs) => match i with
      | .int z => match ixN xs.length z with
        | some j => some (s.set k (.lst (xs.set j v)))
        | none => none
      | _ => none
    | some (.dic kvs) => match keyD i with
      | some q => if kvs.length < sizeLine then some (s.set k (.dic (putA kvs q v))) else none
      | none => none
    | _ => none
  | _ => none
theorem pset_ok (hr : Room 0 X.A) : PSet X (fun o i v H Q => ∃ ρ s dO dI dV s', RS (wd X) ρ H s ∧ Rp (wd X) ρ s.length H o dO ∧ Rp (wd X) ρ s.length H i dI ∧ Rp (wd X) ρ s.length H v dV ∧ pSet dO dI dV s = some s' ∧
    ∀ H', Lat ρ s.length H ρ s'.length H' → RS (wd X) ρ H' s' → Q H') := by
  have hu : X.A.units + 1 < cLine := by have := hr.un; omega
  rintro pins s σ H o i v ov iv u Q I ro ri rv ⟨ρ, st, dO, dI, dV, s', hs, hO, hI, hV, e, q⟩
  have fin : ∀ {k : Nat} {ho : HO} {ob : O}, k < st.length → s' = st.set k ob → RO (wd X) ρ st.length H ho ob → Q (upd H (ρ k) ho) := fun {k ho ob} hk es hro => by
    have hl : (st.set k ob).length = st.length := List.length_set
    subst es
    exact q _ (by rw [hl]; exact Lat.set hs hk _ rfl) (hs.set hk hro)
  unfold pSet at e
  split at e
  · rename_i k
    obtain ⟨hk, rfl⟩ := hO.loc_
    split at e
    · rename_i xs e0
      obtain ⟨ho, h1, vs, rfl, r⟩ := hs.get e0
      split at e
      · rename_i z
        split at e
        · rename_i j ej
          cases e
          exact set_list pins s σ H _ i v ov iv u Q I ro ri rv ⟨_, vs, z, j, rfl, hI.int_, h1, by rw [RpL.length r]; exact ej, fin hk rfl ⟨_, rfl, RpL.set hV _ r⟩⟩
        · cases e
      · cases e
    · rename_i kvs e0
      obtain ⟨ho, h1, vs, rfl, r⟩ := hs.get e0
      split at e
      · rename_i q' ek
        split at e
        · rename_i hl
          cases e
          have ev := keyD_ok hI ek
          subst ev
          cases (show ov = Value.ref (ρ k) from ro)
          exact d_setItem hu I (DPut.k h1 (by rw [RpA.length r]; exact hl)) ri rv fun s4 I4 => ⟨_, I4, fin hk rfl ⟨_, rfl, RpA.put hV _ r⟩⟩
        · cases e
      · cases e
    · cases e
  · cases e
def gSb (o i : EM D) : GM := fun v E s => (o E s).bind fun dO s1 => (i E s1).bind fun dI s2 => match pSet dO dI v s2 with
  | some s3 => .ok E s3
  | none => .err
theorem mg_sub {o i : Expr} {mo mi : EM D} {pos : Pos} (hr : Room 0 X.A) (ho : ME X (fun _ _ _ _ => False) o mo) (hi : ME X (fun _ _ _ _ => False) i mi)
    (ha : ∀ v, assign (.Subscript o i pos) X.env v = (do
      let ov ← holding [v] (eval o X.env)
      let iv ← holding [v, ov] (eval i X.env)
      standAt pos
      holding [v, ov, iv] (setItem ov iv v)
      release [v, ov, iv] [])) : MG X (.Subscript o i pos) [] (gSb mo mi) := by
  refine PG.imp (pg_sub ho hi (pset_ok hr) ha) ?_
  rintro v σ H Q ⟨ρ, E, s, d, hs, he, hr, h⟩
  unfold gSb at h
  cases q1 : mo E s with
  | exc y s1 => rw [q1] at h; exact h.elim
  | err => rw [q1] at h; exact h.elim
  | ok dO s1 =>
    rw [q1] at h
    refine ⟨ρ, E, s, hs, he, ?_⟩
    rw [q1]
    intro ρ1 H1 ov L1 hs1 r1
    cases q2 : mi E s1 with
    | exc y s2 => simp only [Res.bind_ok, q2, Res.bind_exc] at h
    | err => simp only [Res.bind_ok, q2, Res.bind_err] at h
    | ok dI s2 =>
      simp only [Res.bind_ok, q2] at h
      refine ⟨ρ1, E, s1, hs1, he.lat L1, ?_⟩
      rw [q2]
      intro ρ2 H2 iv L2 hs2 r2
      cases q3 : pSet dO dI d s2 with
      | none => rw [q3] at h; exact h.elim
      | some s3 =>
        rw [q3] at h
        have L12 := L1.trans L2
        exact ⟨ρ2, s2, dO, dI, d, s3, hs2, Rp.lat L2 _ r1, r2, Rp.lat L12 _ hr, q3, fun H' L3 hs3 => h ρ2 σ H' (L12.trans L3) hs3 (he.lat (L12.trans L3)) (Out.refl σ)⟩
end
end Y

set_option Elab.async false
set_option linter.all false
set_option maxRecDepth 100000
/-! Y8: statements, loops. -/
namespace Y
open PySem L2

inductive SR where
  | nx (E : Ev) (s : Sto)
  | rt (d : D) (s : Sto)
  | bk (E : Ev) (s : Sto)
  | ct (E : Ev) (s : Sto)
  | exc (x : Str) (E : Ev) (s : Sto)
  | err
abbrev SM := Ev → Sto → SR
def SQ (w : Wd) (W : WX) (ρ : Nat → Addr) (n : Nat) (H : Hp) (r : SR) (Dn : Ends) : Prop := match r with
  | .nx E' s' => ∀ ρ' σ' H', Lat ρ n H ρ' s'.length H' → RS w ρ' H' s' → RE w ρ' s'.length H' σ' E' → Dn.nx σ' H'
  | .bk E' s' => ∀ ρ' σ' H', Lat ρ n H ρ' s'.length H' → RS w ρ' H' s' → RE w ρ' s'.length H' σ' E' → Dn.bk σ' H'
  | .ct E' s' => ∀ ρ' σ' H', Lat ρ n H ρ' s'.length H' → RS w ρ' H' s' → RE w ρ' s'.length H' σ' E' → Dn.ct σ' H'
  | .rt d s' => ∀ ρ' H' v, Lat ρ n H ρ' s'.length H' → RS w ρ' H' s' → Rp w ρ' s'.length H' v d → Dn.rt v H'
  | .exc x E' s' => ∀ ρ' σ' H' c, Lat ρ n H ρ' s'.length H' → RS w ρ' H' s' → RE w ρ' s'.length H' σ' E' → w.mg x = some c → W c none σ' H'
  | .err => False
def tS (w : Wd) (W : WX) (m : SM) : TS := fun Dn σ H => ∃ ρ E s, RS w ρ H s ∧ RE w ρ s.length H σ E ∧ SQ w W ρ s.length H (m E s) Dn
abbrev MS (X : Cx) (W : WX) (st : Stmt) (m : SM) : Prop := PS X st (tS (wd X) W m)
abbrev MB (X : Cx) (W : WX) (sts : List Stmt) (m : SM) : Prop := PSs X sts (tS (wd X) W m)
def sErr : SM := fun _ _ => .err
theorem tS_err {w : Wd} {W : WX} {Dn : Ends} {σ : St} {H : Hp} (h : tS w W sErr Dn σ H) : False := by obtain ⟨_, _, _, _, _, h⟩ := h; exact h
theorem SQ.lat {w : Wd} {W : WX} {ρ ρ1 : Nat → Addr} {n n1 : Nat} {H H1 : Hp} {r : SR} {Dn : Ends} (h : SQ w W ρ n H r Dn) (L : Lat ρ n H ρ1 n1 H1) : SQ w W ρ1 n1 H1 r Dn := by
  cases r with
  | nx E' s' => exact fun ρ' σ' H' L' a b => h ρ' σ' H' (L.trans L') a b
  | bk E' s' => exact fun ρ' σ' H' L' a b => h ρ' σ' H' (L.trans L') a b
  | ct E' s' => exact fun ρ' σ' H' L' a b => h ρ' σ' H' (L.trans L') a b
  | rt d s' => exact fun ρ' H' v L' a b => h ρ' H' v (L.trans L') a b
  | exc x E' s' => exact fun ρ' σ' H' c L' a b e => h ρ' σ' H' c (L.trans L') a b e
  | err => exact h
def exprS {α : Type} (m : EM α) (k : α → SM) : SM := fun E s => match m E s with
  | .ok a s1 => k a E s1
  | .exc x s1 => .exc x E s1
  | .err => .err
theorem tS.ex {α β : Type} {w : Wd} {R : Rl α β} {W : WX} {m : EM α} {k : α → SM} {Dn : Ends} {σ : St} {H : Hp} (h : tS w W (exprS m k) Dn σ H) :
    tM w R W m σ H fun b H1 => ∃ ρ1 E s1 a, RS w ρ1 H1 s1 ∧ RE w ρ1 s1.length H1 σ E ∧ R ρ1 s1.length H1 b a ∧ SQ w W ρ1 s1.length H1 (k a E s1) Dn := by
  obtain ⟨ρ, E, s, hs, he, h⟩ := h
  refine ⟨ρ, E, s, hs, he, ?_⟩
  unfold exprS at h
  cases q : m E s with
  | ok a s1 =>
    rw [q] at h
    exact fun ρ' H' b L hs' hr => ⟨ρ', E, s1, a, hs', he.lat L, hr, h.lat L⟩
  | exc x s1 =>
    rw [q] at h
    exact fun ρ' H' c L hs' hc => h ρ' σ H' c L hs' (he.lat L) hc
  | err => rw [q] at h; exact h
/-- the same for a fresh list -/
theorem tS.exF {w : Wd} {W : WX} {m : EM (List D)} {k : D → SM} {Dn : Ends} {σ : St} {H : Hp} (h : tS w W (exprS (eAlloc m) k) Dn σ H) :
    tF w W m σ H fun b H1 => ∃ ρ1 E s1 d, RS w ρ1 H1 s1 ∧ RE w ρ1 s1.length H1 σ E ∧ Rp w ρ1 s1.length H1 b d ∧ SQ w W ρ1 s1.length H1 (k d E s1) Dn := by
  obtain ⟨ρ, E, s, hs, he, h⟩ := h
  refine ⟨ρ, E, s, hs, he, ?_⟩
  unfold exprS eAlloc at h
  cases q : m E s with
  | ok ds s' =>
    rw [q] at h
    simp only [Res.bind_ok] at h
    intro ρ' H' a vs L hs' h0 hn e r
    have hl : (s' ++ [O.lst ds]).length = s'.length + 1 := by simp
    have L2 : Lat ρ s.length H (ext ρ' s'.length a) (s' ++ [O.lst ds]).length H' := by
      rw [hl]
      refine ⟨Nat.le_succ_of_le L.le, fun k hk => by rw [ext_lt (Nat.lt_of_lt_of_le hk L.le)]; exact L.agree k hk, L.keep, L.froz, L.dom, fun k h1 h2 => ?_⟩
      by_cases hk : k < s'.length
      · rw [ext_lt hk]; exact L.new k h1 hk
      · have : k = s'.length := by omega
        rw [this, ext_eq]; exact h0
    refine ⟨ext ρ' s'.length a, E, s' ++ [O.lst ds], .loc s'.length, hs'.adopt hn e ⟨vs, rfl, r⟩, he.lat L2, ?_, h.lat L2⟩
    unfold Rp
    exact ⟨by rw [hl]; exact Nat.lt_succ_self _, by rw [ext_eq]⟩
  | exc x s1 =>
    rw [q] at h
    exact fun ρ' H' c L hs' hc => h ρ' σ H' c L hs' (he.lat L) hc
  | err => rw [q] at h; exact h

section
variable {X : Cx} {W : WX}
theorem ms_err {st : Stmt} : MS X W st sErr := ⟨fun _ _ _ _ _ _ h => (tS_err h).elim⟩
theorem mb_err {st : List Stmt} : MB X W st sErr := ⟨fun _ _ _ _ _ _ h => (tS_err h).elim⟩
def sNil : SM := fun E s => .nx E s
def sCons (a b : SM) : SM := fun E s => match a E s with
  | .nx E1 s1 => b E1 s1
  | r => r
theorem mb_nil : MB X W [] sNil := by
  refine PSs.imp pss_nil ?_
  rintro Dn σ H ⟨ρ, E, s, hs, he, h⟩
  exact h ρ σ H Lat.refl hs he
theorem mb_cons {st : Stmt} {sts : List Stmt} {a b : SM} (h1 : MS X W st a) (h2 : MB X W sts b) : MB X W (st :: sts) (sCons a b) := by
  refine PSs.imp (pss_cons h1 h2) ?_
  rintro Dn σ H ⟨ρ, E, s, hs, he, h⟩
  refine ⟨ρ, E, s, hs, he, ?_⟩
  unfold sCons at h
  cases q : a E s with
  | nx E1 s1 =>
    rw [q] at h
    exact fun ρ' σ' H' L hs' he' => ⟨ρ', E1, s1, hs', he', h.lat L⟩
  | rt d s1 => rw [q] at h; exact h
  | bk E1 s1 => rw [q] at h; exact h
  | ct E1 s1 => rw [q] at h; exact h
  | exc x E1 s1 => rw [q] at h; exact h
  | err => rw [q] at h; exact h
variable {pos : Pos} {e : Expr} {m : EM D}
theorem ms_pass : MS X W (.Pass pos) sNil := by
  refine PS.imp ps_pass ?_
  rintro Dn σ H ⟨ρ, E, s, hs, he, h⟩
  exact h ρ σ H Lat.refl hs he
def sBreak : SM := fun E s => .bk E s
def sCont : SM := fun E s => .ct E s
theorem ms_break : MS X W (.Break pos) sBreak := by
  refine PS.imp ps_break ?_
  rintro Dn σ H ⟨ρ, E, s, hs, he, h⟩
  exact h ρ σ H Lat.refl hs he
theorem ms_cont : MS X W (.Continue pos) sCont := by
  refine PS.imp ps_continue ?_
  rintro Dn σ H ⟨ρ, E, s, hs, he, h⟩
  exact h ρ σ H Lat.refl hs he
def sRet (m : EM D) : SM := exprS m fun d _ s => .rt d s
theorem ms_ret (he : ME X W e m) : MS X W (.Return (some e) pos) (sRet m) := by
  refine PS.imp (ps_ret he) fun Dn σ H h => ?_
  obtain ⟨ρ, E, s, hs, he, h⟩ := tS.ex (R := Rp (wd X)) h
  refine ⟨ρ, E, s, hs, he, RQ.mono h ?_⟩
  rintro v H1 ⟨ρ1, E1, s1, d, hs1, he1, r, q⟩
  exact q ρ1 H1 v Lat.refl hs1 r
def sRetN : SM := fun _ s => .rt .non s
theorem ms_retN : MS X W (.Return none pos) sRetN := by
  refine PS.imp ps_retN ?_
  rintro Dn σ H ⟨ρ, E, s, hs, he, h⟩
  exact h ρ H _ Lat.refl hs Rp.non
def sExpr (m : EM D) : SM := exprS m fun _ E s => .nx E s
theorem ms_expr (he : ME X W e m) (hs : swapsWith e none pos.line X.env = pure false) : MS X W (.Expr e pos) (sExpr m) := by
  refine PS.imp (ps_expr he hs) fun Dn σ H h => ?_
  obtain ⟨ρ, E, s, hs, he, h⟩ := tS.ex (R := Rp (wd X)) h
  refine ⟨ρ, E, s, hs, he, RQ.mono h ?_⟩
  rintro v H1 ⟨ρ1, E1, s1, d, hs1, he1, r, q⟩
  exact q ρ1 σ H1 Lat.refl hs1 he1
def sIf (c : EM Bool) (a b : SM) : SM := exprS c fun k E s => if k = true then a E s else b E s
theorem ms_if {c : Expr} {mc : EM Bool} {xs ys : List Stmt} {a b : SM} (hc : MT X W c mc) (ha : MB X W xs a) (hb : MB X W ys b) : MS X W (.If c xs ys pos) (sIf mc a b) := by
  refine PS.imp (ps_if hc ha hb) fun Dn σ H h => ?_
  obtain ⟨ρ, E, s, hs, he, h⟩ := tS.ex (R := RB) h
  refine ⟨ρ, E, s, hs, he, RQ.mono h ?_⟩
  rintro k H1 ⟨ρ1, E1, s1, k', hs1, he1, r, q⟩
  cases r
  cases k with
  | true => exact ⟨ρ1, E1, s1, hs1, he1, q⟩
  | false => exact ⟨ρ1, E1, s1, hs1, he1, q⟩
def sSet (i : Nat) (m : EM D) : SM := exprS m fun d E s => .nx (E.set i (some d)) s
theorem ms_set {i : Nat} {x : Str} {pos' : Pos} (hN : X.N.Nodup) (hi : X.N[i]? = some x) (hx : Loc X.env.scope x) (he : ME X W e m) (hs : swapsWith e (some (.Name x pos')) pos.line X.env = pure false) (hf : X.fn x = true ∨ X.env.scope.names.lookup x = some .local) : MS X W (.Assign [.Name x pos'] e pos) (sSet i m) := by
  refine PS.imp (ps_set hN hi hx he hs hf) fun Dn σ H h => ?_
  obtain ⟨ρ, E, s, hs, he, h⟩ := tS.ex (R := Rp (wd X)) h
  refine ⟨ρ, E, s, hs, he, RQ.mono h ?_⟩
  rintro v H1 ⟨ρ1, E1, s1, d, hs1, he1, r, q⟩
  exact q ρ1 _ H1 Lat.refl hs1 (he1.set i r)
def sAsg (g : GM) (m : EM D) : SM := exprS m fun d E s => match g d E s with
  | .ok E' s' => .nx E' s'
  | _ => .err
theorem ms_asg {tg : Expr} {g : GM} {sl : List Nat} (he : ME X W e m) (hg : MG X tg sl g) (hs : swapsWithSole [tg] e pos.line X.env = pure false) (hw : swappedStores [tg] e X.env = pure none)
    (h1 : (assignEach [tg] X.env).map (·.2) = [assign tg X.env]) : MS X W (.Assign [tg] e pos) (sAsg g m) := by
  refine PS.imp (ps_asg he hg hs hw h1) fun Dn σ H h => ?_
  obtain ⟨ρ, E, s, hs, he, h⟩ := tS.ex (R := Rp (wd X)) h
  refine ⟨ρ, E, s, hs, he, RQ.mono h ?_⟩
  rintro v H1 ⟨ρ1, E1, s1, d, hs1, he1, r, q⟩
  refine ⟨ρ1, E1, s1, d, hs1, he1, r, ?_⟩
  cases z : g d E1 s1 with
  | ok E' s' => rw [z] at q; exact fun ρ' σ' H' L a b _ => q ρ' σ' H' L a b
  | exc x s' => rw [z] at q; exact q.elim
  | err => rw [z] at q; exact q.elim
/-- x op= e, by values -/
def pInp : Operator → P2
  | .Add => fun x y s => match x, y with
    | .int i, .int j => some (.int (i + j), s)
    | .str a, .str b => if a.length + b.length ≤ sizeLine then some (.str (a ++ b), s) else none
    | _, _ => none
  | .Sub => pSub
  | .FloorDiv => pDiv
  | .Mult => fun x y s => match x, y with
    | .int i, .int j => if fitI i = true ∨ fitI j = true then some (.int (i * j), s) else none
    | _, _ => none
  | .Mod => pMod
  | _ => p2None
theorem op_inp (op : Operator) : OpM X (inplaceOp op) (pInp op) := by
  cases op with
  | Add =>
    rintro pins s σ H x y v u Q I rx ry ⟨ρ, st, dx, dy, hs, hx, hy, q⟩
    simp only [pInp] at q
    split at q
    · exact iop_add pins s σ H x y v u Q I rx ry ⟨_, _, hx.int_, hy.int_, q.val hs (Rp.int _)⟩
    · split at q
      · rename_i hl
        exact iop_add_str pins s σ H x y v u Q I rx ry ⟨_, _, hx.str_, hy.str_, hl, q.val hs (Rp.str _)⟩
      · exact q.elim
    · exact q.elim
  | Sub =>
    refine op_int (C := fun _ _ => True) (g := fun i j => i - j) (fun pins s σ H x y v u Q I rx ry ⟨i, j, a, b, _, q⟩ => iop_sub pins s σ H x y v u Q I rx ry ⟨i, j, a, b, q⟩) fun dx dy s r e => ?_
    have e : pSub dx dy s = some r := e
    unfold pSub at e
    split at e
    · cases e; exact ⟨_, _, rfl, rfl, trivial, rfl⟩
    · cases e
  | Mult =>
    refine op_int (C := fun i j => (-(2 ^ 64) < i ∧ i < 2 ^ 64) ∨ (-(2 ^ 64) < j ∧ j < 2 ^ 64)) (g := fun i j => i * j) iop_mul fun dx dy s r e => ?_
    simp only [pInp] at e
    split at e
    · split at e
      · rename_i hc; cases e; exact ⟨_, _, rfl, rfl, hc.imp fitI_64 fitI_64, rfl⟩
      · cases e
    · cases e
  | FloorDiv =>
    refine op_int (C := fun i j => 0 < j ∧ j.natAbs.log2 < 9000) (g := fun i j => i / j) iop_fdivW fun dx dy s r e => ?_
    have e : pDiv dx dy s = some r := e
    unfold pDiv at e
    split at e
    · split at e
      · cases e; exact ⟨_, _, rfl, rfl, by assumption, rfl⟩
      · cases e
    · cases e
  | Mod =>
    refine op_int (C := fun i j => 0 < j) (g := fun i j => i % j) iop_mod fun dx dy s r e => ?_
    have e : pMod dx dy s = some r := e
    unfold pMod at e
    split at e
    · split at e
      · cases e; exact ⟨_, _, rfl, rfl, by assumption, rfl⟩
      · cases e
    · cases e
  | _ => exact op_none
def sAug (i : Nat) (op : Operator) (m : EM D) : SM := fun E s => match E[i]? with
  | some (some x) => exprS (fun E s => (m E s).bind fun y s1 => Res.ofO (pInp op x y s1)) (fun d E s => .nx (E.set i (some d)) s) E s
  | _ => .err
theorem ms_aug {i : Nat} {x : Str} {op : Operator} {pos' : Pos} (hN : X.N.Nodup) (hi : X.N[i]? = some x) (hx : Loc X.env.scope x) (he : ME X W e m) (hf : X.fn x = true ∨ X.env.scope.names.lookup x = some .local) : MS X W (.AugAssign (.Name x pos') op e pos) (sAug i op m) := by
  refine PS.imp (ps_aug (ti := r2 (wd X) (pInp op)) hN hi hx he (op_inp op) hf) fun Dn σ H h => ?_
  obtain ⟨ρ, E, s, hs, he, h⟩ := h
  unfold sAug at h
  split at h
  · rename_i dx ex
    obtain ⟨v, hv, rv⟩ := he.val _ _ ex
    refine ⟨v, hv, ρ, E, s, hs, he, ?_⟩
    unfold exprS at h
    cases q : m E s with
    | ok dy s1 =>
      simp only [q, Res.bind_ok] at h
      intro ρ1 H1 y L1 hs1 ry
      refine ⟨ρ1, s1, dx, dy, hs1, Rp.lat L1 _ rv, ry, ?_⟩
      cases z : pInp op dx dy s1 with
      | none => rw [z] at h; exact h.elim
      | some p =>
        obtain ⟨d, s2⟩ := p
        rw [z] at h
        intro ρ2 H2 zv L2 hs2 rz
        have L12 := L1.trans L2
        exact h ρ2 _ H2 L12 hs2 ((he.lat L12).set i rz)
    | exc y s1 =>
      simp only [q, Res.bind_exc] at h
      exact fun ρ' H' c L hs' hc => h ρ' σ H' c L hs' (he.lat L) hc
    | err => simp only [q, Res.bind_err] at h; exact h.elim
  · exact h.elim
/-- while -/
def whileL (c : EM Bool) (b : SM) : Nat → SM
  | 0, _, _ => .err
  | n + 1, E, s => match c E s with
    | .ok true s1 => match b E s1 with
      | .nx E2 s2 => whileL c b n E2 s2
      | .ct E2 s2 => whileL c b n E2 s2
      | .bk E2 s2 => .nx E2 s2
      | r => r
    | .ok false s1 => .nx E s1
    | .exc x s1 => .exc x E s1
    | .err => .err
def fuelMax : Nat := 1000000000
def sWhile (c : EM Bool) (b : SM) : SM := whileL c b fuelMax
theorem ms_while {c : Expr} {body : List Stmt} {mc : EM Bool} {b : SM} (hp : PassesOwn (model X.prog X.w) X.A X.env X.xe) (hc : MT X W c mc) (hb : MB X W body b) : MS X W (.While c body [] pos) (sWhile mc b) := by
  refine PS.imp (ps_while hp hc hb) ?_
  rintro Dn σ H ⟨ρ, E, s, hs, he, h⟩
  refine ⟨fun m σ H => ∃ ρ E s, RS (wd X) ρ H s ∧ RE (wd X) ρ s.length H σ E ∧ SQ (wd X) W ρ s.length H (whileL mc b m E s) Dn, ⟨fuelMax, ρ, E, s, hs, he, h⟩, ?_⟩
  rintro m σ H ⟨ρ, E, s, hs, he, h⟩
  cases m with
  | zero => exact h.elim
  | succ m =>
    refine ⟨ρ, E, s, hs, he, ?_⟩
    simp only [whileL] at h
    cases q : mc E s with
    | ok k s1 =>
      rw [q] at h
      intro ρ1 H1 k' L1 hs1 ek
      cases ek
      cases k with
      | false => exact SQ.lat h L1 ρ1 σ H1 Lat.refl hs1 (he.lat L1)
      | true =>
        refine ⟨fun σ' H' => ∃ ρ E s, RS (wd X) ρ H' s ∧ RE (wd X) ρ s.length H' σ' E ∧ SQ (wd X) W ρ s.length H' (whileL mc b m E s) Dn, fun σ' H' z => ⟨m, Nat.lt_succ_self m, z⟩, ρ1, E, s1, hs1, he.lat L1, ?_⟩
        have h := SQ.lat h L1
        cases q2 : b E s1 with
        | nx E2 s2 => simp only [q2] at h; exact fun ρ' σ' H' L hs' he' => ⟨ρ', E2, s2, hs', he', h.lat L⟩
        | ct E2 s2 => simp only [q2] at h; exact fun ρ' σ' H' L hs' he' => ⟨ρ', E2, s2, hs', he', h.lat L⟩
        | bk E2 s2 => simp only [q2] at h; exact h
        | rt d s2 => simp only [q2] at h; exact h
        | exc x E2 s2 => simp only [q2] at h; exact h
        | err => simp only [q2] at h; exact h
    | exc x s1 =>
      rw [q] at h
      exact fun ρ' H' c L hs' hc => h ρ' σ H' c L hs' (he.lat L) hc
    | err => rw [q] at h; exact h.elim

/-! ### what is walked -/
inductive Src where
  | fix (ds : List D)
  | lst (k : Nat)
def Src.at (src : Src) (i : Nat) (s : Sto) : Option (Option D) := match src with
  | .fix ds => some ds[i]?
  | .lst k => match s[k]? with
    | some (.lst xs) => some xs[i]?
    | _ => none
def RJ (w : Wd) : Rl Src It := fun ρ n H J src => ∀ i ρ1 H1 s1, Lat ρ n H ρ1 s1.length H1 → RS w ρ1 H1 s1 → match src.at i s1 with
  | some none => J.stop i H1
  | some (some d) => J.go i H1 ∧ ∀ x H2, J.yld i H1 x H2 → Lat ρ1 s1.length H1 ρ1 s1.length H2 ∧ RS w ρ1 H2 s1 ∧ Rp w ρ1 s1.length H2 x d
  | none => True
abbrev MI (X : Cx) (W : WX) (tg iter : Expr) (m : EM Src) : Prop := PI X tg iter (tM (wd X) (RJ (wd X)) W m)
theorem PI.imp {X : Cx} {tg iter : Expr} {t t' : TI} (h : PI X tg iter t) (hi : ∀ σ H R, t' σ H R → t σ H R) : PI X tg iter t' := ⟨fun pins s σ H R I q => h.run pins s σ H R I (hi _ _ _ q)⟩
def iErr : EM Src := fun _ _ => .err
theorem mi_err {tg iter : Expr} : MI X W tg iter iErr := ⟨fun _ _ _ _ _ _ h => by obtain ⟨_, _, _, _, _, h⟩ := h; exact h.elim⟩
def turnL (g : GM) (b : SM) (d : D) (k : SM) : SM := fun E s => match g d E s with
  | .ok E1 s1 => match b E1 s1 with
    | .nx E2 s2 => k E2 s2
    | .ct E2 s2 => k E2 s2
    | .bk E2 s2 => .nx E2 s2
    | r => r
  | _ => .err
def forL (g : GM) (b : SM) : List D → SM
  | [] => fun E s => .nx E s
  | d :: ds => turnL g b d (forL g b ds)
def forK (g : GM) (b : SM) (k : Nat) : Nat → Nat → SM
  | 0, _ => fun _ _ => .err
  | n + 1, i => fun E s => match s[k]? with
    | some (.lst xs) => match xs[i]? with
      | some d => turnL g b d (forK g b k n (i + 1)) E s
      | none => .nx E s
    | _ => .err
def forS (g : GM) (b : SM) (src : Src) : SM := match src with
  | .fix ds => forL g b ds
  | .lst k => forK g b k fuelMax 0
def sFor (it : EM Src) (g : GM) (b : SM) : SM := exprS it (forS g b)
/-- one turn -/
theorem turn_run {w : Wd} {g : GM} {b : SM} {sl : List Nat} {d : D} {k : SM} {Dn : Ends} {ρ ρ0 : Nat → Addr} {n0 : Nat} {H H0 : Hp} {σ : St} {E : Ev} {s : Sto} {x : V} {Nn : St → Hp → Prop} (hs : RS w ρ H s) (he : RE w ρ s.length H σ E) (rd : Rp w ρ s.length H x d)
    (L0 : Lat ρ0 n0 H0 ρ s.length H) (h : SQ w W ρ s.length H (turnL g b d k E s) Dn)
    (hN : ∀ ρ' σ' H' E' s', Lat ρ0 n0 H0 ρ' s'.length H' → RS w ρ' H' s' → RE w ρ' s'.length H' σ' E' → SQ w W ρ' s'.length H' (k E' s') Dn → Nn σ' H') :
    tG w sl g x σ H fun σ2 H2 => tS w W b { Dn with nx := Nn, ct := Nn, bk := Dn.nx } σ2 H2 := by
  refine ⟨ρ, E, s, d, hs, he, rd, ?_⟩
  unfold turnL at h
  cases q : g d E s with
  | ok E1 s1 =>
    rw [q] at h
    intro ρ1 σ1 H1 L1 hs1 he1 _
    refine ⟨ρ1, E1, s1, hs1, he1, ?_⟩
    have h := SQ.lat h L1
    cases q2 : b E1 s1 with
    | nx E2 s2 => simp only [q2] at h; exact fun ρ' σ' H' L hs' he' => hN ρ' σ' H' E2 s2 ((L0.trans L1).trans L) hs' he' (h.lat L)
    | ct E2 s2 => simp only [q2] at h; exact fun ρ' σ' H' L hs' he' => hN ρ' σ' H' E2 s2 ((L0.trans L1).trans L) hs' he' (h.lat L)
    | bk E2 s2 => simp only [q2] at h; exact h
    | rt d' s2 => simp only [q2] at h; exact h
    | exc y E2 s2 => simp only [q2] at h; exact h
    | err => simp only [q2] at h; exact h
  | exc y s1 => rw [q] at h; exact h.elim
  | err => rw [q] at h; exact h.elim
theorem ms_for {tg iter : Expr} {body : List Stmt} {it : EM Src} {g : GM} {sl : List Nat} {b : SM} (hp : PassesOwn (model X.prog X.w) X.A X.env X.xe) (hc : X.calm = true) (hi : MI X W tg iter it) (hg : MG X tg sl g) (hb : MB X W body b)
    (hs : ∀ x, foldedSetIterable iter X.env x = pure x) : MS X W (.For tg iter body [] pos) (sFor it g b) := by
  refine PS.imp (ps_for hp hc hi hg hb hs) fun Dn σ H h => ?_
  obtain ⟨ρ, E, s, hs, he, h⟩ := tS.ex (R := RJ (wd X)) h
  refine ⟨ρ, E, s, hs, he, RQ.mono h ?_⟩
  rintro J H0 ⟨ρ0, E0, s0, src, hs0, he0, rj, q⟩
  cases src with
  | fix ds =>
    refine ⟨fun i m σ H => i ≤ ds.length ∧ m = ds.length - i ∧ ∃ ρ E s, Lat ρ0 s0.length H0 ρ s.length H ∧ RS (wd X) ρ H s ∧ RE (wd X) ρ s.length H σ E ∧ SQ (wd X) W ρ s.length H (forL g b (ds.drop i) E s) Dn, ⟨ds.length, Nat.zero_le _, rfl, ρ0, E0, s0, Lat.refl, hs0, he0, q⟩, ?_⟩
    rintro i m σ H ⟨hi, rfl, ρ, E, s, L, hs, he, h⟩
    have rji := rj i ρ H s L hs
    simp only [Src.at] at rji
    by_cases hlt : i < ds.length
    · rw [List.getElem?_eq_getElem hlt] at rji
      obtain ⟨go, yl⟩ := rji
      refine .inr ⟨go, fun σ' H' => ∃ ρ E s, Lat ρ0 s0.length H0 ρ s.length H' ∧ RS (wd X) ρ H' s ∧ RE (wd X) ρ s.length H' σ' E ∧ SQ (wd X) W ρ s.length H' (forL g b (ds.drop (i + 1)) E s) Dn, fun σ' H' z => ⟨ds.length - (i + 1), by omega, hlt, rfl, z⟩, fun x H' y => ?_⟩
      obtain ⟨L1, hs1, rx⟩ := yl x H' y
      rw [List.drop_eq_getElem_cons hlt] at h
      exact turn_run hs1 (he.lat L1) rx (L.trans L1) (SQ.lat h L1) fun ρ' σ' H' E' s' a b c d => ⟨ρ', E', s', a, b, c, d⟩
    · rw [List.getElem?_eq_none (by omega)] at rji
      rw [List.drop_eq_nil_of_le (by omega)] at h
      exact .inl ⟨rji, h ρ σ H Lat.refl hs he⟩
  | lst k =>
    refine ⟨fun i m σ H => ∃ ρ E s, Lat ρ0 s0.length H0 ρ s.length H ∧ RS (wd X) ρ H s ∧ RE (wd X) ρ s.length H σ E ∧ SQ (wd X) W ρ s.length H (forK g b k m i E s) Dn, ⟨fuelMax, ρ0, E0, s0, Lat.refl, hs0, he0, q⟩, ?_⟩
    rintro i m σ H ⟨ρ, E, s, L, hs, he, h⟩
    cases m with
    | zero => exact h.elim
    | succ m =>
      have rji := rj i ρ H s L hs
      simp only [Src.at] at rji
      simp only [forK] at h
      split at h
      · rename_i xs e0
        rw [e0] at rji
        simp only at rji
        split at h
        · rename_i d ed
          rw [ed] at rji
          obtain ⟨go, yl⟩ := rji
          refine .inr ⟨go, fun σ' H' => ∃ ρ E s, Lat ρ0 s0.length H0 ρ s.length H' ∧ RS (wd X) ρ H' s ∧ RE (wd X) ρ s.length H' σ' E ∧ SQ (wd X) W ρ s.length H' (forK g b k m (i + 1) E s) Dn, fun σ' H' z => ⟨m, Nat.lt_succ_self m, z⟩, fun x H' y => ?_⟩
          obtain ⟨L1, hs1, rx⟩ := yl x H' y
          exact turn_run hs1 (he.lat L1) rx (L.trans L1) (SQ.lat h L1) fun ρ' σ' H' E' s' a b c d => ⟨ρ', E', s', a, b, c, d⟩
        · rename_i ed
          rw [ed] at rji
          exact .inl ⟨rji, h ρ σ H Lat.refl hs he⟩
      · exact h.elim
end
/-! ### raise, try -/
/-- what is known of two exception classes: the first is within the second, or not -/
def SubOk (K : PySem.W.Frag) (mg : Str → Option Value) (x y : Str) (b : Bool) : Prop :=
  ∃ Cx Cy : Addr, mg x = some (.ref Cx) ∧ mg y = some (.ref Cy) ∧ PySem.W.exmOne K (.ref Cx) (.ref Cy) = some b ∧ PySem.W.kitOne K (.ref Cx) (.ref Cy) = some b ∧ ExcC K Cx
/-- what is known of an own exception class over ValueError without own __init__ -/
def ExOk (K : PySem.W.Frag) (mg : Str → Option Value) (x : Str) : Prop :=
  ∃ C : Addr, mg x = some (.ref C) ∧ PySem.W.excIn K C [.type "ValueError", .type "Exception", .type "BaseException", .type "object"] "ValueError.__new__" = true ∧ PySem.W.keepIn K (.ref C) = true ∧ PySem.W.subIn K (.ref C) (.type "BaseException") = some true ∧ PySem.W.typeIn K (.ref C) = some (.type "type")
def sRaise (x : Str) : SM := fun E s => .exc x E s
def sTryI (i : Nat) (b : SM) (y z : Str) (sub : Str → Str → Option Bool) : SM := fun E s => match b E s with
  | .exc x E' s' => match sub x y with
    | some true => match sub x z with
      | some r => if i < E'.length then .rt (.bl r) s' else .err
      | none => .err
    | some false => .exc x E' s'
    | none => .err
  | r => r
section
variable {X : Cx} {W : WX}
theorem ms_raise (hc : X.calm = true) (tk : Takes X W) {x m : Str} {j : Nat} {p p2 pos pos2 : Pos} (h : ExOk X.K X.mg x) (hg : Gl X x) (hdb : (x == ("__debug__" : Str)) = false) :
    MS X W (.Raise (some (.Call (.Name x p) [.Constant (.str m) j p2] [] pos)) none pos2) (sRaise x) := by
  obtain ⟨C, gC, q, kC, h1, h2⟩ := h
  refine PS.imp (ps_raise hc tk (pmk_own PySem.F.excBase_ValueError q gC kC (raises_own h1 h2) hg hdb)) fun Dn σ H h => ?_
  obtain ⟨ρ, E, s, hs, he, h⟩ := h
  exact h ρ σ H _ Lat.refl hs he gC
theorem ms_tryI {y n z : Str} {i : Nat} {body : List Stmt} {bM : SM} {sub : Str → Str → Option Bool} {np p1 p2 p3 p4 p5 pos pos' : Pos}
    (hs : X.stack = X.env :: X.outer) (hf : X.env.frame = some X.env.locals) (hN : X.N.Nodup) (hi : X.N[i]? = some n) (hln : X.env.kindOf n = some .local) (hvis : Vis X.env.scope n) (tk : Takes X W)
    (hgy : Gl X y) (hdy : (y == ("__debug__" : Str)) = false) (hgz : Gl X z) (hdz : (z == ("__debug__" : Str)) = false) (hdn : (n == ("__debug__" : Str)) = false) (hcn : (n == ("__classdict__" : Str)) = false)
    (hgi : Gl X "isinstance") (hmi : X.mg "isinstance" = none) (hmy : ∃ Cy, X.mg y = some (.ref Cy)) (hsub : ∀ x y b, sub x y = some b → SubOk X.K X.mg x y b)
    (hb : ∀ (W : WX) (pn : List (Addr × Obj)) (xe : Value → Shared → Prop), Takes (X.tr pn xe) W → PassesOwn (model X.prog X.w) X.A X.env xe → MB (X.tr pn xe) W body bM) :
    MS X W (.Try body [.ExceptHandler (some (.Name y np)) (some n) [.Return (some (.Call (.Name "isinstance" p1) [.Name n p2, .Name z p3] [] p4)) p5] pos'] [] [] pos) (sTryI i bM y z sub) := by
  obtain ⟨Cy, gy⟩ := hmy
  refine PS.imp (ps_try_as (i := i) (tb := fun W => tS (wd X) W bM)
    (ts := fun a cls d D σ H => ∃ (C Cz : Addr) (r : Bool), cls = .ref C ∧ d = none ∧ ExcC X.K C ∧ X.mg z = some (.ref Cz) ∧ PySem.W.kitOne X.K (.ref C) (.ref Cz) = some r ∧ σ[i]? = some (some (.ref a)) ∧ D.rt (.bl r) H)
    hs hf hN hi hln ⟨hgy, hdy, .inl gy⟩ tk hb (fun a oe cls d pn hz hf' => ⟨fun pins s σ H D I h => ?_⟩)) fun Dn σ H h => ?_
  · obtain ⟨C, Cz, r, rfl, rfl, EC, gz, hk, hσ, q⟩ := h
    have hp : PA (X.suite a ((a, oe) :: pn)) [.Name n p2, .Name z p3] (tCons (tVar i) (tCons (tC (.ref Cz)) tNil)) :=
      pa_cons (pe_var (X := X.suite a ((a, oe) :: pn)) hi hvis hdn hcn) (pa_cons (pe_glob (X := X.suite a ((a, oe) :: pn)) (v := .ref Cz) hgz gz rfl hdz) pa_nil)
    refine (pss_one (ps_ret (pe_callB (call_isE EC hz hf') hgi hmi (by decide +kernel) hp))).run pins s σ H D I ?_
    exact ⟨.ref a, hσ, .ref Cz, .ref Cz, r, rfl, fun u h => h, hk, q⟩
  · obtain ⟨ρ, E, s, hs', he, h⟩ := h
    refine ⟨ρ, E, s, hs', he, ?_⟩
    unfold sTryI at h
    cases q : bM E s with
    | exc x E' s' =>
      rw [q] at h
      simp only at h
      intro ρ' σ' H' c L a e hc
      cases e1 : sub x y with
      | none => rw [e1] at h; exact h.elim
      | some b =>
        rw [e1] at h
        obtain ⟨Cx, Cy', gx, gy', hex, _, _⟩ := hsub x y b e1
        have ec : Value.ref Cx = c := Option.some.inj (gx.symm.trans hc)
        have ey : Value.ref Cy' = Value.ref Cy := Option.some.inj (gy'.symm.trans gy)
        subst ec
        rw [ey] at hex
        refine ⟨b, hex, fun hb a' ha => ?_, fun hb => ?_⟩
        · subst hb
          simp only at h
          cases e2 : sub x z with
          | none => rw [e2] at h; exact h.elim
          | some r =>
            rw [e2] at h
            simp only at h
            split at h
            · rename_i hil
              obtain ⟨Cx2, Cz, gx2, gz, _, hk, EC⟩ := hsub x z r e2
              have e3 : Value.ref Cx2 = Value.ref Cx := Option.some.inj (gx2.symm.trans gx)
              have e4 : Cx2 = Cx := by injection e3
              subst e4
              exact ⟨Cx2, Cz, r, rfl, rfl, EC, gz, hk, List.getElem?_set_self (by rw [e.len]; exact hil), h ρ' H' (.bl r) L a (Rp.bl r)⟩
            · exact h.elim
        · subst hb
          simp only at h
          exact h ρ' σ' H' _ L a e hc
    | nx E' s' => rw [q] at h; exact h
    | rt d s' => rw [q] at h; exact h
    | bk E' s' => rw [q] at h; exact h
    | ct E' s' => rw [q] at h; exact h
    | err => rw [q] at h; exact h
end
end Y

set_option Elab.async false
set_option linter.all false
set_option maxRecDepth 100000
/-! Yc: instances: fields read and written. -/
namespace Y
open PySem L2
def FldOk (K : PySem.W.Frag) (mg : Str → Option Value) (c f : Str) : Prop := ∃ C, mg c = some (.ref C) ∧ Cls K C ∧ NoAttr K C f
def putD (f : Str) (v : D) : List (Str × D) → List (Str × D)
  | [] => [(f, v)]
  | (g, x) :: r => if g = f then (g, v) :: r else (g, x) :: putD f v r
section
variable {w : Wd} {ρ : Nat → Addr} {n : Nat} {H : Hp}
theorem RpA.lookup : ∀ {vs : List (Str × V)} {fs : List (Str × D)} {f : Str} {d : D}, RpA w ρ n H vs fs → List.lookup f fs = some d → ∃ v, List.lookup f vs = some v ∧ Rp w ρ n H v d
  | vs, [], f, d, _, h => by cases h
  | vs, (k, e) :: fs, f, d, r, h => by
    unfold RpA at r
    obtain ⟨v, r', rfl, h1, h2⟩ := r
    rw [List.lookup_cons] at h ⊢
    split at h
    · cases h; exact ⟨v, rfl, h1⟩
    · exact RpA.lookup h2 h
theorem RpA.none : ∀ {vs : List (Str × V)} {fs : List (Str × D)} {f : Str}, RpA w ρ n H vs fs → List.lookup f fs = none → List.lookup f vs = none
  | vs, [], f, r, _ => by unfold RpA at r; rw [r]; rfl
  | vs, (k, e) :: fs, f, r, h => by
    unfold RpA at r
    obtain ⟨v, r', rfl, h1, h2⟩ := r
    rw [List.lookup_cons] at h ⊢
    split at h
    · cases h
    · exact RpA.none h2 h
theorem RpA.putD {f : Str} {v : V} {d : D} (rv : Rp w ρ n H v d) : ∀ {vs : List (Str × V)} {fs : List (Str × D)}, RpA w ρ n H vs fs → RpA w ρ n H (putF f v vs) (putD f d fs)
  | vs, [], r => by
    unfold RpA at r; rw [r]
    unfold RpA
    exact ⟨v, [], rfl, rv, by unfold RpA; rfl⟩
  | vs, (k, e) :: fs, r => by
    unfold RpA at r
    obtain ⟨v', r', rfl, h1, h2⟩ := r
    unfold L2.putF Y.putD
    by_cases hk : k = f
    · rw [if_pos hk, if_pos hk]; unfold RpA; exact ⟨v, r', rfl, rv, h2⟩
    · rw [if_neg hk, if_neg hk]; unfold RpA; exact ⟨v', _, rfl, h1, RpA.putD rv h2⟩
end
/-- d.f -/
def fldD (fld : Str → Str → Bool) (f : Str) (d : D) (s : Sto) : Option D := match d with
  | .loc k => match s[k]? with
    | some (.ins c fs) => if fld c f = true then List.lookup f fs else none
    | _ => none
  | _ => none
def eFld (fld : Str → Str → Bool) (f : Str) (m : EM D) : EM D := fun E s => (m E s).bind fun d s1 => match fldD fld f d s1 with
  | some v => .ok v s1
  | none => .err
section
variable {X : Cx} {W : WX}
theorem me_fld {fld : Str → Str → Bool} {e : Expr} {f : Str} {m : EM D} {pos : Pos} (hf : ∀ c f, fld c f = true → FldOk X.K X.mg c f) (he : ME X W e m) (hb : attributeBase e f X.env (eval e X.env) = eval e X.env) : ME X W (.Attribute e f pos) (eFld fld f m) := by
  refine PE.imp (pe_fld he hb) ?_
  intro σ H Q h
  obtain ⟨ρ, E, s, hs, hE, h⟩ := tM.bind (R1 := Rp (wd X)) (m := m) (f := fun d E s1 => match fldD fld f d s1 with | some v => .ok v s1 | none => .err) h
  refine ⟨ρ, E, s, hs, hE, RQ.mono h ?_⟩
  rintro x H1 ⟨ρ1, E1, s1, dx, hs1, he1, rx, hq⟩
  split at hq
  · rename_i v e1
    unfold fldD at e1
    split at e1
    · rename_i k
      split at e1
      · rename_i c fs e2
        split at e1
        · rename_i hc
          unfold Rp at rx
          obtain ⟨hk, rfl⟩ := rx
          obtain ⟨ho, h1, C, dd, vs, hm, rfl, ra⟩ := hs1.get e2
          obtain ⟨v', l, rv⟩ := ra.lookup e1
          obtain ⟨C', hm', cl, na⟩ := hf c f hc
          have : C = C' := by
            have := hm.symm.trans hm'
            injection this with t
            injection t
          subst this
          exact ⟨_, C, dd, vs, v', rfl, h1, cl, na, l, hq ρ1 H1 v' Lat.refl hs1 rv⟩
        · cases e1
      · cases e1
    · cases e1
  · exact hq.elim
/-- o.f = m -/
def setFD (fld : Str → Str → Bool) (f : Str) (x d : D) (s : Sto) : Option Sto := match x with
  | .loc k => match s[k]? with
    | some (.ins c fs) => if fld c f = true ∧ fs.length < 1000 then some (s.set k (.ins c (putD f d fs))) else none
    | _ => none
  | _ => none
def sFldM (fld : Str → Str → Bool) (f : Str) (o m : EM D) : SM := exprS m fun d => exprS o fun x E s => match setFD fld f x d s with
  | some s' => .nx E s'
  | none => .err
theorem RpA.length' {κ : Type} {w : Wd} {ρ : Nat → Addr} {n : Nat} {H : Hp} : ∀ {vs : List (κ × V)} {fs : List (κ × D)}, RpA w ρ n H vs fs → vs.length = fs.length
  | vs, [], h => by unfold RpA at h; rw [h]; rfl
  | vs, (k, d) :: ds, h => by
    unfold RpA at h
    obtain ⟨v, r, rfl, _, h2⟩ := h
    rw [List.length_cons, List.length_cons, RpA.length' h2]
theorem ms_fld {fld : Str → Str → Bool} {o e : Expr} {f : Str} {mo m : EM D} {pos pos' : Pos} (hf : ∀ c f, fld c f = true → FldOk X.K X.mg c f) (ho : ME X W o mo) (he : ME X W e m) (hs : swapsWith e (some (.Attribute o f pos')) pos.line X.env = pure false) : MS X W (.Assign [.Attribute o f pos'] e pos) (sFldM fld f mo m) := by
  refine PS.imp (ps_fld ho he hs) fun Dn σ H h => ?_
  obtain ⟨ρ, E, s, hs', hE, h⟩ := tS.ex (R := Rp (wd X)) h
  refine ⟨ρ, E, s, hs', hE, RQ.mono h ?_⟩
  rintro v H1 ⟨ρ1, E1, s1, d, hs1, he1, r, q⟩
  refine ⟨ρ1, E1, s1, hs1, he1, ?_⟩
  unfold exprS at q
  cases q2 : mo E1 s1 with
  | exc x s' =>
    rw [q2] at q
    exact fun ρ' H' c L hs' hc => q ρ' σ H' c L hs' (he1.lat L) hc
  | err => rw [q2] at q; exact q
  | ok x s' =>
    rw [q2] at q
    simp only at q
    cases q3 : setFD fld f x d s' with
    | none => rw [q3] at q; exact q.elim
    | some s2 =>
      rw [q3] at q
      intro ρ' H' b L hs2 hr
      unfold setFD at q3
      split at q3
      · rename_i k
        split at q3
        · rename_i c fs e2
          split at q3
          · rename_i hc
            cases q3
            unfold Rp at hr
            obtain ⟨hk, rfl⟩ := hr
            obtain ⟨ho', h1, C, dd, vs, hm, rfl, ra⟩ := hs2.get e2
            obtain ⟨C', hm', cl, na⟩ := hf c f hc.1
            have : C = C' := by
              have := hm.symm.trans hm'
              injection this with t
              injection t
            subst this
            have rd := Rp.lat L d r
            have hl : (s'.set k (.ins c (putD f d fs))).length = s'.length := List.length_set
            have ro : RO (wd X) ρ' s'.length H' (.ins C dd (putF f v vs)) (.ins c (putD f d fs)) := ⟨C, dd, _, hm, rfl, RpA.putD rd ra⟩
            refine ⟨_, C, dd, vs, rfl, h1, cl, na, by rw [RpA.length' ra]; exact hc.2, ?_⟩
            have L2 := Lat.set (ho := .ins C dd (putF f v vs)) hs2 hk _ rfl
            exact q ρ' σ _ (by rw [hl]; exact L.trans L2) (hs2.set hk ro) (by rw [hl]; exact (he1.lat L).lat L2)
          · cases q3
        · cases q3
      · cases q3
def clsD (x : D) (s : Sto) : Option Str := match x with
  | .loc k => match s[k]? with
    | some (.ins c _) => some c
    | _ => none
  | _ => none
/-- o.f op= m -/
def sFldAugM (fld : Str → Str → Bool) (f : Str) (op : Operator) (o m : EM D) : SM := exprS o fun x E s => match fldD fld f x s with
  | some v => exprS m (fun y E s1 => match pInp op v y s1 with
    | some (d, s') => match setFD fld f x d s' with
      | some s2 => if clsD x s = clsD x s' then .nx E s2 else .err
      | none => .err
    | none => .err) E s
  | none => .err
theorem in_pInp (op : Operator) : InOp X op (r2 (wd X) (pInp op)) := op_inp op
theorem fldD_inv {fld : Str → Str → Bool} {f : Str} {x d : D} {s : Sto} (h : fldD fld f x s = some d) : ∃ k c fs, x = .loc k ∧ s[k]? = some (.ins c fs) ∧ fld c f = true ∧ List.lookup f fs = some d := by
  unfold fldD at h
  split at h
  · split at h
    · split at h
      · rename_i k _ c fs e hc
        exact ⟨_, c, fs, rfl, e, hc, h⟩
      · cases h
    · cases h
  · cases h
theorem setFD_inv {fld : Str → Str → Bool} {f : Str} {x d : D} {s s2 : Sto} (h : setFD fld f x d s = some s2) : ∃ k c fs, x = .loc k ∧ s[k]? = some (.ins c fs) ∧ fld c f = true ∧ fs.length < 1000 ∧ s2 = s.set k (.ins c (putD f d fs)) := by
  unfold setFD at h
  split at h
  · split at h
    · split at h
      · rename_i k _ c fs e hc
        cases h
        exact ⟨_, c, fs, rfl, e, hc.1, hc.2, rfl⟩
      · cases h
    · cases h
  · cases h
theorem ms_fldaug {fld : Str → Str → Bool} {o e : Expr} {f : Str} {op : Operator} {mo m : EM D} {pos pos' : Pos} (hf : ∀ c f, fld c f = true → FldOk X.K X.mg c f) (ho : ME X W o mo) (he : ME X W e m) : MS X W (.AugAssign (.Attribute o f pos') op e pos) (sFldAugM fld f op mo m) := by
  refine PS.imp (ps_fldaug ho he (in_pInp op)) fun Dn σ H h => ?_
  obtain ⟨ρ, E, s, hs', hE, h⟩ := tS.ex (R := Rp (wd X)) h
  refine ⟨ρ, E, s, hs', hE, RQ.mono h ?_⟩
  rintro x H1 ⟨ρ1, E1, s1, dx, hs1, he1, rx, q⟩
  cases q1 : fldD fld f dx s1 with
  | none => rw [q1] at q; exact q.elim
  | some v =>
    rw [q1] at q
    obtain ⟨k, c, fs, rfl, e1, hc, e2⟩ := fldD_inv q1
    unfold Rp at rx
    obtain ⟨hk, rfl⟩ := rx
    obtain ⟨ho', h1, C, dd, vs, hm, rfl, ra⟩ := hs1.get e1
    obtain ⟨v', l, rv⟩ := ra.lookup e2
    obtain ⟨C', hm', cl, na⟩ := hf c f hc
    have : C = C' := by
      have := hm.symm.trans hm'
      injection this with t
      injection t
    subst this
    refine ⟨_, C, dd, vs, v', rfl, h1, cl, na, l, ρ1, E1, s1, hs1, he1, ?_⟩
    unfold exprS at q
    simp only at q
    cases q2 : m E1 s1 with
    | exc x s' =>
      rw [q2] at q
      exact fun ρ' H' c L hs' hc => q ρ' σ H' c L hs' (he1.lat L) hc
    | err => rw [q2] at q; exact q
    | ok y s' =>
      rw [q2] at q
      simp only at q
      intro ρ' H' b L hs2 hr
      refine ⟨ρ', s', v, y, hs2, Rp.lat L v rv, hr, ?_⟩
      cases q3 : pInp op v y s' with
      | none => rw [q3] at q; exact q.elim
      | some ds =>
        obtain ⟨d, s3⟩ := ds
        rw [q3] at q
        simp only at q
        intro ρ2 H2 z L2 hs3 hz
        cases q4 : setFD fld f (.loc k) d s3 with
        | none => rw [q4] at q; exact q.elim
        | some s4 =>
          rw [q4] at q
          obtain ⟨k', c', fs', ek, e3, hc', hl, rfl⟩ := setFD_inv q4
          cases ek
          obtain ⟨ho2, h2, C2, dd2, vs2, hm2, rfl, ra2⟩ := hs3.get e3
          simp only at q
          split at q
          · rename_i hcc
            simp only [clsD, e1, e3, Option.some.injEq] at hcc
            subst hcc
            have : C = C2 := by
              have := hm.symm.trans hm2
              injection this with t
              injection t
            subst this
            have hks : k < s'.length := Nat.lt_of_lt_of_le hk L.le
            have hk3 : k < s3.length := Nat.lt_of_lt_of_le hks L2.le
            have er : ρ2 k = ρ1 k := (L2.agree k hks).trans (L.agree k hk)
            rw [er] at h2
            have ro : RO (wd X) ρ2 s3.length H2 (.ins C dd2 (putF f z vs2)) (.ins c (putD f d fs')) := ⟨C, dd2, _, hm2, rfl, RpA.putD hz ra2⟩
            have hlen : (s3.set k (.ins c (putD f d fs'))).length = s3.length := List.length_set
            have L3 := Lat.set (ho := .ins C dd2 (putF f z vs2)) hs3 hk3 _ rfl
            have hst := hs3.set (ho := .ins C dd2 (putF f z vs2)) hk3 ro
            refine ⟨dd2, vs2, h2, by rw [RpA.length' ra2]; exact hl, ?_⟩
            rw [← er]
            exact q ρ2 σ _ (by rw [hlen]; exact (L.trans L2).trans L3) hst (by rw [hlen]; exact ((he1.lat L).lat L2).lat L3)
          · exact q.elim
end
end Y

set_option Elab.async false
set_option linter.all false
set_option maxRecDepth 100000
/-! Yd: methods of instances, instances made, quiet try. -/
namespace Y
open PySem PySem.Spec PyProof.Rows L2
/-- a method of the program's own class: with n arguments, dd the defaults that fill up -/
structure MtG (X : Cx) (c m : Str) (n : Nat) (dd : List D) (F : List D → Sto → Res D) : Prop where
  ex : ∃ C k g fd ps dvs ds, X.mg c = some (.ref C) ∧ Cls X.K C ∧ Meth X.K C m g ∧ Binds X.K fd ps ds ∧ Vals dvs ds ∧ (∀ ρ n H, RpL (wd X) ρ n H dvs dd) ∧ Room k X.A ∧ FnOk X.prog X.w X.K X.mg X.base (L2.CX X.prog X.w) k g fd ps (spM (wd X) (n + 1 + dd.length) F)
/-- a class that is made with n arguments -/
structure MkG (X : Cx) (c : Str) (n : Nat) (dd : List D) (F : List D → Sto → Res D) : Prop where
  ex : ∃ C k g fd ps dvs ds, X.mg c = some (.ref C) ∧ Mk X.K C g ∧ Binds X.K fd ps ds ∧ Vals dvs ds ∧ (∀ ρ n H, RpL (wd X) ρ n H dvs dd) ∧ Room (k + 1) X.A ∧ FnOk X.prog X.w X.K X.mg X.base (L2.CX X.prog X.w) k g fd ps (spM (wd X) (n + 1 + dd.length) F)
abbrev MthT := Str → Str → Nat → Option (List D × (List D → Sto → Res D))
def mthF (mth : MthT) (m : Str) (n : Nat) (x : D) (s : Sto) : Option (List D × (List D → Sto → Res D)) := match x with
  | .loc k => match s[k]? with
    | some (.ins c fs) => if List.lookup m fs = none then mth c m n else none
    | _ => none
  | _ => none
theorem mthF_inv {mth : MthT} {m : Str} {n : Nat} {x : D} {s : Sto} {dd : List D} {F : List D → Sto → Res D} (h : mthF mth m n x s = some (dd, F)) : ∃ k c fs, x = .loc k ∧ s[k]? = some (.ins c fs) ∧ List.lookup m fs = none ∧ mth c m n = some (dd, F) := by
  unfold mthF at h
  split at h
  · split at h
    · split at h
      · rename_i k _ c fs e hn
        exact ⟨k, c, fs, rfl, e, hn, h⟩
      · cases h
    · cases h
  · cases h
/-- o.m(..) of an instance -/
def eMethI (mth : MthT) (m : Str) (n : Nat) (o : EM D) (a : EM (List D)) : EM D := fun E s => (o E s).bind fun x s1 => match mthF mth m n x s1 with
  | some (dd, F) => (a E s1).bind fun ds s2 => if ds.length = n then F (x :: (ds ++ dd)) s2 else .err
  | none => .err
/-- c(..) -/
def eMake (c : Str) (n : Nat) (dd : List D) (F : List D → Sto → Res D) (a : EM (List D)) : EM D := fun E s => (a E s).bind fun ds s1 =>
  if ds.length = n then (F (.loc s1.length :: (ds ++ dd)) (s1 ++ [.ins c []])).bind fun v s2 => match v with
    | .non => .ok (.loc s1.length) s2
    | _ => .err
  else .err
theorem meth_ht {o : Expr} {name : Str} {apos pos : Pos} {args : List Expr} {env : Env} (hbase : attributeBase o name env (eval o env) = eval o env)
    (hfew : ((backTo pos (starEach args env)).all (fun x => !x.1) && (backToKw pos (keywordEach [] env)).all (fun x => x.1.isSome) && decide (args.length + ([] : List Keyword).length + (if ([] : List Keyword).isEmpty then 0 else 1) < 30)) = true)
    (hline : (apos.endLine == pos.line) = true) : eval (.Call (.Attribute o name apos) args [] pos) env = (do
      let ov ← eval o env
      standAt apos.atName
      let (f, first) ← holding [ov] (getMethod ov name (do return (← importBound o env).getD true))
      callWith pos f first (backTo pos (starEach args env)) (backToKw pos (keywordEach [] env))) := by
  have hform : methodCallForm (args.length + ([] : List Keyword).length) (backTo pos (starEach args env)) (backToKw pos (keywordEach [] env)) = true := hfew
  have hpos : methodCallPos true o env apos pos = pure pos := by unfold methodCallPos; simp [hline]
  rw [arm_eval_Call, hbase]
  unfold methodCall
  rw [hform, hpos]
  simp only [calleeOf, if_true, pure_bind]
section
variable {X : Cx} {W : WX} {m c x : Str} {n : Nat} {o e : Expr} {es : List Expr} {mo : EM D} {ma : EM (List D)} {apos pos np : Pos}
theorem me_methI {mth : MthT} (hG : ∀ c dd F, mth c m n = some (dd, F) → MtG X c m n dd F) (tk : Takes X W) (ho : ME X W o mo) (ha : MA X W (e :: es) ma) (hbase : attributeBase o m X.env (eval o X.env) = eval o X.env)
    (hfew : ((backTo pos (starEach (e :: es) X.env)).all (fun x => !x.1) && (backToKw pos (keywordEach [] X.env)).all (fun x => x.1.isSome)
      && decide ((e :: es).length + ([] : List Keyword).length + (if ([] : List Keyword).isEmpty then 0 else 1) < 30)) = true)
    (hline : (apos.endLine == pos.line) = true) (hst : starEach (e :: es) X.env = (false, eval e X.env) :: starEach es X.env) (hpl : (backTo pos (starEach es X.env)).any (·.1) = false) :
    ME X W (.Call (.Attribute o m apos) (e :: es) [] pos) (eMethI mth m n mo ma) := by
  refine ⟨fun pins s σ H Q I h => ?_⟩
  have h := tM.bind (R1 := Rp (wd X)) (m := mo) (f := fun x E s1 => match mthF mth m n x s1 with
    | some (dd, F) => (ma E s1).bind fun ds s2 => if ds.length = n then F (x :: (ds ++ dd)) s2 else .err
    | none => .err) h
  refine PySem.W.methodCall_KW (thn (ho.run pins s σ H _ I h) fun u s1 ⟨v, H1, I1, rx, ρ1, E1, t1, d1, hs1, he1, r1, q⟩ => ?_) (meth_ht hbase hfew hline)
  cases em : mthF mth m n d1 t1 with
  | none => rw [em] at q; exact q.elim
  | some p =>
    obtain ⟨dd, F⟩ := p
    rw [em] at q
    simp only at q
    obtain ⟨k, c, fs, rfl, e1, hn, e2⟩ := mthF_inv em
    obtain ⟨C, kk, g, fd, ps, dvs, ds, gc, cl, mt, hb, hd, hr, rm, FO⟩ := (hG c dd F e2).ex
    have r1' := r1
    unfold Rp at r1'
    obtain ⟨hk, rfl⟩ := r1'
    obtain ⟨ho', h1, C', dx, vs, hm, rfl, ra⟩ := hs1.get e1
    have : C = C' := by
      have := gc.symm.trans hm
      injection this with t
      injection t
    subst this
    obtain rfl : u = Value.ref (ρ1 k) := rx
    refine getmeth_ok I1 h1 cl mt (ra.none hn) ?_
    have q := RQ.bind (R1 := RpL (wd X)) q
    refine PySem.W.callWith_K (first := [.ref (ρ1 k)]) (h₀ := X.base) I.ok.mod.kin mt.kp (thn (ha.run pos pins s1 σ H1 _ I1 ⟨ρ1, E1, t1, hs1, he1, q⟩) fun us s2 ⟨ws, H2, I2, r2, q2⟩ => ⟨I2.kIn, ?_⟩) hst hpl
    obtain ⟨ρ2, t2, es2, L2, hs2, rl, q2⟩ := q2
    split at q2
    · rename_i hl
      refine run_fnSD (E := WE W) (us := .ref (ρ1 k) :: us) (vs := .ref (ρ1 k) :: ws) FO rm hb hd (passAt tk σ) I2 (.cons rfl r2) ?_
      refine ⟨ρ2, t2, .loc k :: (es2 ++ dd), hs2, RpL.cons (Rp.lat L2 _ r1) (RpL.append rl (hr _ _ _)), ?_, q2⟩
      rw [List.length_cons, List.length_append, hl]; omega
    · exact q2.elim
theorem me_methI0 {mth : MthT} (hG : ∀ c dd F, mth c m 0 = some (dd, F) → MtG X c m 0 dd F) (tk : Takes X W) (ho : ME X W o mo) (hbase : attributeBase o m X.env (eval o X.env) = eval o X.env) (hline : (apos.endLine == pos.line) = true) :
    ME X W (.Call (.Attribute o m apos) [] [] pos) (eMethI mth m 0 mo aNil) := by
  refine ⟨fun pins s σ H Q I h => ?_⟩
  have h := tM.bind (R1 := Rp (wd X)) (m := mo) (f := fun x E s1 => match mthF mth m 0 x s1 with
    | some (dd, F) => (aNil E s1).bind fun ds s2 => if ds.length = 0 then F (x :: (ds ++ dd)) s2 else .err
    | none => .err) h
  refine PySem.W.methodCall_KW (thn (ho.run pins s σ H _ I h) fun u s1 ⟨v, H1, I1, rx, ρ1, E1, t1, d1, hs1, he1, r1, q⟩ => ?_) (meth_ht hbase (by simp [starEach, backTo, keywordEach, backToKw]) hline)
  cases em : mthF mth m 0 d1 t1 with
  | none => rw [em] at q; exact q.elim
  | some p =>
    obtain ⟨dd, F⟩ := p
    rw [em] at q
    simp only at q
    obtain ⟨k, c, fs, rfl, e1, hn, e2⟩ := mthF_inv em
    obtain ⟨C, kk, g, fd, ps, dvs, ds, gc, cl, mt, hb, hd, hr, rm, FO⟩ := (hG c dd F e2).ex
    have r1' := r1
    unfold Rp at r1'
    obtain ⟨hk, rfl⟩ := r1'
    obtain ⟨ho', h1, C', dx, vs, hm, rfl, ra⟩ := hs1.get e1
    have : C = C' := by
      have := gc.symm.trans hm
      injection this with t
      injection t
    subst this
    obtain rfl : u = Value.ref (ρ1 k) := rx
    refine getmeth_ok I1 h1 cl mt (ra.none hn) ?_
    refine PySem.W.callWith_K0 (first := [.ref (ρ1 k)]) I1.kIn mt.kp (run_fnSD (E := WE W) (us := [.ref (ρ1 k)]) (vs := [.ref (ρ1 k)]) FO rm hb hd (passAt tk σ) I1 (.cons rfl .nil) ?_)
    refine ⟨ρ1, t1, .loc k :: ([] ++ dd), hs1, RpL.cons r1 (hr _ _ _), by simp; omega, ?_⟩
    exact q
/-- what is made -/
theorem run_mk {dd : List D} {F : List D → Sto → Res D} (hG : MkG X c n dd F) (tk : Takes X W) {pins : List (Addr × Obj)} {σ : L2.St} {H : Hp} {s : Shared} {Q : VK} {us : List Value} {vs : List V} {ρ : Nat → Addr} {t : Sto} {ds : List D} {Cc : Addr} (hcm : X.mg c = some (.ref Cc))
    (I : Inv X pins σ H s) (r : Vals vs us) (hs : RS (wd X) ρ H t) (rl : RpL (wd X) ρ t.length H vs ds) (hl : ds.length = n)
    (q : RQ (wd X) (Rp (wd X)) (WE W σ) ρ t.length H ((F (.loc t.length :: (ds ++ dd)) (t ++ [.ins c []])).bind fun v s2 => match v with
      | .non => .ok (.loc t.length) s2
      | _ => .err) Q) : PySem.W.keepIn X.K (.ref Cc) = true ∧ wpAny (model X.prog X.w) X.A (call (.ref Cc) us) (EP X pins σ Q) X.xe s := by
  obtain ⟨C, k, g, fd, ps, dvs, dfs, gc, M, hb, hd, hr, rm, FO⟩ := hG.ex
  have : C = Cc := by
    have := gc.symm.trans hcm
    injection this with t
    injection t
  subst this
  refine ⟨M.kp, ?_⟩
  have nx := I.hok.fresh (Nat.le_succ s.heap.objs.size)
  have nd := I.hok.fresh (Nat.le_refl s.heap.objs.size)
  have I2 := Inv.made (C := C) I
  have r2 : Vals (V.ref (s.heap.objs.size + 1) :: (vs ++ dvs)) (Value.ref (s.heap.objs.size + 1) :: (us ++ dfs)) := .cons rfl (r.append hd)
  have np : (upd H s.heap.objs.size (.own (s.heap.objs.size + 1))) (s.heap.objs.size + 1) = none := by rw [upd_ne (Nat.succ_ne_self _)]; exact nx
  have L1 : Lat ρ t.length H ρ t.length (upd H s.heap.objs.size (.own (s.heap.objs.size + 1))) := Lat.fresh nd
  have L2' : Lat ρ t.length (upd H s.heap.objs.size (.own (s.heap.objs.size + 1))) (ext ρ t.length (s.heap.objs.size + 1)) (t.length + 1) (upd (upd H s.heap.objs.size (.own (s.heap.objs.size + 1))) (s.heap.objs.size + 1) (.ins C s.heap.objs.size [])) := Lat.alloc np
  have hs2 := (hs.fresh (ho := .own (s.heap.objs.size + 1)) nd).alloc (o := .ins c []) (ho := .ins C s.heap.objs.size []) np ⟨C, _, [], hcm, rfl, RpA.nil⟩
  have hlen : (t ++ [O.ins c []]).length = t.length + 1 := by simp
  have L12 := L1.trans L2'
  have hq : spM (wd X) (n + 1 + dd.length) F (V.ref (s.heap.objs.size + 1) :: (vs ++ dvs)) (upd (upd H s.heap.objs.size (.own (s.heap.objs.size + 1))) (s.heap.objs.size + 1) (.ins C s.heap.objs.size [])) (fun v H2 => v = .non ∧ Q (.ref (s.heap.objs.size + 1)) H2) (WE W σ) := by
    refine ⟨_, _, .loc t.length :: (ds ++ dd), hs2, ?_, by rw [List.length_cons, List.length_append, hl]; omega, ?_⟩
    · rw [hlen]
      refine RpL.cons ?_ (RpL.append (RpL.lat L12 _ rl) (hr _ _ _))
      unfold Rp
      exact ⟨Nat.lt_succ_self _, by rw [ext_eq]⟩
    · rw [hlen]
      have q' := RQ.lat q L12
      cases e : F (.loc t.length :: (ds ++ dd)) (t ++ [.ins c []]) with
      | err => rw [e] at q'; exact q'.elim
      | exc y s' => rw [e] at q'; exact q'
      | ok v s' =>
        rw [e] at q'
        intro ρ' H' b L' hs' rb
        rw [Res.bind_ok] at q'
        cases v with
        | non =>
          refine ⟨by unfold Rp at rb; exact rb, ?_⟩
          refine q' ρ' H' (.ref (s.heap.objs.size + 1)) L' hs' ?_
          unfold Rp
          exact ⟨Nat.lt_of_lt_of_le (Nat.lt_succ_self _) L'.le, by rw [L'.agree _ (Nat.lt_succ_self _), ext_eq]⟩
        | _ => exact q'.elim
  have hl2 : (Value.ref (s.heap.objs.size + 1) :: us ++ dfs).length = ps.length := by
    have e := r2.length
    rw [FO.len _ _ _ _ hq] at e
    exact e.symm
  refine wpAny_call (make_map (f := g) I.kIn M.makes M.init (beq_iff_eq.mp M.fn) (codeAny_mono (FO.run _ X.stack _ _ ⟨Value.ref (s.heap.objs.size + 1) :: us, []⟩ (Value.ref (s.heap.objs.size + 1) :: (us ++ dfs)) _ _ (WE W σ) (rm.make C us [])
    (I2.env0.make C us []) (hb _ (Value.ref (s.heap.objs.size + 1) :: us) I2.kIn hl2) r2 hq) fun r s' hq' => ?_))
  cases r with
  | error e => exact passAt tk σ pins _ _ e s' I2 hq'
  | ok fl =>
    cases fl with
    | ret u =>
      obtain ⟨v, H', I3, rv, ev, q3⟩ := I2.after hq'
      subst ev
      exact ⟨rv, ⟨V.ref (s.heap.objs.size + 1), H', I3, rfl, q3⟩⟩
    | next => exact False.elim hq'
    | brk => exact False.elim hq'
    | cont => exact False.elim hq'
theorem me_make {dd : List D} {F : List D → Sto → Res D} (hG : MkG X c n dd F) (tk : Takes X W) (hg : Gl X c) (ha : MA X W (e :: es) ma) (hdb : (c == ("__debug__" : Str)) = false)
    (he : starEach (e :: es) X.env = (false, eval e X.env) :: starEach es X.env) (hpl : (backTo pos (starEach es X.env)).any (·.1) = false) : ME X W (.Call (.Name c np) (e :: es) [] pos) (eMake c n dd F ma) := by
  refine ⟨fun pins s σ H Q I h => ?_⟩
  have h := tM.bind (R1 := RpL (wd X)) (m := ma) (f := fun ds E s1 => if ds.length = n then (F (.loc s1.length :: (ds ++ dd)) (s1 ++ [.ins c []])).bind fun v s2 => match v with
    | .non => (Res.ok (D.loc s1.length) s2 : Res D)
    | _ => .err
  else .err) h
  obtain ⟨C, k, g, fd, ps, dvs, dfs, gc, M, _⟩ := hG.ex
  refine wpAny_Call_Name_kw (ld_glob I hg gc ?_ hdb)
  refine PySem.W.callWith_K (h₀ := X.base) I.ok.mod.kin M.kp (thn (ha.run pos pins s σ H _ I h) fun us s1 ⟨vs, H1, I1, r, ρ, E, t, ds, hs, he1, rl, q⟩ => ⟨I1.kIn, ?_⟩) he hpl
  split at q
  · rename_i hl
    exact (run_mk hG tk gc I1 r hs rl hl q).2
  · exact q.elim
theorem me_make0 {dd : List D} {F : List D → Sto → Res D} (hG : MkG X c 0 dd F) (tk : Takes X W) (hg : Gl X c) (hdb : (c == ("__debug__" : Str)) = false) : ME X W (.Call (.Name c np) [] [] pos) (eMake c 0 dd F aNil) := by
  refine ⟨fun pins s σ H Q I h => ?_⟩
  obtain ⟨C, k, g, fd, ps, dvs, dfs, gc, M, _⟩ := hG.ex
  refine wpAny_Call_Name_kw (ld_glob I hg gc ?_ hdb)
  obtain ⟨ρ, E, t, hs, he, q⟩ := h
  exact PySem.W.callWith_K0 I.kIn M.kp (run_mk (us := []) hG tk gc I .nil hs RpL.nil rfl q).2
end
/-- try: .. whatever is behind except, where nothing is raised -/
def sTryQ (b : SM) : SM := fun E s => match b E s with
  | .exc _ _ _ => .err
  | r => r
theorem ms_tryQ {X : Cx} {W : WX} {body : List Stmt} {bM : SM} {h₀ : ExceptHandler} {hs : List ExceptHandler} {pos : Pos} (hb : MB X.nox W0 body bM) : MS X W (.Try body (h₀ :: hs) [] [] pos) (sTryQ bM) := by
  refine PS.imp (ps_try_thru0 hb) fun Dn σ H h => ?_
  obtain ⟨ρ, E, s, hs, he, h⟩ := h
  refine ⟨ρ, E, s, hs, he, ?_⟩
  unfold sTryQ at h
  cases q : bM E s with
  | exc x E' s' => rw [q] at h; exact h.elim
  | nx E' s' => rw [q] at h; exact h
  | rt d s' => rw [q] at h; exact h
  | bk E' s' => rw [q] at h; exact h
  | ct E' s' => rw [q] at h; exact h
  | err => rw [q] at h; exact h
end Y

set_option Elab.async false
set_option linter.all false
set_option maxRecDepth 100000
/-! Y9: what is walked; comprehensions. -/
namespace Y
open PySem L2

abbrev W0 : WX := fun _ _ _ _ => False
/-! ### sources -/
section
variable {X : Cx} {W : WX} {tg : Expr}
def IterV (X : Cx) (tg : Expr) (r : V → Hp → (It → Hp → Prop) → Prop) : Prop :=
  ∀ (pins : List (Addr × Obj)) (s : Shared) (σ : St) (H : Hp) (x : V) (v : Value) (R : It → Hp → Prop), Inv X pins σ H s → RelV x v → r x H R → wpAny (model X.prog X.w) X.A (pyIter v) (PIE X pins σ tg R) X.xe s
theorem pi_val {l : Expr} {tl : TE} {r : V → Hp → (It → Hp → Prop) → Prop} (hl : PE X l tl) (hv : IterV X tg r) : PI X tg l (fun σ H R => tl σ H fun x H1 => r x H1 R) := by
  refine ⟨fun pins s σ H R I h => ?_⟩
  exact thn (hl.run pins s σ H _ I h) fun v s1 ⟨x, H1, I1, r1, q1⟩ => hv pins s1 σ H1 x v R I1 r1 q1
theorem iv_list : IterV X tg (fun x H R => ∃ a, x = .ref a ∧ (∃ xs, SqL X.K H a xs) ∧ R (Itl X.K a) H) := by
  intro pins s1 σ H1 x v R I1 r1 q1
  obtain ⟨a, e, ⟨xs, hq⟩, q⟩ := q1
  subst e
  cases r1
  obtain ⟨its, rv, p, hz⟩ := I1.list hq
  refine wpAny_pyIter_list p.isList ?_
  refine ⟨s1.heap.objs.size, [s1.heap.objs.size], _, _, H1, rfl, I1.kept (t' := s1.toks) fun b o e => Heap.get?_push_of_some _ e, turn_list a _, ⟨_, Heap.get?_push_size _ rfl, rfl, rfl⟩, fun b hb => ?_, q⟩
  have e : b = s1.heap.objs.size := by simpa using hb
  subst e
  exact I1.fpOk (Nat.le_refl _) (I1.hok.fresh (Nat.le_refl _))
theorem iv_tup : IterV X tg (fun x H R => ∃ a, x = .ref a ∧ (∃ xs, SqT X.K H a xs) ∧ R (Itt X.K a) H) := by
  intro pins s1 σ H1 x v R I1 r1 q1
  obtain ⟨a, e, ⟨xs, hq⟩, q⟩ := q1
  subst e
  cases r1
  obtain ⟨its, rv, p, hz⟩ := I1.tuple hq
  refine wpAny_pyIter_tuple (show s1.heap.IsTuple a its.toArray from p) ?_
  refine ⟨s1.heap.objs.size, [s1.heap.objs.size], _, _, H1, rfl, I1.kept (t' := s1.toks) fun b o e => Heap.get?_push_of_some _ e, turn_tuple a _, ⟨_, Heap.get?_push_size _ rfl, rfl, rfl⟩, fun b hb => ?_, q⟩
  have e : b = s1.heap.objs.size := by simpa using hb
  subst e
  exact I1.fpOk (Nat.le_refl _) (I1.hok.fresh (Nat.le_refl _))
theorem iv_str : IterV X tg (fun y H R => ∃ x, y = .str x ∧ R (Its x) H) := by
  intro pins s1 σ H1 y v R I1 r1 q1
  obtain ⟨x, ex, q⟩ := q1
  subst ex
  obtain ⟨t, rfl⟩ := r1
  cases ha : x.cps.all (· < 128)
  · exact wpAny_pyIter_wide ha (pi_one (tk := s1.toks) I1 _ (turn_str _ x t "str_iterator" (.inr rfl)) ⟨_, Heap.get?_push_size _ rfl, rfl, rfl⟩ q)
  · exact wpAny_pyIter_ascii ha (pi_one (tk := s1.toks) I1 _ (turn_str _ x t "str_ascii_iterator" (.inl rfl)) ⟨_, Heap.get?_push_size _ rfl, rfl, rfl⟩ q)
theorem IterV.or {r r' : V → Hp → (It → Hp → Prop) → Prop} (h : IterV X tg r) (h' : IterV X tg r') : IterV X tg (fun x H R => r x H R ∨ r' x H R) :=
  fun pins s σ H x v R I rx q => q.elim (h pins s σ H x v R I rx) (h' pins s σ H x v R I rx)
end
def charsD (z : Str) : List D := z.cps.toList.map fun c => .str ⟨#[c]⟩
def srcD (d : D) (s : Sto) : Option Src := match d with
  | .tup xs => some (.fix xs)
  | .ro xs => some (.fix xs)
  | .str z => some (.fix (charsD z))
  | .loc k => match s[k]? with
    | some (.lst _) => some (.lst k)
    | _ => none
  | _ => none
def iVal (m : EM D) : EM Src := fun E s => (m E s).bind fun d s1 => match srcD d s1 with
  | some src => .ok src s1
  | none => .err
section
variable {w : Wd} {ρ : Nat → Addr} {n : Nat} {H : Hp}
theorem rj_tup {a : Addr} {vs : List V} {ds : List D} (sq : SqU w.K H a vs) (r : RpL w ρ n H vs ds) : RJ w ρ n H (Itt w.K a) (.fix ds) := by
  intro i ρ1 H1 s1 L hs
  simp only [Src.at]
  have sq1 := (SqU.lat L sq).sqT
  have r1 := RpL.lat L _ r
  cases e : ds[i]? with
  | none => exact ⟨vs, sq1, by rw [RpL.length r]; exact List.getElem?_eq_none_iff.mp e⟩
  | some d =>
    obtain ⟨v, e1, rv⟩ := r1.get e
    refine ⟨⟨vs, v, sq1, e1⟩, fun x H2 y => ?_⟩
    obtain ⟨rfl, y⟩ := y
    have e2 := y vs sq1
    rw [e1] at e2; cases e2
    exact ⟨Lat.refl, hs, rv⟩
theorem rj_ro {a : Addr} {vs : List V} {ds : List D} (sq : SqR w.K H a vs) (r : RpL w ρ n H vs ds) : RJ w ρ n H (Itl w.K a) (.fix ds) := by
  intro i ρ1 H1 s1 L hs
  simp only [Src.at]
  have sq1 := (SqR.lat L sq).sqL
  have r1 := RpL.lat L _ r
  cases e : ds[i]? with
  | none => exact ⟨vs, sq1, by rw [RpL.length r]; exact List.getElem?_eq_none_iff.mp e⟩
  | some d =>
    obtain ⟨v, e1, rv⟩ := r1.get e
    refine ⟨⟨vs, v, sq1, e1⟩, fun x H2 y => ?_⟩
    obtain ⟨rfl, y⟩ := y
    have e2 := y vs sq1
    rw [e1] at e2; cases e2
    exact ⟨Lat.refl, hs, rv⟩
theorem rj_fresh {a : Addr} {vs : List V} {ds : List D} (e : H a = some (.lst vs)) (hn : ∀ k, k < n → ρ k ≠ a) (r : RpL w ρ n H vs ds) : RJ w ρ n H (Itl w.K a) (.fix ds) := by
  intro i ρ1 H1 s1 L hs
  simp only [Src.at]
  have sq1 : SqL w.K H1 a vs := SqL.of (L.keep a _ e hn)
  have r1 := RpL.lat L _ r
  cases e : ds[i]? with
  | none => exact ⟨vs, sq1, by rw [RpL.length r]; exact List.getElem?_eq_none_iff.mp e⟩
  | some d =>
    obtain ⟨v, e1, rv⟩ := r1.get e
    refine ⟨⟨vs, v, sq1, e1⟩, fun x H2 y => ?_⟩
    obtain ⟨rfl, y⟩ := y
    have e2 := y vs sq1
    rw [e1] at e2; cases e2
    exact ⟨Lat.refl, hs, rv⟩
theorem rj_lst {k : Nat} (hk : k < n) : RJ w ρ n H (Itl w.K (ρ k)) (.lst k) := by
  intro i ρ1 H1 s1 L hs
  simp only [Src.at]
  cases e0 : s1[k]? with
  | none => trivial
  | some o =>
    cases o with
    | lst xs =>
      simp only
      obtain ⟨ho, h1, vs, rfl, r⟩ := hs.get e0
      have ea := L.agree k hk
      rw [ea] at h1
      have sq1 : SqL w.K H1 (ρ k) vs := SqL.of h1
      cases e : xs[i]? with
      | none => exact ⟨vs, sq1, by rw [RpL.length r]; exact List.getElem?_eq_none_iff.mp e⟩
      | some d =>
        obtain ⟨v, e1, rv⟩ := r.get e
        refine ⟨⟨vs, v, sq1, e1⟩, fun x H2 y => ?_⟩
        obtain ⟨rfl, y⟩ := y
        have e2 := y vs sq1
        rw [e1] at e2; cases e2
        exact ⟨Lat.refl, hs, rv⟩
    | dic _ => trivial
    | ins _ _ => trivial
theorem rj_str {z : Str} : RJ w ρ n H (Its z) (.fix (charsD z)) := by
  intro i ρ1 H1 s1 L hs
  simp only [Src.at, charsD]
  rw [List.getElem?_map]
  cases e : z.cps.toList[i]? with
  | none =>
    have : z.cps.toList.length ≤ i := List.getElem?_eq_none_iff.mp e
    exact (by simpa using this : z.cps.size ≤ i)
  | some c =>
    have e' : z.cps[i]? = some c := by simpa using e
    refine ⟨(Array.getElem?_eq_some_iff.mp e').1, fun x H2 y => ?_⟩
    obtain ⟨rfl, c', e2, rfl⟩ := y
    rw [e'] at e2; cases e2
    exact ⟨Lat.refl, hs, Rp.str _⟩
def rngD (lo hi : Int) : List D := (List.range (hi - lo).toNat).map fun i => .int (lo + (i : Nat))
theorem rj_rng {lo hi : Int} : RJ w ρ n H (Itr lo (hi - lo).toNat) (.fix (rngD lo hi)) := by
  intro i ρ1 H1 s1 L hs
  simp only [Src.at, rngD]
  rw [List.getElem?_map]
  by_cases h : i < (hi - lo).toNat
  · rw [List.getElem?_range h]
    refine ⟨h, fun x H2 y => ?_⟩
    obtain ⟨rfl, rfl⟩ := y
    exact ⟨Lat.refl, hs, Rp.int _⟩
  · rw [List.getElem?_eq_none (by rw [List.length_range]; omega)]
    exact Nat.le_of_not_lt h
end
section
variable {X : Cx} {W : WX} {tg : Expr}
theorem mi_val {e : Expr} {m : EM D} (h : ME X W e m) : MI X W tg e (iVal m) := by
  refine PI.imp (pi_val h ((iv_list.or iv_tup).or iv_str)) fun σ H R h => ?_
  unfold iVal at h
  obtain ⟨ρ, E, s, hs, he, h⟩ := tM.bind (R1 := Rp (wd X)) (m := m) h
  refine ⟨ρ, E, s, hs, he, RQ.mono h ?_⟩
  rintro x H1 ⟨ρ1, E1, s1, d, hs1, he1, rd, hq⟩
  split at hq
  · rename_i src e
    unfold srcD at e
    split at e
    · cases e
      obtain ⟨a, vs, rfl, sq, r⟩ := rd.tup_
      exact .inl (.inr ⟨a, rfl, ⟨vs, sq.sqT⟩, hq ρ1 H1 _ Lat.refl hs1 (rj_tup sq r)⟩)
    · cases e
      obtain ⟨a, vs, rfl, sq, r⟩ := rd.ro_
      exact .inl (.inl ⟨a, rfl, ⟨vs, sq.sqL⟩, hq ρ1 H1 _ Lat.refl hs1 (rj_ro sq r)⟩)
    · cases e
      exact .inr ⟨_, rd.str_, hq ρ1 H1 _ Lat.refl hs1 rj_str⟩
    · split at e
      · rename_i e0
        cases e
        obtain ⟨hk, rfl⟩ := rd.loc_
        obtain ⟨ho, h1, vs, rfl, r⟩ := hs1.get e0
        exact .inl (.inl ⟨_, rfl, ⟨vs, SqL.of h1⟩, hq ρ1 H1 _ Lat.refl hs1 (rj_lst hk)⟩)
      · cases e
    · cases e
  · exact hq.elim
def iFix (m : EM (List D)) : EM Src := fun E s => (m E s).bind fun ds s1 => .ok (.fix ds) s1
theorem mi_fresh {e : Expr} {m : EM (List D)} (h : MF X W e m) : MI X W tg e (iFix m) := by
  refine PI.imp (pi_val h iv_list) fun σ H R h => ?_
  obtain ⟨ρ, E, s, hs, he, h⟩ := h
  refine ⟨ρ, E, s, hs, he, ?_⟩
  simp only [iFix] at h
  cases q : m E s with
  | ok ds s' =>
    rw [q] at h
    intro ρ' H' a vs L hs' h0 hn e r
    exact ⟨a, rfl, ⟨vs, SqL.of e⟩, h ρ' H' _ L hs' (rj_fresh e hn r)⟩
  | exc x s' => rw [q] at h; exact h
  | err => rw [q] at h; exact h
def iRng1' (m : EM (List D)) : EM Src := fun E s => (m E s).bind fun ds s1 => match ds with
  | [.int j] => if fitI j = true then .ok (.fix (rngD 0 j)) s1 else .err
  | _ => .err
def iRng2' (m : EM (List D)) : EM Src := fun E s => (m E s).bind fun ds s1 => match ds with
  | [.int i, .int j] => if fitI i = true ∧ fitI j = true then .ok (.fix (rngD i j)) s1 else .err
  | _ => .err
theorem mi_range1 {a : Expr} {m : EM (List D)} {p pos : Pos} (hg : Gl X "range") (hm : X.mg "range" = none) (ha : MA X W [a] m) (hst : starEach [a] X.env = [(false, eval a X.env)]) : MI X W tg (.Call (.Name "range" p) [a] [] pos) (iRng1' m) := by
  refine PI.imp (pi_range1 hg hm ha hst) fun σ H R h => ?_
  unfold iRng1' at h
  obtain ⟨ρ, E, s, hs, he, h⟩ := tM.bind (R1 := RpL (wd X)) (m := m) h
  refine ⟨ρ, E, s, hs, he, RQ.mono h ?_⟩
  rintro xs H1 ⟨ρ1, E1, s1, ds, hs1, he1, rd, hq⟩
  split at hq
  · rename_i j
    split at hq
    · rename_i hb
      obtain ⟨v, r, rfl, h1, h2⟩ := rd.inv
      rw [h2.inv0, h1.int_]
      refine ⟨j, rfl, (fitI_62 hb).1, (fitI_62 hb).2, hq ρ1 H1 _ Lat.refl hs1 ?_⟩
      have := rj_rng (w := wd X) (ρ := ρ1) (n := s1.length) (H := H1) (lo := 0) (hi := j)
      rw [Int.sub_zero] at this
      exact this
    · exact hq.elim
  · exact hq.elim
theorem mi_range2 {a b : Expr} {m : EM (List D)} {p pos : Pos} (hg : Gl X "range") (hm : X.mg "range" = none) (ha : MA X W [a, b] m) (hst : starEach [a, b] X.env = [(false, eval a X.env), (false, eval b X.env)]) (hst2 : starEach [b] X.env = [(false, eval b X.env)]) : MI X W tg (.Call (.Name "range" p) [a, b] [] pos) (iRng2' m) := by
  refine PI.imp (pi_range2 hg hm ha hst hst2) fun σ H R h => ?_
  unfold iRng2' at h
  obtain ⟨ρ, E, s, hs, he, h⟩ := tM.bind (R1 := RpL (wd X)) (m := m) h
  refine ⟨ρ, E, s, hs, he, RQ.mono h ?_⟩
  rintro xs H1 ⟨ρ1, E1, s1, ds, hs1, he1, rd, hq⟩
  split at hq
  · rename_i i j
    split at hq
    · rename_i hb
      obtain ⟨v, r, rfl, h1, h2⟩ := rd.inv
      obtain ⟨v2, r2, rfl, h3, h4⟩ := h2.inv
      rw [h4.inv0, h1.int_, h3.int_]
      exact ⟨i, j, rfl, ⟨(fitI_62 hb.1).1, (fitI_62 hb.1).2, (fitI_62 hb.2).1, (fitI_62 hb.2).2⟩, hq ρ1 H1 _ Lat.refl hs1 rj_rng⟩
    · exact hq.elim
  · exact hq.elim
end
/-! ### range with a step -/
section
variable {w : Wd} {ρ : Nat → Addr} {n : Nat} {H : Hp}
def rng3D (i c : Int) (m : Nat) : List D := (List.range m).map fun k => .int (i + (k : Nat) * c)
theorem rj_rngc {i c : Int} {m : Nat} : RJ w ρ n H (Itc i c m) (.fix (rng3D i c m)) := by
  intro k ρ1 H1 s1 L hs
  simp only [Src.at, rng3D]
  rw [List.getElem?_map]
  by_cases h : k < m
  · rw [List.getElem?_range h]
    refine ⟨h, fun x H2 y => ?_⟩
    obtain ⟨rfl, rfl⟩ := y
    exact ⟨Lat.refl, hs, Rp.int _⟩
  · rw [List.getElem?_eq_none (by rw [List.length_range]; omega)]
    exact Nat.le_of_not_lt h
end
section
variable {X : Cx} {W : WX} {tg : Expr}
def iRng3' (m : EM (List D)) : EM Src := fun E s => (m E s).bind fun ds s1 => match ds with
  | [.int i, .int j, .int c] => if (c ≠ 0 ∧ c.natAbs < 1073741824 ∧ Builtin.Range.small i j c = true) ∧ 0 ≤ Builtin.Range.rangeSize i j c then .ok (.fix (rng3D i c (Builtin.Range.rangeSize i j c).toNat)) s1 else .err
  | _ => .err
theorem mi_range3 {a b c : Expr} {m : EM (List D)} {p pos : Pos} (hg : Gl X "range") (hm : X.mg "range" = none) (ha : MA X W [a, b, c] m) (hst : starEach [a, b, c] X.env = (false, eval a X.env) :: starEach [b, c] X.env) (hpl : (backTo pos (starEach [b, c] X.env)).any (·.1) = false) : MI X W tg (.Call (.Name "range" p) [a, b, c] [] pos) (iRng3' m) := by
  refine PI.imp (pi_range3 hg hm ha hst hpl) fun σ H R h => ?_
  unfold iRng3' at h
  obtain ⟨ρ, E, s, hs, he, h⟩ := tM.bind (R1 := RpL (wd X)) (m := m) h
  refine ⟨ρ, E, s, hs, he, RQ.mono h ?_⟩
  rintro xs H1 ⟨ρ1, E1, s1, ds, hs1, he1, rd, hq⟩
  split at hq
  · rename_i i j c
    split at hq
    · rename_i hb
      obtain ⟨v, r, rfl, h1, h2⟩ := rd.inv
      obtain ⟨v2, r2, rfl, h3, h4⟩ := h2.inv
      obtain ⟨v3, r3, rfl, h5, h6⟩ := h4.inv
      rw [h6.inv0, h1.int_, h3.int_, h5.int_]
      refine ⟨i, j, c, (Builtin.Range.rangeSize i j c).toNat, rfl, ⟨hb.1.1, hb.1.2.1, hb.1.2.2, ?_⟩, hq ρ1 H1 _ Lat.refl hs1 rj_rngc⟩
      omega
    · exact hq.elim
  · exact hq.elim
end
/-! ### zip of two tuples -/
def zipD (xs ys : List D) : List D := (xs.zip ys).map fun p => .tup [p.1, p.2]
theorem zipD_at {xs ys : List D} {i : Nat} {d : D} (h : (zipD xs ys)[i]? = some d) : ∃ x y, xs[i]? = some x ∧ ys[i]? = some y ∧ d = .tup [x, y] := by
  unfold zipD at h
  rw [List.getElem?_map] at h
  cases e : (xs.zip ys)[i]? with
  | none => rw [e] at h; cases h
  | some p =>
    rw [e] at h; cases h
    obtain ⟨a, b⟩ := p
    have := List.getElem?_zip_eq_some.mp e
    exact ⟨a, b, this.1, this.2, rfl⟩
theorem RpL.two {w : Wd} {ρ : Nat → Addr} {n : Nat} {H : Hp} {v u : V} {x y : D} (h : Rp w ρ n H v x) (h' : Rp w ρ n H u y) : RpL w ρ n H [v, u] [x, y] := by
  unfold RpL
  exact ⟨v, [u], rfl, h, RpL.one h'⟩
theorem rj_zip {w : Wd} {ρ : Nat → Addr} {n : Nat} {H : Hp} {a b : Addr} {vs ws : List V} {xs ys : List D} (sa : SqU w.K H a vs) (sb : SqU w.K H b ws) (ra : RpL w ρ n H vs xs) (rb : RpL w ρ n H ws ys) : RJ w ρ n H (RZ.ItzT w.K a b) (.fix (zipD xs ys)) := by
  intro i ρ1 H1 s1 L hs
  simp only [Src.at]
  have sa1 := (SqU.lat L sa).sqT
  have sb1 := (SqU.lat L sb).sqT
  have ra1 := RpL.lat L _ ra
  have rb1 := RpL.lat L _ rb
  cases e : (zipD xs ys)[i]? with
  | none =>
    refine ⟨vs, ws, sa1, sb1, ?_⟩
    have hl := List.getElem?_eq_none_iff.mp e
    unfold zipD at hl
    rw [List.length_map, List.length_zip] at hl
    rw [RpL.length ra, RpL.length rb]
    omega
  | some d =>
    obtain ⟨x, y, ex, ey, rfl⟩ := zipD_at e
    obtain ⟨v, ev, rv⟩ := ra1.get ex
    obtain ⟨u, eu, ru⟩ := rb1.get ey
    refine ⟨⟨vs, ws, v, u, sa1, sb1, ev, eu⟩, ?_⟩
    rintro x' H2 ⟨T, x2, y2, rfl, hT, rfl, h1, h2⟩
    have q1 := h1 vs sa1
    have q2 := h2 ws sb1
    rw [ev] at q1; cases q1
    rw [eu] at q2; cases q2
    have L1 : Lat ρ1 s1.length H1 ρ1 s1.length (upd H1 T (.tup [v, u])) := Lat.fresh hT
    refine ⟨L1, hs.fresh hT, ?_⟩
    unfold Rp
    exact ⟨T, [v, u], rfl, SqU.of upd_same, RpL.two (Rp.lat L1 _ rv) (Rp.lat L1 _ ru)⟩
def iZip' (m : EM (List D)) : EM Src := fun E s => (m E s).bind fun ds s1 => match ds with
  | [.tup xs, .tup ys] => .ok (.fix (zipD xs ys)) s1
  | _ => .err
theorem mi_zip {X : Cx} {W : WX} {a b : Expr} {m : EM (List D)} {p pos tpos : Pos} {elts : List Expr} {kk : Nat} (hg : Gl X "zip") (hm : X.mg "zip" = none) (ha : MA X W [a, b] m) (hst : starEach [a, b] X.env = (false, eval a X.env) :: starEach [b] X.env) (hpl : (backTo pos (starEach [b] X.env)).any (·.1) = false) :
    MI X W (.Tuple elts kk tpos) (.Call (.Name "zip" p) [a, b] [] pos) (iZip' m) := by
  refine PI.imp (RZ.pi_zipA hg hm ha hst hpl) fun σ H R h => ?_
  unfold iZip' at h
  obtain ⟨ρ, E, s, hs, he, h⟩ := tM.bind (R1 := RpL (wd X)) (m := m) h
  refine ⟨ρ, E, s, hs, he, RQ.mono h ?_⟩
  rintro xs H1 ⟨ρ1, E1, s1, ds, hs1, he1, rd, hq⟩
  split at hq
  · obtain ⟨v, r, rfl, h1, h2⟩ := rd.inv
    obtain ⟨v2, r2, rfl, h3, h4⟩ := h2.inv
    rw [h4.inv0]
    obtain ⟨a1, vs, rfl, sa, ra⟩ := h1.tup_
    obtain ⟨b1, ws, rfl, sb, rb⟩ := h3.tup_
    exact ⟨a1, b1, vs, ws, rfl, .inr ⟨sa.sqT, sb.sqT, hq ρ1 H1 _ Lat.refl hs1 (rj_zip sa sb ra rb)⟩⟩
  · exact hq.elim

/-! ### list comprehensions -/
def wipeE (E : Ev) : List Nat → Ev
  | [] => E
  | v :: vs => (wipeE E vs).set v none
theorem RE.wipe {w : Wd} {ρ : Nat → Addr} {n : Nat} {H : Hp} {σ : St} {E : Ev} (h : RE w ρ n H σ E) : ∀ vs : List Nat, RE w ρ n H (wipe σ vs) (wipeE E vs)
  | [] => h
  | v :: vs => by
    have ih := RE.wipe h vs
    unfold L2.wipe wipeE
    refine ⟨by rw [List.length_set, List.length_set]; exact ih.len, fun j d e => ?_⟩
    by_cases hj : v = j
    · subst hj
      by_cases hl : v < (wipeE E vs).length
      · rw [List.getElem?_set_self hl] at e; cases e
      · rw [List.getElem?_eq_none (by rw [List.length_set]; omega)] at e; cases e
    · rw [List.getElem?_set_ne hj] at e ⊢
      exact ih.val j d e
def noX {α : Type} : Res α → Res α
  | .exc _ _ => .err
  | r => r
def turnC (g : GM) (t : EM Bool) (e : EM D) (E0 : Ev) (d : D) (s : Sto) : Res (Option D) := match g d E0 s with
  | .ok E1 s1 => (noX (t E1 s1)).bind fun b s2 => if b = true then (noX (e E1 s2)).bind fun y s3 => .ok (some y) s3 else .ok none s2
  | _ => .err
def consO (o : Option D) (ys : List D) : List D := match o with
  | some y => y :: ys
  | none => ys
def compL (g : GM) (t : EM Bool) (e : EM D) (E0 : Ev) : List D → Sto → Res (List D)
  | [], s => .ok [] s
  | d :: ds, s => (turnC g t e E0 d s).bind fun o s1 => (compL g t e E0 ds s1).bind fun ys s2 => .ok (consO o ys) s2
def compK (g : GM) (t : EM Bool) (e : EM D) (E0 : Ev) (k : Nat) : Nat → Nat → Sto → Res (List D)
  | 0, _, _ => .err
  | n + 1, i, s => match s[k]? with
    | some (.lst xs) => match xs[i]? with
      | some d => (turnC g t e E0 d s).bind fun o s1 => (compK g t e E0 k n (i + 1) s1).bind fun ys s2 => .ok (consO o ys) s2
      | none => .ok [] s
    | _ => .err
def compS (g : GM) (t : EM Bool) (e : EM D) (E0 : Ev) (src : Src) (s : Sto) : Res (List D) := match src with
  | .fix ds => if ds.length ≤ sizeLine then compL g t e E0 ds s else .err
  | .lst k => compK g t e E0 k sizeLine 0 s
def fLc (it : EM Src) (g : GM) (t : EM Bool) (e : EM D) (vs : List Nat) : EM (List D) := fun E s => (it E s).bind fun src s1 => compS g t e (wipeE E vs) src s1
/-- the heap with the list that is made at the untracked place Dd -/
theorem Lat.frame {ρ ρ1 : Nat → Addr} {n n1 : Nat} {H H1 : Hp} {Dd : Addr} {o : HO} (L : Lat ρ n H ρ1 n1 H1) (h0 : H Dd = none) : Lat ρ n H ρ1 n1 (upd H1 Dd o) where
  le := L.le
  agree := L.agree
  keep := fun a u e hk => by rw [upd_ne (ne_of_none e h0)]; exact L.keep a u e hk
  froz := fun a u e f => by rw [upd_ne (ne_of_none e h0)]; exact L.froz a u e f
  dom := fun a e => by
    by_cases q : a = Dd
    · rw [q]; exact h0
    · rw [upd_ne q] at e; exact L.dom a e
  new := L.new
theorem Rp.frame {w : Wd} {ρ : Nat → Addr} {n : Nat} {H : Hp} {Dd : Addr} {o o' : HO} (hD : H Dd = some o) (nf : ¬ Fz o) : Lat ρ n H ρ n (upd H Dd o') ∨ True := .inr trivial
section
variable {w : Wd} {ρ : Nat → Addr} {n : Nat} {H : Hp} {Dd : Addr} {o o' : HO}
mutual
theorem Rp.fr (hD : H Dd = some o) (nf : ¬ Fz o) : ∀ {v : V} (d : D), Rp w ρ n H v d → Rp w ρ n (upd H Dd o') v d
  | v, .non, h => by unfold Rp at h ⊢; exact h
  | v, .bl _, h => by unfold Rp at h ⊢; exact h
  | v, .int _, h => by unfold Rp at h ⊢; exact h
  | v, .str _, h => by unfold Rp at h ⊢; exact h
  | v, .tup xs, h => by
    obtain ⟨a, vs, e, q, r⟩ := h.tup_
    unfold Rp
    refine ⟨a, vs, e, ?_, RpL.fr hD nf xs r⟩
    rcases q with q | q
    · refine .inl ?_
      rw [upd_ne (fun z => by rw [z, hD] at q; cases q; exact nf trivial)]
      exact q
    · exact .inr q
  | v, .ro xs, h => by
    obtain ⟨a, vs, e, q, r⟩ := h.ro_
    unfold Rp
    refine ⟨a, vs, e, ?_, RpL.fr hD nf xs r⟩
    rcases q with ⟨oo, q⟩ | q
    · refine .inl ⟨oo, ?_⟩
      rw [upd_ne (fun z => by rw [z, hD] at q; cases q; exact nf trivial)]
      exact q
    · exact .inr q
  | v, .loc k, h => by unfold Rp at h ⊢; exact h
  | v, .gl _, h => by unfold Rp at h ⊢; exact h
  | v, .ty _, h => by unfold Rp at h ⊢; exact h
theorem RpL.fr (hD : H Dd = some o) (nf : ¬ Fz o) : ∀ {vs : List V} (ds : List D), RpL w ρ n H vs ds → RpL w ρ n (upd H Dd o') vs ds
  | vs, [], h => by unfold RpL at h ⊢; exact h
  | vs, d :: ds, h => by
    obtain ⟨v, r, e, h1, h2⟩ := h.inv
    unfold RpL
    exact ⟨v, r, e, Rp.fr hD nf d h1, RpL.fr hD nf ds h2⟩
end
theorem RpA.fr {κ : Type} (hD : H Dd = some o) (nf : ¬ Fz o) : ∀ {vs : List (κ × V)} (ds : List (κ × D)), RpA w ρ n H vs ds → RpA w ρ n (upd H Dd o') vs ds
  | vs, [], h => by unfold RpA at h ⊢; exact h
  | vs, (k, d) :: ds, h => by
    obtain ⟨v, r, e, h1, h2⟩ := h.inv
    unfold RpA
    exact ⟨v, r, e, Rp.fr hD nf d h1, RpA.fr hD nf ds h2⟩
theorem RO.fr (hD : H Dd = some o) (nf : ¬ Fz o) {ho : HO} {ob : O} (h : RO w ρ n H ho ob) : RO w ρ n (upd H Dd o') ho ob := by
  cases ob with
  | lst xs =>
    obtain ⟨vs, e, r⟩ := h
    exact ⟨vs, e, RpL.fr hD nf _ r⟩
  | dic kvs =>
    obtain ⟨vs, e, r⟩ := h
    exact ⟨vs, e, RpA.fr hD nf _ r⟩
  | ins c fs =>
    obtain ⟨C, dx, vs, m, e, r⟩ := h
    exact ⟨C, dx, vs, m, e, RpA.fr hD nf _ r⟩
theorem RS.fr {s : Sto} (hD : H Dd = some o) (nf : ¬ Fz o) (hn : ∀ k, k < s.length → ρ k ≠ Dd) (h : RS w ρ H s) : RS w ρ (upd H Dd o') s :=
  ⟨fun k u e => by
    obtain ⟨ho, q, r⟩ := h.obj k u e
    exact ⟨ho, by rw [upd_ne (hn k (List.getElem?_eq_some_iff.mp e).1)]; exact q, RO.fr hD nf r⟩, h.inj⟩
end
/-- what stands between two turns -/
structure LcI (w : Wd) (W : XK) (ρ1 : Nat → Addr) (n1 : Nat) (H1 : Hp) (Dd : Addr) (Q : VK) (i : Nat) (k : Sto → Res (List D)) (H : Hp) : Prop where
  ex : ∃ ρ s vacc acc, Lat ρ1 n1 H1 ρ s.length H ∧ RS w ρ H s ∧ H Dd = some (.lst vacc) ∧ RpL w ρ s.length H vacc acc ∧ (∀ j, j < s.length → ρ j ≠ Dd) ∧ acc.length ≤ i ∧
    RF w W ρ1 n1 H1 ((k s).bind fun ys s' => .ok (acc ++ ys) s') Q
theorem turnC_run {w : Wd} {W : XK} {ρ1 ρ : Nat → Addr} {n1 : Nat} {H1 H : Hp} {Dd : Addr} {Q : VK} {i : Nat} {k : Sto → Res (List D)} {g : GM} {t : EM Bool} {e : EM D} {sl vs : List Nat} {σ : St} {E : Ev} {s : Sto} {x : V} {d : D} {vacc : List V} {acc : List D} {tt : TT}
    (h0 : H1 Dd = none) (L : Lat ρ1 n1 H1 ρ s.length H) (hs : RS w ρ H s) (hD : H Dd = some (.lst vacc)) (ra : RpL w ρ s.length H vacc acc) (hn : ∀ j, j < s.length → ρ j ≠ Dd) (hi : acc.length ≤ i) (hiz : i < sizeLine) (he : RE w ρ s.length H (wipe σ vs) (wipeE E vs)) (rx : Rp w ρ s.length H x d)
    (hsl : ∀ i ∈ sl, i ∈ vs) (htt : ∀ σ H Q, tM w RB W0 t σ H Q → tt σ H Q)
    (q : RF w W ρ1 n1 H1 (((turnC g t e (wipeE E vs) d s).bind fun o s1 => (k s1).bind fun ys s2 => .ok (consO o ys) s2).bind fun ys s' => .ok (acc ++ ys) s') Q) :
    tG w sl g x (wipe σ vs) H fun σ2 H2 => wipe σ2 vs = wipe σ vs ∧ tt σ2 H2 fun b H3 =>
      if b = true then tM w (Rp w) W0 e σ2 H3 fun y H4 => ∃ acc, H4 Dd = some (.lst acc) ∧ acc.length < sizeLine ∧ LcI w W ρ1 n1 H1 Dd Q (i + 1) k (upd H4 Dd (.lst (acc ++ [y]))) else LcI w W ρ1 n1 H1 Dd Q (i + 1) k H3 := by
  refine ⟨ρ, wipeE E vs, s, d, hs, he, rx, ?_⟩
  unfold turnC at q
  cases z : g d (wipeE E vs) s with
  | exc y s1 => rw [z] at q; exact q.elim
  | err => rw [z] at q; exact q.elim
  | ok E1 s1 =>
    simp only [z] at q
    intro ρ2 σ2 H2 L2 hs2 he2 out
    have ww : wipe (wipe σ vs) vs = wipe σ vs := by
      have gen : ∀ us : List Nat, wipe (wipe σ us) us = wipe σ us := by
        intro us
        induction us with
        | nil => rfl
        | cons u us ih =>
          by_cases hu : u ∈ us
          · have e1 : wipe σ (u :: us) = (wipe σ us).set u none := rfl
            rw [e1]
            have e2 : wipe ((wipe σ us).set u none) (u :: us) = (wipe ((wipe σ us).set u none) us).set u none := rfl
            rw [e2, wipe_set _ u none us hu, ih]
          · have e1 : wipe σ (u :: us) = (wipe σ us).set u none := rfl
            rw [e1]
            rw [wipe_set (wipe σ us) u none (u :: us) (by simp)]
            have e2 : wipe (wipe σ us) (u :: us) = (wipe (wipe σ us) us).set u none := rfl
            rw [e2, ih]
      exact gen vs
    refine ⟨(out vs hsl).trans ww, htt _ _ _ ⟨ρ2, E1, s1, hs2, he2, ?_⟩⟩
    have hD2 : H2 Dd = some (.lst vacc) := L2.keep Dd _ hD hn
    have nn : ∀ {ρ3 : Nat → Addr} {n3 : Nat} {H3 : Hp}, Lat ρ s.length H ρ3 n3 H3 → ∀ j, j < n3 → ρ3 j ≠ Dd := fun {ρ3 n3 H3} L3 j hj ej => by
      by_cases hl : j < s.length
      · exact hn j hl ((L3.agree j hl).symm.trans ej)
      · have := L3.new j (Nat.le_of_not_lt hl) hj
        rw [ej, hD] at this; cases this
    cases z1 : t E1 s1 with
    | exc y s2 => simp only [z1, noX, Res.bind_err] at q; exact q.elim
    | err => simp only [z1, noX, Res.bind_err] at q; exact q.elim
    | ok b s2 =>
      simp only [z1, noX, Res.bind_ok] at q
      intro ρ3 H3 b' L3 hs3 eb
      cases eb
      have L23 := L2.trans L3
      have hD3 : H3 Dd = some (.lst vacc) := L23.keep Dd _ hD hn
      cases b with
      | false =>
        rw [if_neg Bool.false_ne_true] at q ⊢
        simp only [Res.bind_ok] at q
        refine ⟨ρ3, s2, vacc, acc, L.trans L23, hs3, hD3, RpL.lat L23 _ ra, nn L23, Nat.le_succ_of_le hi, ?_⟩
        simp only [consO] at q
        have e1 : ((k s2).bind fun ys s2 => (Res.ok ys s2 : Res (List D))) = k s2 := by cases k s2 <;> rfl
        rw [e1] at q
        exact q
      | true =>
        rw [if_pos rfl] at q ⊢
        refine ⟨ρ3, E1, s2, hs3, he2.lat L3, ?_⟩
        cases z2 : e E1 s2 with
        | exc y s3 => simp only [z2, noX, Res.bind_err] at q; exact q.elim
        | err => simp only [z2, noX, Res.bind_err] at q; exact q.elim
        | ok y s3 =>
          simp only [z2, noX, Res.bind_ok] at q
          intro ρ4 H4 v4 L4 hs4 r4
          have L24 := L23.trans L4
          have hD4 : H4 Dd = some (.lst vacc) := L24.keep Dd _ hD hn
          have nf : ¬ Fz (HO.lst vacc) := id
          refine ⟨vacc, hD4, by rw [RpL.length ra]; omega, ρ4, s3, vacc ++ [v4], acc ++ [y], Lat.frame (L.trans L24) h0, hs4.fr hD4 nf (nn L24), upd_same, RpL.fr hD4 nf _ (RpL.append (RpL.lat L24 _ ra) (RpL.one r4)), nn L24, by rw [List.length_append, List.length_singleton]; omega, ?_⟩
          simp only [consO] at q
          have e1 : (((k s3).bind fun ys s2 => (Res.ok (y :: ys) s2 : Res (List D))).bind fun ys s' => (Res.ok (acc ++ ys) s' : Res (List D))) = (k s3).bind fun ys s' => Res.ok (acc ++ [y] ++ ys) s' := by
            cases k s3 with
            | ok ys s4 => simp
            | exc _ _ => rfl
            | err => rfl
          rw [e1] at q
          exact q
theorem lc_red {w : Wd} {W : WX} {it : EM Src} {g : GM} {t : EM Bool} {e : EM D} {sl vs : List Nat} {tt : TT} (hsl : ∀ i ∈ sl, i ∈ vs) (htt : ∀ σ H Q, tM w RB W0 t σ H Q → tt σ H Q) {σ : St} {H : Hp} {Q : VK} (h : tF w W (fLc it g t e vs) σ H Q) :
    tLc (tM w (RJ w) W it) (tG w sl g) tt (tM w (Rp w) W0 e) vs σ H Q := by
  unfold fLc at h
  obtain ⟨ρ, E, s, hs, he, h⟩ := tF.bind (R1 := RJ w) (m := it) h
  refine ⟨ρ, E, s, hs, he, RQ.mono h ?_⟩
  rintro J H1 ⟨ρ1, E1, s1, src, hs1, he1, rj, q⟩ Dd h0
  have hn0 : ∀ j, j < s1.length → ρ1 j ≠ Dd := fun j hj => hs1.ne h0 hj
  cases src with
  | fix ds =>
    simp only [compS] at q
    split at q
    · rename_i hz
      refine ⟨fun i m H => i ≤ ds.length ∧ m = ds.length - i ∧ LcI w (WE W σ) ρ1 s1.length H1 Dd Q i (fun s => compL g t e (wipeE E1 vs) (ds.drop i) s) H, ⟨ds.length, Nat.zero_le _, rfl, ρ1, s1, [], [], Lat.fresh h0, hs1.fresh h0, upd_same, RpL.nil, hn0, Nat.zero_le _, ?_⟩, ?_⟩
      · have e1 : ((compL g t e (wipeE E1 vs) (ds.drop 0) s1).bind fun ys s' => (Res.ok ([] ++ ys) s' : Res (List D))) = compL g t e (wipeE E1 vs) ds s1 := by
          rw [List.drop_zero]; cases compL g t e (wipeE E1 vs) ds s1 <;> rfl
        rw [e1]; exact q
      rintro i m H2 ⟨hi, rfl, ⟨ρ2, s2, vacc, acc, L2, hs2, hD, ra, hn, hai, q2⟩⟩
      have rji := rj i ρ2 H2 s2 L2 hs2
      simp only [Src.at] at rji
      by_cases hlt : i < ds.length
      · rw [List.getElem?_eq_getElem hlt] at rji
        obtain ⟨go, yl⟩ := rji
        refine .inr ⟨go, LcI w (WE W σ) ρ1 s1.length H1 Dd Q (i + 1) (fun s => compL g t e (wipeE E1 vs) (ds.drop (i + 1)) s), fun H' z => ⟨ds.length - (i + 1), by omega, hlt, rfl, z⟩, fun x H' y => ?_⟩
        obtain ⟨L3, hs3, rx⟩ := yl x H' y
        simp only [List.drop_eq_getElem_cons hlt, compL] at q2
        exact turnC_run h0 (L2.trans L3) hs3 (L3.keep _ _ hD hn) (RpL.lat L3 _ ra) hn hai (by omega) ((he1.lat (L2.trans L3)).wipe vs) rx hsl htt q2
      · rw [List.getElem?_eq_none (by omega)] at rji
        simp only [List.drop_eq_nil_of_le (show ds.length ≤ i by omega), compL, Res.bind_ok, List.append_nil] at q2
        exact .inl ⟨rji, q2 ρ2 H2 Dd vacc L2 hs2 h0 hn hD ra⟩
    · exact q.elim
  | lst k =>
    simp only [compS] at q
    refine ⟨fun i m H => i + m = sizeLine ∧ LcI w (WE W σ) ρ1 s1.length H1 Dd Q i (fun s => compK g t e (wipeE E1 vs) k m i s) H, ⟨sizeLine, Nat.zero_add _, ρ1, s1, [], [], Lat.fresh h0, hs1.fresh h0, upd_same, RpL.nil, hn0, Nat.zero_le _, ?_⟩, ?_⟩
    · have e1 : ((compK g t e (wipeE E1 vs) k sizeLine 0 s1).bind fun ys s' => (Res.ok ([] ++ ys) s' : Res (List D))) = compK g t e (wipeE E1 vs) k sizeLine 0 s1 := by
        cases compK g t e (wipeE E1 vs) k sizeLine 0 s1 <;> rfl
      rw [e1]; exact q
    rintro i m H2 ⟨him, ⟨ρ2, s2, vacc, acc, L2, hs2, hD, ra, hn, hai, q2⟩⟩
    have rji := rj i ρ2 H2 s2 L2 hs2
    simp only [Src.at] at rji
    cases m with
    | zero => exact q2.elim
    | succ m =>
      simp only [compK] at q2
      cases e0 : s2[k]? with
      | none => rw [e0] at q2; exact q2.elim
      | some ob =>
        cases ob with
        | dic _ => rw [e0] at q2; exact q2.elim
        | ins _ _ => rw [e0] at q2; exact q2.elim
        | lst xs =>
          simp only [e0] at q2 rji
          cases ed : xs[i]? with
          | some d =>
            simp only [ed] at q2 rji
            obtain ⟨go, yl⟩ := rji
            refine .inr ⟨go, LcI w (WE W σ) ρ1 s1.length H1 Dd Q (i + 1) (fun s => compK g t e (wipeE E1 vs) k m (i + 1) s), fun H' z => ⟨m, Nat.lt_succ_self m, by omega, z⟩, fun x H' y => ?_⟩
            obtain ⟨L3, hs3, rx⟩ := yl x H' y
            exact turnC_run h0 (L2.trans L3) hs3 (L3.keep _ _ hD hn) (RpL.lat L3 _ ra) hn hai (by omega) ((he1.lat (L2.trans L3)).wipe vs) rx hsl htt q2
          | none =>
            simp only [ed, Res.bind_ok, List.append_nil] at q2 rji
            exact .inl ⟨rji, q2 ρ2 H2 Dd vacc L2 hs2 h0 hn hD ra⟩
end Y

set_option Elab.async false
set_option linter.all false
set_option maxRecDepth 100000
/-! Y10: dict comprehensions, name = comprehension. -/
namespace Y
open PySem L2

theorem length_putA {κ α : Type} [DecidableEq κ] (kvs : List (κ × α)) (k : κ) (v : α) : (putA kvs k v).length ≤ kvs.length + 1 := by
  unfold putA
  split
  · rw [List.length_map]; omega
  · rw [List.length_append, List.length_singleton]; exact Nat.le_refl _
def RFd (w : Wd) (W : XK) (ρ : Nat → Addr) (n : Nat) (H : Hp) (r : Res (List (Key × D))) (Q : VK) : Prop := match r with
  | .ok ds s' => ∀ ρ' H' a vs, Lat ρ n H ρ' s'.length H' → RS w ρ' H' s' → H a = none → (∀ k, k < s'.length → ρ' k ≠ a) → H' a = some (.dK vs) → RpA w ρ' s'.length H' vs ds → Q (.ref a) H'
  | .exc x s' => ∀ ρ' H' c, Lat ρ n H ρ' s'.length H' → RS w ρ' H' s' → w.mg x = some c → W c none H'
  | .err => False
def tFd (w : Wd) (W : WX) (m : EM (List (Key × D))) : TE := fun σ H Q => ∃ ρ E s, RS w ρ H s ∧ RE w ρ s.length H σ E ∧ RFd w (WE W σ) ρ s.length H (m E s) Q
def eAllocD (m : EM (List (Key × D))) : EM D := fun E s => (m E s).bind fun ds s1 => .ok (.loc s1.length) (s1 ++ [.dic ds])
theorem RFd.lat {w : Wd} {W : XK} {ρ ρ1 : Nat → Addr} {n n1 : Nat} {H H1 : Hp} {r : Res (List (Key × D))} {Q : VK} (h : RFd w W ρ n H r Q) (L : Lat ρ n H ρ1 n1 H1) : RFd w W ρ1 n1 H1 r Q := by
  cases r with
  | ok a s' => exact fun ρ' H' a vs L' hs h0 hn e hr => h ρ' H' a vs (L.trans L') hs (L.dom _ h0) hn e hr
  | exc x s' => exact fun ρ' H' c L' hs hc => h ρ' H' c (L.trans L') hs hc
  | err => exact h
theorem tFd.bind {γ δ : Type} {W : WX} {w : Wd} {R1 : Rl γ δ} {σ : St} {H : Hp} {Q : VK} {m : EM γ} {f : γ → EM (List (Key × D))} (h : tFd w W (fun E s => (m E s).bind fun a s1 => f a E s1) σ H Q) :
    tM w R1 W m σ H fun b H1 => ∃ ρ1 E s1 a, RS w ρ1 H1 s1 ∧ RE w ρ1 s1.length H1 σ E ∧ R1 ρ1 s1.length H1 b a ∧ RFd w (WE W σ) ρ1 s1.length H1 (f a E s1) Q := by
  obtain ⟨ρ, E, s, hs, he, h⟩ := h
  refine ⟨ρ, E, s, hs, he, ?_⟩
  replace h : RFd w (WE W σ) ρ s.length H ((m E s).bind fun a s1 => f a E s1) Q := h
  cases q : m E s with
  | ok a s' => rw [q] at h; exact fun ρ' H' b L hs' hr => ⟨ρ', E, s', a, hs', he.lat L, hr, RFd.lat h L⟩
  | exc x s' => rw [q] at h; exact h
  | err => rw [q] at h; exact h.elim
theorem adoptD {w : Wd} {ρ ρ' : Nat → Addr} {n : Nat} {H H' : Hp} {s' : Sto} {a : Addr} {ho : HO} {o : O} (L : Lat ρ n H ρ' s'.length H') (hs' : RS w ρ' H' s') (h0 : H a = none) (hn : ∀ k, k < s'.length → ρ' k ≠ a) (e : H' a = some ho) (r : RO w ρ' s'.length H' ho o) :
    Lat ρ n H (ext ρ' s'.length a) (s' ++ [o]).length H' ∧ RS w (ext ρ' s'.length a) H' (s' ++ [o]) ∧ Rp w (ext ρ' s'.length a) (s' ++ [o]).length H' (.ref a) (.loc s'.length) := by
  have hl : (s' ++ [o]).length = s'.length + 1 := by simp
  refine ⟨?_, hs'.adopt hn e r, ?_⟩
  · rw [hl]
    refine ⟨Nat.le_succ_of_le L.le, fun k hk => by rw [ext_lt (Nat.lt_of_lt_of_le hk L.le)]; exact L.agree k hk, L.keep, L.froz, L.dom, fun k h1 h2 => ?_⟩
    by_cases hk : k < s'.length
    · rw [ext_lt hk]; exact L.new k h1 hk
    · have : k = s'.length := by omega
      rw [this, ext_eq]; exact h0
  · unfold Rp
    exact ⟨by rw [hl]; exact Nat.lt_succ_self _, by rw [ext_eq]⟩
theorem me_of_fd {X : Cx} {W : WX} {e : Expr} {m : EM (List (Key × D))} (h : PE X e (tFd (wd X) W m)) : ME X W e (eAllocD m) := by
  refine PE.imp h ?_
  rintro σ H Q ⟨ρ, E, s, hs, he, h⟩
  refine ⟨ρ, E, s, hs, he, ?_⟩
  unfold eAllocD at h
  cases q : m E s with
  | ok ds s' =>
    rw [q] at h
    intro ρ' H' a vs L hs' h0 hn e r
    obtain ⟨a1, a2, a3⟩ := adoptD (o := .dic ds) L hs' h0 hn e ⟨vs, rfl, r⟩
    exact h _ H' (.ref a) a1 a2 a3
  | exc x s' => rw [q] at h; exact h
  | err => rw [q] at h; exact h.elim
theorem tS.exFd {w : Wd} {W : WX} {m : EM (List (Key × D))} {k : D → SM} {Dn : Ends} {σ : St} {H : Hp} (h : tS w W (exprS (eAllocD m) k) Dn σ H) :
    tFd w W m σ H fun b H1 => ∃ ρ1 E s1 d, RS w ρ1 H1 s1 ∧ RE w ρ1 s1.length H1 σ E ∧ Rp w ρ1 s1.length H1 b d ∧ SQ w W ρ1 s1.length H1 (k d E s1) Dn := by
  obtain ⟨ρ, E, s, hs, he, h⟩ := h
  refine ⟨ρ, E, s, hs, he, ?_⟩
  unfold exprS eAllocD at h
  cases q : m E s with
  | ok ds s' =>
    rw [q] at h
    simp only [Res.bind_ok] at h
    intro ρ' H' a vs L hs' h0 hn e r
    obtain ⟨a1, a2, a3⟩ := adoptD (o := .dic ds) L hs' h0 hn e ⟨vs, rfl, r⟩
    exact ⟨_, E, _, _, a2, he.lat a1, a3, h.lat a1⟩
  | exc x s1 =>
    rw [q] at h
    exact fun ρ' H' c L hs' hc => h ρ' σ H' c L hs' (he.lat L) hc
  | err => rw [q] at h; exact h

def turnD (g : GM) (t : EM Bool) (ek ev : EM D) (E0 : Ev) (d : D) (s : Sto) : Res (Option (Key × D)) := match g d E0 s with
  | .ok E1 s1 => (noX (t E1 s1)).bind fun b s2 => if b = true then (noX (ek E1 s2)).bind fun y s3 => (noX (ev E1 s3)).bind fun z s4 => match keyD y with
      | some q => .ok (some (q, z)) s4
      | none => .err
    else .ok none s2
  | _ => .err
def putO (o : Option (Key × D)) (acc : List (Key × D)) : List (Key × D) := match o with
  | some p => putA acc p.1 p.2
  | none => acc
def dcompL (g : GM) (t : EM Bool) (ek ev : EM D) (E0 : Ev) : List D → List (Key × D) → Sto → Res (List (Key × D))
  | [], acc, s => .ok acc s
  | d :: ds, acc, s => (turnD g t ek ev E0 d s).bind fun o s1 => dcompL g t ek ev E0 ds (putO o acc) s1
def dcompK (g : GM) (t : EM Bool) (ek ev : EM D) (E0 : Ev) (k : Nat) : Nat → Nat → List (Key × D) → Sto → Res (List (Key × D))
  | 0, _, _, _ => .err
  | n + 1, i, acc, s => match s[k]? with
    | some (.lst xs) => match xs[i]? with
      | some d => (turnD g t ek ev E0 d s).bind fun o s1 => dcompK g t ek ev E0 k n (i + 1) (putO o acc) s1
      | none => .ok acc s
    | _ => .err
def fDc (it : EM Src) (g : GM) (t : EM Bool) (ek ev : EM D) (vs : List Nat) : EM (List (Key × D)) := fun E s => (it E s).bind fun src s1 => match src with
  | .fix ds => if ds.length ≤ sizeLine then dcompL g t ek ev (wipeE E vs) ds [] s1 else .err
  | .lst k => dcompK g t ek ev (wipeE E vs) k sizeLine 0 [] s1
structure DcI (w : Wd) (W : XK) (ρ1 : Nat → Addr) (n1 : Nat) (H1 : Hp) (Dd : Addr) (Q : VK) (i : Nat) (k : List (Key × D) → Sto → Res (List (Key × D))) (H : Hp) : Prop where
  ex : ∃ ρ s vacc acc, Lat ρ1 n1 H1 ρ s.length H ∧ RS w ρ H s ∧ H Dd = some (.dK vacc) ∧ RpA w ρ s.length H vacc acc ∧ (∀ j, j < s.length → ρ j ≠ Dd) ∧ acc.length ≤ i ∧
    RFd w W ρ1 n1 H1 (k acc s) Q
theorem wipe_wipe (σ : St) : ∀ us : List Nat, wipe (wipe σ us) us = wipe σ us
  | [] => rfl
  | u :: us => by
    have ih := wipe_wipe σ us
    have e1 : wipe σ (u :: us) = (wipe σ us).set u none := rfl
    rw [e1]
    rw [wipe_set (wipe σ us) u none (u :: us) (by simp)]
    have e2 : wipe (wipe σ us) (u :: us) = (wipe (wipe σ us) us).set u none := rfl
    rw [e2, ih]
theorem turnD_run {w : Wd} {W : XK} {ρ1 ρ : Nat → Addr} {n1 : Nat} {H1 H : Hp} {Dd : Addr} {Q : VK} {i : Nat} {k : List (Key × D) → Sto → Res (List (Key × D))} {g : GM} {t : EM Bool} {ek ev : EM D} {sl vs : List Nat} {σ : St} {E : Ev} {s : Sto} {x : V} {d : D} {vacc : List (Key × V)} {acc : List (Key × D)} {tt : TT}
    (h0 : H1 Dd = none) (L : Lat ρ1 n1 H1 ρ s.length H) (hs : RS w ρ H s) (hD : H Dd = some (.dK vacc)) (ra : RpA w ρ s.length H vacc acc) (hn : ∀ j, j < s.length → ρ j ≠ Dd) (hi : acc.length ≤ i) (hiz : i < sizeLine) (he : RE w ρ s.length H (wipe σ vs) (wipeE E vs)) (rx : Rp w ρ s.length H x d)
    (hsl : ∀ i ∈ sl, i ∈ vs) (htt : ∀ σ H Q, tM w RB W0 t σ H Q → tt σ H Q)
    (q : RFd w W ρ1 n1 H1 ((turnD g t ek ev (wipeE E vs) d s).bind fun o s1 => k (putO o acc) s1) Q) :
    tG w sl g x (wipe σ vs) H fun σ2 H2 => wipe σ2 vs = wipe σ vs ∧ tt σ2 H2 fun b H3 =>
      if b = true then tM w (Rp w) W0 ek σ2 H3 fun y H4 => tM w (Rp w) W0 ev σ2 H4 fun z H5 => ∃ kvs q, y = kV q ∧ H5 Dd = some (.dK kvs) ∧ kvs.length < sizeLine ∧ DcI w W ρ1 n1 H1 Dd Q (i + 1) k (upd H5 Dd (.dK (putK kvs q z))) else DcI w W ρ1 n1 H1 Dd Q (i + 1) k H3 := by
  refine ⟨ρ, wipeE E vs, s, d, hs, he, rx, ?_⟩
  unfold turnD at q
  cases z : g d (wipeE E vs) s with
  | exc y s1 => rw [z] at q; exact q.elim
  | err => rw [z] at q; exact q.elim
  | ok E1 s1 =>
    simp only [z] at q
    intro ρ2 σ2 H2 L2 hs2 he2 out
    refine ⟨(out vs hsl).trans (wipe_wipe σ vs), htt _ _ _ ⟨ρ2, E1, s1, hs2, he2, ?_⟩⟩
    have nn : ∀ {ρ3 : Nat → Addr} {n3 : Nat} {H3 : Hp}, Lat ρ s.length H ρ3 n3 H3 → ∀ j, j < n3 → ρ3 j ≠ Dd := fun {ρ3 n3 H3} L3 j hj ej => by
      by_cases hl : j < s.length
      · exact hn j hl ((L3.agree j hl).symm.trans ej)
      · have := L3.new j (Nat.le_of_not_lt hl) hj
        rw [ej, hD] at this; cases this
    cases z1 : t E1 s1 with
    | exc y s2 => simp only [z1, noX, Res.bind_err] at q; exact q.elim
    | err => simp only [z1, noX, Res.bind_err] at q; exact q.elim
    | ok b s2 =>
      simp only [z1, noX, Res.bind_ok] at q
      intro ρ3 H3 b' L3 hs3 eb
      cases eb
      have L23 := L2.trans L3
      have hD3 : H3 Dd = some (.dK vacc) := L23.keep Dd _ hD hn
      cases b with
      | false =>
        rw [if_neg Bool.false_ne_true] at q ⊢
        simp only [Res.bind_ok, putO] at q
        exact ⟨ρ3, s2, vacc, acc, L.trans L23, hs3, hD3, RpA.lat L23 _ ra, nn L23, Nat.le_succ_of_le hi, q⟩
      | true =>
        rw [if_pos rfl] at q ⊢
        refine ⟨ρ3, E1, s2, hs3, he2.lat L3, ?_⟩
        cases z2 : ek E1 s2 with
        | exc y s3 => simp only [z2, noX, Res.bind_err] at q; exact q.elim
        | err => simp only [z2, noX, Res.bind_err] at q; exact q.elim
        | ok y s3 =>
          simp only [z2, noX, Res.bind_ok] at q
          intro ρ4 H4 v4 L4 hs4 r4
          have L24 := L23.trans L4
          refine ⟨ρ4, E1, s3, hs4, he2.lat (L3.trans L4), ?_⟩
          cases z3 : ev E1 s3 with
          | exc y s3 => simp only [z3, noX, Res.bind_err] at q; exact q.elim
          | err => simp only [z3, noX, Res.bind_err] at q; exact q.elim
          | ok y2 s4 =>
            simp only [z3, noX, Res.bind_ok] at q
            intro ρ5 H5 v5 L5 hs5 r5
            cases ek : keyD y with
            | none => rw [ek] at q; exact q.elim
            | some qk =>
              simp only [ek, Res.bind_ok, putO] at q
              have L25 := L24.trans L5
              have hD5 : H5 Dd = some (.dK vacc) := L25.keep Dd _ hD hn
              have nf : ¬ Fz (HO.dK vacc) := id
              refine ⟨vacc, qk, keyD_ok r4 ek, hD5, by rw [RpA.length ra]; omega, ρ5, s4, _, putA acc qk y2, Lat.frame (L.trans L25) h0, hs5.fr hD5 nf (nn L25), upd_same, RpA.fr hD5 nf _ (RpA.put r5 qk (RpA.lat L25 _ ra)), nn L25, by have := length_putA acc qk y2; omega, q⟩
theorem dc_red {w : Wd} {W : WX} {it : EM Src} {g : GM} {t : EM Bool} {ek ev : EM D} {sl vs : List Nat} {tt : TT} (hsl : ∀ i ∈ sl, i ∈ vs) (htt : ∀ σ H Q, tM w RB W0 t σ H Q → tt σ H Q) {σ : St} {H : Hp} {Q : VK} (h : tFd w W (fDc it g t ek ev vs) σ H Q) :
    tDc (tM w (RJ w) W it) (tG w sl g) tt (tM w (Rp w) W0 ek) (tM w (Rp w) W0 ev) vs σ H Q := by
  unfold fDc at h
  obtain ⟨ρ, E, s, hs, he, h⟩ := tFd.bind (R1 := RJ w) (m := it) h
  refine ⟨ρ, E, s, hs, he, RQ.mono h ?_⟩
  rintro J H1 ⟨ρ1, E1, s1, src, hs1, he1, rj, q⟩ Dd h0
  have hn0 : ∀ j, j < s1.length → ρ1 j ≠ Dd := fun j hj => hs1.ne h0 hj
  cases src with
  | fix ds =>
    simp only at q
    split at q
    · rename_i hz
      refine ⟨fun i m H => i ≤ ds.length ∧ m = ds.length - i ∧ DcI w (WE W σ) ρ1 s1.length H1 Dd Q i (fun acc s => dcompL g t ek ev (wipeE E1 vs) (ds.drop i) acc s) H, ⟨ds.length, Nat.zero_le _, rfl, ρ1, s1, [], [], Lat.fresh h0, hs1.fresh h0, upd_same, RpA.nil, hn0, Nat.zero_le _, by rw [List.drop_zero]; exact q⟩, ?_⟩
      rintro i m H2 ⟨hi, rfl, ⟨ρ2, s2, vacc, acc, L2, hs2, hD, ra, hn, hai, q2⟩⟩
      have rji := rj i ρ2 H2 s2 L2 hs2
      simp only [Src.at] at rji
      by_cases hlt : i < ds.length
      · rw [List.getElem?_eq_getElem hlt] at rji
        obtain ⟨go, yl⟩ := rji
        refine .inr ⟨go, DcI w (WE W σ) ρ1 s1.length H1 Dd Q (i + 1) (fun acc s => dcompL g t ek ev (wipeE E1 vs) (ds.drop (i + 1)) acc s), fun H' z => ⟨ds.length - (i + 1), by omega, hlt, rfl, z⟩, fun x H' y => ?_⟩
        obtain ⟨L3, hs3, rx⟩ := yl x H' y
        simp only [List.drop_eq_getElem_cons hlt, dcompL] at q2
        exact turnD_run (k := fun acc s => dcompL g t ek ev (wipeE E1 vs) (ds.drop (i + 1)) acc s) h0 (L2.trans L3) hs3 (L3.keep _ _ hD hn) (RpA.lat L3 _ ra) hn hai (by omega) ((he1.lat (L2.trans L3)).wipe vs) rx hsl htt q2
      · rw [List.getElem?_eq_none (by omega)] at rji
        simp only [List.drop_eq_nil_of_le (show ds.length ≤ i by omega), dcompL] at q2
        exact .inl ⟨rji, q2 ρ2 H2 Dd vacc L2 hs2 h0 hn hD ra⟩
    · exact q.elim
  | lst k =>
    simp only at q
    refine ⟨fun i m H => i + m = sizeLine ∧ DcI w (WE W σ) ρ1 s1.length H1 Dd Q i (fun acc s => dcompK g t ek ev (wipeE E1 vs) k m i acc s) H, ⟨sizeLine, Nat.zero_add _, ρ1, s1, [], [], Lat.fresh h0, hs1.fresh h0, upd_same, RpA.nil, hn0, Nat.zero_le _, q⟩, ?_⟩
    rintro i m H2 ⟨him, ⟨ρ2, s2, vacc, acc, L2, hs2, hD, ra, hn, hai, q2⟩⟩
    have rji := rj i ρ2 H2 s2 L2 hs2
    simp only [Src.at] at rji
    cases m with
    | zero => exact q2.elim
    | succ m =>
      simp only [dcompK] at q2
      cases e0 : s2[k]? with
      | none => rw [e0] at q2; exact q2.elim
      | some ob =>
        cases ob with
        | dic _ => rw [e0] at q2; exact q2.elim
        | ins _ _ => rw [e0] at q2; exact q2.elim
        | lst xs =>
          simp only [e0] at q2 rji
          cases ed : xs[i]? with
          | some d =>
            simp only [ed] at q2 rji
            obtain ⟨go, yl⟩ := rji
            refine .inr ⟨go, DcI w (WE W σ) ρ1 s1.length H1 Dd Q (i + 1) (fun acc s => dcompK g t ek ev (wipeE E1 vs) k m (i + 1) acc s), fun H' z => ⟨m, Nat.lt_succ_self m, by omega, z⟩, fun x H' y => ?_⟩
            obtain ⟨L3, hs3, rx⟩ := yl x H' y
            exact turnD_run (k := fun acc s => dcompK g t ek ev (wipeE E1 vs) k m (i + 1) acc s) h0 (L2.trans L3) hs3 (L3.keep _ _ hD hn) (RpA.lat L3 _ ra) hn hai (by omega) ((he1.lat (L2.trans L3)).wipe vs) rx hsl htt q2
          | none =>
            simp only [ed] at q2 rji
            exact .inl ⟨rji, q2 ρ2 H2 Dd vacc L2 hs2 h0 hn hD ra⟩

/-! ### the rules -/
section
variable {X : Cx} {W : WX} {elt kx vx tg iter : Expr} {ifs : List Expr} {scope : Scope} {own : List (Str × Nat)} {pos spos : Pos} {it : EM Src} {g : GM} {t : EM Bool} {e ek ev : EM D} {sl : List Nat}
/-- what a comprehension's block wants -/
structure Blk (X : Cx) (scope : Scope) (tg : Expr) (ifs : List Expr) (sl : List Nat) (g : GM) (t : EM Bool) (tt : TT) : Prop where
  bg : ∀ (s : Shared) (H : Hp) (C : Addr) (cl : List (Str × Addr)) (fp : List Addr), MG (X.blk s H scope (compEnvC scope cl C X.env) fp) tg sl g
  bt : ∀ (s : Shared) (H : Hp) (C : Addr) (cl : List (Str × Addr)) (fp : List Addr), PTs (X.blk s H scope (compEnvC scope cl C X.env) fp) ifs tt
  tt : ∀ σ H Q, tM (wd X) RB W0 t σ H Q → tt σ H Q
abbrev MEb (X : Cx) (scope : Scope) (e : Expr) (m : EM D) : Prop := ∀ (s : Shared) (H : Hp) (C : Addr) (cl : List (Str × Addr)) (fp : List Addr), ME (X.blk s H scope (compEnvC scope cl C X.env) fp) W0 e m
theorem mf_lc {tt : TT} (hc : X.calm = true) (hN : X.N.Nodup) (hi : MI X W tg iter it) (ok : BlkOk X.N X.env.scope scope own) (B : Blk X scope tg ifs sl g t tt) (he : MEb X scope elt e) (hsl : ∀ i ∈ sl, i ∈ own.map (·.2)) (hs : ∀ x, foldedSetIterable iter X.env x = pure x) :
    MF X W (.ListComp elt [⟨tg, iter, ifs, 0⟩] scope pos) (fLc it g t e (own.map (·.2))) :=
  PE.imp (pe_lc hc hN hi ok B.bg B.bt he hs) fun _ _ _ h => lc_red hsl B.tt h
theorem md_dc {tt : TT} (hc : X.calm = true) (hN : X.N.Nodup) (hi : MI X W tg iter it) (ok : BlkOk X.N X.env.scope scope own) (B : Blk X scope tg ifs sl g t tt) (hk : MEb X scope kx ek) (hv : MEb X scope vx ev) (hsl : ∀ i ∈ sl, i ∈ own.map (·.2)) (hs : ∀ x, foldedSetIterable iter X.env x = pure x) :
    PE X (.DictComp kx vx [⟨tg, iter, ifs, 0⟩] scope pos) (tFd (wd X) W (fDc it g t ek ev (own.map (·.2)))) :=
  PE.imp (pe_dc hc hN hi ok B.bg B.bt hk hv hs) fun _ _ _ h => dc_red hsl B.tt h
theorem ms_setLc {tt : TT} {i : Nat} {y : Str} {py : Pos} (hc : X.calm = true) (hN : X.N.Nodup) (hy : X.N[i]? = some y) (hyl : X.env.scope.names.lookup y = some .local)
    (hsw : swapsWith (.ListComp elt [⟨tg, iter, ifs, 0⟩] scope pos) (some (.Name y py)) spos.line X.env = pure true) (hi : MI X W tg iter it) (ok : BlkOk X.N X.env.scope scope own) (B : Blk X scope tg ifs sl g t tt) (he : MEb X scope elt e) (hsl : ∀ i ∈ sl, i ∈ own.map (·.2)) (hs : ∀ x, foldedSetIterable iter X.env x = pure x) :
    MS X W (.Assign [.Name y py] (.ListComp elt [⟨tg, iter, ifs, 0⟩] scope pos) spos) (sSet i (eAlloc (fLc it g t e (own.map (·.2))))) := by
  refine PS.imp (ps_setLc (te := tM (wd X) (Rp (wd X)) W0 e) (g := tG (wd X) sl g) hc hN hy hyl hsw hi ok B.bg B.bt he hs) fun Dn σ H h => ?_
  refine lc_red hsl B.tt ?_
  obtain ⟨ρ, E, s, hs, he, h⟩ := tS.exF h
  refine ⟨ρ, E, s, hs, he, ?_⟩
  cases q : fLc it g t e (own.map (·.2)) E s with
  | ok ds s' =>
    rw [q] at h
    intro ρ' H' a vs L hs' h0 hn e r
    obtain ⟨ρ1, E1, s1, d, hs1, he1, r1, q1⟩ := h ρ' H' a vs L hs' h0 hn e r
    exact q1 ρ1 _ H' Lat.refl hs1 (he1.set i r1)
  | exc x s' => rw [q] at h; exact h
  | err => rw [q] at h; exact h
theorem ps_setDc {i : Nat} {y : Str} {py : Pos} {wi : TI} {g : TG} {tt : TT} {tk tv : TE} (hc : X.calm = true) (hN : X.N.Nodup) (hy : X.N[i]? = some y) (hyl : X.env.scope.names.lookup y = some .local)
    (hsw : swapsWith (.DictComp kx vx [⟨tg, iter, ifs, 0⟩] scope pos) (some (.Name y py)) spos.line X.env = pure true) (hi : PI X tg iter wi) (ok : BlkOk X.N X.env.scope scope own)
    (hg : ∀ (s : Shared) (H : Hp) (C : Addr) (cl : List (Str × Addr)) (fp : List Addr), PG (X.blk s H scope (compEnvC scope cl C X.env) fp) tg g) (ht : ∀ (s : Shared) (H : Hp) (C : Addr) (cl : List (Str × Addr)) (fp : List Addr), PTs (X.blk s H scope (compEnvC scope cl C X.env) fp) ifs tt)
    (hk : ∀ (s : Shared) (H : Hp) (C : Addr) (cl : List (Str × Addr)) (fp : List Addr), PE (X.blk s H scope (compEnvC scope cl C X.env) fp) kx tk)
    (he : ∀ (s : Shared) (H : Hp) (C : Addr) (cl : List (Str × Addr)) (fp : List Addr), PE (X.blk s H scope (compEnvC scope cl C X.env) fp) vx tv) (hs : ∀ x, foldedSetIterable iter X.env x = pure x) :
    PS X (.Assign [.Name y py] (.DictComp kx vx [⟨tg, iter, ifs, 0⟩] scope pos) spos) (tAsg (tDc wi g tt tk tv (own.map (·.2))) (gName i)) := by
  refine ⟨fun pins s σ H D I h => ?_⟩
  rw [exec_Assign_Name_used _ _ _ _ hsw]
  refine wpAny_bind (wpAny_standAt (wpAny_bind ?_))
  show wpAny _ X.A (do let _ ← comprehension (.DictComp kx vx [⟨tg, iter, ifs, 0⟩] scope pos) scope X.env (firstIterPos [⟨tg, iter, ifs, 0⟩] pos) newDict false (eval iter X.env) (some (assign (.Name y py) X.env))) _ _ s
  have h : tDc wi g tt tk tv (own.map (·.2)) σ H (fun x H1 => gName i x σ H1 D.nx) := h
  refine wpAny_bind (thn (dc_core (Qf := fun _ s' => SP X pins D .next s') hc hN I hi ok hg ht hk he hs h fun L C s' m H' I' q hn f => ?_) fun _ s' hq => wpAny_pure (wpAny_pure hq))
  show wpAny _ _ (assign (.Name y py) X.env (.ref L)) _ _ _
  refine wpAny_assign_Name (store_ok2 (v := V.ref L) I' hN hy (.inl hyl) rfl (fun s2 I2 ⟨a, sb, ha⟩ => ?_) (.inr hyl))
  obtain ⟨f0, f1, f2, f3, f4, f5⟩ := f
  have haC : C ≠ a := by
    rcases ha with z | z
    · rw [z]; exact f1
    · exact fun e => f4 y a z e.symm
  refine ⟨m, hn.sameBut sb haC, fun h3 sb3 => ?_⟩
  exact ⟨_, H', I2.turned (t' := s2.toks) (fun b o hb e => (sb3.2 b hb).trans e) f0 f1 f3 f4 f5, q⟩
theorem ms_setDc {tt : TT} {i : Nat} {y : Str} {py : Pos} (hc : X.calm = true) (hN : X.N.Nodup) (hy : X.N[i]? = some y) (hyl : X.env.scope.names.lookup y = some .local)
    (hsw : swapsWith (.DictComp kx vx [⟨tg, iter, ifs, 0⟩] scope pos) (some (.Name y py)) spos.line X.env = pure true) (hi : MI X W tg iter it) (ok : BlkOk X.N X.env.scope scope own) (B : Blk X scope tg ifs sl g t tt) (hk : MEb X scope kx ek) (hv : MEb X scope vx ev) (hsl : ∀ i ∈ sl, i ∈ own.map (·.2)) (hs : ∀ x, foldedSetIterable iter X.env x = pure x) :
    MS X W (.Assign [.Name y py] (.DictComp kx vx [⟨tg, iter, ifs, 0⟩] scope pos) spos) (sSet i (eAllocD (fDc it g t ek ev (own.map (·.2))))) := by
  refine PS.imp (ps_setDc (tk := tM (wd X) (Rp (wd X)) W0 ek) (tv := tM (wd X) (Rp (wd X)) W0 ev) (g := tG (wd X) sl g) hc hN hy hyl hsw hi ok B.bg B.bt hk hv hs) fun Dn σ H h => ?_
  refine dc_red hsl B.tt ?_
  obtain ⟨ρ, E, s, hs, he, h⟩ := tS.exFd h
  refine ⟨ρ, E, s, hs, he, ?_⟩
  cases q : fDc it g t ek ev (own.map (·.2)) E s with
  | ok ds s' =>
    rw [q] at h
    intro ρ' H' a vs L hs' h0 hn e r
    obtain ⟨ρ1, E1, s1, d, hs1, he1, r1, q1⟩ := h ρ' H' a vs L hs' h0 hn e r
    exact q1 ρ1 _ H' Lat.refl hs1 (he1.set i r1)
  | exc x s' => rw [q] at h; exact h
  | err => rw [q] at h; exact h
end
/-! ### a dict that is written out, with texts as keys -/
def fPairs : List (Str × EM D) → EM (List (Key × D))
  | [] => fun _ s => .ok [] s
  | (x, m) :: r => fun E s => (m E s).bind fun d s1 => (fPairs r E s1).bind fun ds s2 => .ok ((.inr x, d) :: ds) s2
def eDisp (ps : List (Str × EM D)) : EM D := fun E s => (fPairs ps E (s ++ [.dic []])).bind fun kvs s1 => match s1[s.length]? with
  | some (.dic []) => .ok (.loc s.length) (s1.set s.length (.dic (mergeA [] kvs)))
  | _ => .err
section
variable {X : Cx} {W : WX}
def kvR (w : Wd) : Rl (List (Key × D)) (List (V × V)) := fun ρ n H ps kvs => ∃ rs : List (Key × V), ps = rs.map (fun kv => (kV kv.1, kv.2)) ∧ RpA w ρ n H rs kvs
def trsOf (w : Wd) (W : WX) (ps : List (Str × EM D)) : List (TE × TE) := ps.map fun p => (tC (.str p.1), tM w (Rp w) W p.2)
theorem pairs_run {w : Wd} : ∀ (ps : List (Str × EM D)) {σ : St} {H : Hp} {Q : List (V × V) → Hp → Prop}, tM w (kvR w) W (fPairs ps) σ H Q → tPairs (trsOf w W ps) σ H Q
  | [], σ, H, Q, h => by
    obtain ⟨ρ, E, s, hs, he, h⟩ := h
    exact h ρ H [] Lat.refl hs ⟨[], rfl, RpA.nil⟩
  | (x, m) :: r, σ, H, Q, h => by
    obtain ⟨ρ, E, s, hs, he, h⟩ := tM.bind (R1 := Rp w) (m := m) (f := fun d E s1 => (fPairs r E s1).bind fun ds s2 => .ok ((.inr x, d) :: ds) s2) h
    show tC (.str x) σ H fun a H1 => tM w (Rp w) W m σ H1 fun b H2 => tPairs (trsOf w W r) σ H2 fun qs H3 => Q ((a, b) :: qs) H3
    refine ⟨ρ, E, s, hs, he, RQ.mono h ?_⟩
    rintro b H2 ⟨ρ1, E1, s1, d, hs1, he1, rd, hq⟩
    refine pairs_run r ⟨ρ1, E1, s1, hs1, he1, ?_⟩
    cases z : fPairs r E1 s1 with
    | ok ds s2 =>
      rw [z] at hq
      rintro ρ' H' qs L hs' ⟨rs, rfl, ra⟩
      exact hq ρ' H' _ L hs' ⟨(.inr x, b) :: rs, rfl, RpA.cons (Rp.lat L _ rd) ra⟩
    | exc y s2 => rw [z] at hq; exact hq
    | err => rw [z] at hq; exact hq.elim
theorem me_disp {pos : Pos} {keys : List (Option Expr)} {values : List Expr} {ps : List (Str × EM D)} (h : PPs X pos keys values (trsOf (wd X) W ps)) (hall : keys.all (·.isSome) = true) (hl : keys.length = values.length) (h0 : keys ≠ []) (h15 : keys.length ≤ 15) (hp : ps.length ≤ 15) :
    ME X W (.Dict keys values pos) (eDisp ps) := by
  refine PE.imp (pe_disp h hall hl h0 h15) ?_
  rintro σ H Q ⟨ρ, E, s, hs, he, h⟩ p hp0
  have L0 : Lat ρ s.length H (ext ρ s.length p) (s ++ [O.dic []]).length (upd H p (.dK [])) := by
    rw [List.length_append, List.length_singleton]; exact Lat.alloc hp0
  have hs0 : RS (wd X) (ext ρ s.length p) (upd H p (.dK [])) (s ++ [.dic []]) := hs.alloc hp0 ⟨[], rfl, RpA.nil⟩
  refine pairs_run ps ⟨ext ρ s.length p, E, s ++ [.dic []], hs0, he.lat L0, ?_⟩
  unfold eDisp at h
  have lenP : ∀ (qs : List (Str × EM D)) (E : Ev) (s : Sto) kvs s1, fPairs qs E s = .ok kvs s1 → kvs.length = qs.length := fun qs => by
    induction qs with
    | nil => intro E s kvs s1 e; cases e; rfl
    | cons q r ih =>
      intro E s kvs s1 e
      obtain ⟨x, m⟩ := q
      simp only [fPairs] at e
      cases z : m E s with
      | ok d s2 =>
        rw [z] at e
        simp only [Res.bind_ok] at e
        cases z2 : fPairs r E s2 with
        | ok ds s3 => rw [z2] at e; cases e; rw [List.length_cons, List.length_cons, ih _ _ _ _ z2]
        | exc y s3 => rw [z2] at e; cases e
        | err => rw [z2] at e; cases e
      | exc y s2 => rw [z] at e; cases e
      | err => rw [z] at e; cases e
  cases z : fPairs ps E (s ++ [.dic []]) with
  | ok kvs s1 =>
    rw [z] at h
    simp only [Res.bind_ok] at h
    rintro ρ' H' qs L hs' ⟨rs, rfl, ra⟩
    split at h
    · rename_i e1
      obtain ⟨ho, h1, vs, rfl, r1⟩ := hs'.get e1
      have hlt : s.length < s1.length := (List.getElem?_eq_some_iff.mp e1).1
      have ea : ρ' s.length = p := by
        have q := L.agree s.length (by rw [List.length_append, List.length_singleton]; exact Nat.lt_succ_self _)
        rw [ext_eq] at q
        first | exact q | exact q.symm
      rw [r1.inv0, ea] at h1
      refine ⟨h1, rs, rfl, by rw [RpA.length ra, lenP _ _ _ _ _ z]; exact hp, ?_⟩
      have LL := L0.trans L
      have hset := RS.set hs' hlt (ho := .dK (mergeK [] rs)) (o := .dic (mergeA [] kvs)) ⟨_, rfl, RpA.merge ra RpA.nil⟩
      have Lset : Lat ρ' s1.length H' ρ' s1.length (upd H' (ρ' s.length) (.dK (mergeK [] rs))) := Lat.set hs' hlt _ rfl
      rw [ea] at hset Lset
      have hl : (s1.set s.length (.dic (mergeA [] kvs))).length = s1.length := List.length_set
      exact h ρ' _ (.ref p) (by rw [hl]; exact LL.trans Lset) hset (by unfold Rp; exact ⟨by rw [hl]; exact hlt, by rw [ea]⟩)
    · exact h.elim
  | exc y s1 => rw [z] at h; exact fun ρ' H' c L hs' hc => h ρ' H' c (L0.trans L) hs' hc
  | err => rw [z] at h; exact h.elim
end
end Y

set_option Elab.async false
set_option linter.all false
set_option maxRecDepth 100000
/-! Ye: split, enumerate of a fresh list. -/
namespace Y
open PySem L2
def enumD (xs : List D) : List D := (xs.zipIdx).map fun p => .tup [.int (p.2 : Int), p.1]
theorem enumD_at {xs : List D} {i : Nat} : (enumD xs)[i]? = (xs[i]?).map fun d => .tup [.int (i : Int), d] := by
  unfold enumD
  rw [List.getElem?_map, List.getElem?_zipIdx]
  cases xs[i]? <;> simp
theorem rj_enum {w : Wd} {ρ : Nat → Addr} {n : Nat} {H : Hp} {a : Addr} {vs : List V} {ds : List D} (e : H a = some (.lst vs)) (hn : ∀ k, k < n → ρ k ≠ a) (r : RpL w ρ n H vs ds) : RJ w ρ n H (Ite w.K a) (.fix (enumD ds)) := by
  intro i ρ1 H1 s1 L hs
  simp only [Src.at, enumD_at]
  have sq1 : SqL w.K H1 a vs := SqL.of (L.keep a _ e hn)
  have r1 := RpL.lat L _ r
  cases e : ds[i]? with
  | none => exact ⟨vs, sq1, by rw [RpL.length r]; exact List.getElem?_eq_none_iff.mp e⟩
  | some d =>
    obtain ⟨v, e1, rv⟩ := r1.get e
    refine ⟨⟨vs, v, sq1, e1⟩, ?_⟩
    rintro x' H2 ⟨T, x2, rfl, hT, rfl, h1⟩
    have q1 := h1 vs sq1
    rw [e1] at q1; cases q1
    have L1 : Lat ρ1 s1.length H1 ρ1 s1.length (upd H1 T (.tup [.int (i : Nat), v])) := Lat.fresh hT
    refine ⟨L1, hs.fresh hT, ?_⟩
    unfold Rp
    exact ⟨T, [.int (i : Nat), v], rfl, SqU.of upd_same, RpL.two (Rp.int _) (Rp.lat L1 _ rv)⟩
def iEnumF (m : EM (List D)) : EM Src := fun E s => (m E s).bind fun ds s1 => .ok (.fix (enumD ds)) s1
theorem mi_enumF {X : Cx} {W : WX} {e : Expr} {m : EM (List D)} {p pos tpos : Pos} {elts : List Expr} {kk : Nat} (hg : Gl X "enumerate") (hm : X.mg "enumerate" = none) (h : MF X W e m) (hst : starEach [e] X.env = [(false, eval e X.env)]) :
    MI X W (.Tuple elts kk tpos) (.Call (.Name "enumerate" p) [e] [] pos) (iEnumF m) := by
  refine PI.imp (pi_enum hg hm (pa_cons h pa_nil (by rw [hst]; simp [starEach])) hst) fun σ H R h => ?_
  obtain ⟨ρ, E, s, hs, he, h⟩ := h
  refine ⟨ρ, E, s, hs, he, ?_⟩
  simp only [iEnumF] at h
  cases q : m E s with
  | ok ds s' =>
    rw [q] at h
    intro ρ' H' a vs L hs' h0 hn e r
    exact ⟨a, vs, rfl, SqL.of e, h ρ' H' _ L hs' (rj_enum e hn r)⟩
  | exc x s' => rw [q] at h; exact h
  | err => rw [q] at h; exact h
def fSplit (o a : EM D) : EM (List D) := fun E s => (o E s).bind fun d s1 => match d with
  | .str x => (a E s1).bind fun e s2 => match e with
    | .str y => if (y.length == 0) = false ∧ x.length + 2 ≤ sizeLine then .ok ((Txt.split x y).map .str) s2 else .err
    | _ => .err
  | _ => .err
theorem mf_split {X : Cx} {W : WX} {o e : Expr} {mo me : EM D} {apos pos : Pos} (ho : ME X W o mo) (he : ME X W e me) (hs : starEach [e] X.env = [(false, eval e X.env)]) (hbase : attributeBase o "split" X.env (eval o X.env) = eval o X.env) (hline : (apos.endLine == pos.line) = true) :
    MF X W (.Call (.Attribute o "split" apos) [e] [] pos) (fSplit mo me) := by
  refine PE.imp (pe_m1 F.slot_str_split F.type_str_split mt_split ho he hs hbase hline) fun σ H Q h => ?_
  obtain ⟨ρ, E, s, hs, he, h⟩ := tF.bind (R1 := Rp (wd X)) (m := mo) h
  refine ⟨ρ, E, s, hs, he, RQ.mono h ?_⟩
  rintro x H1 ⟨ρ1, E1, s1, d, hs1, he1, r1, h⟩
  split at h
  · rename_i a
    obtain rfl := r1.str_
    refine ⟨⟨_, rfl⟩, ρ1, E1, s1, hs1, he1, RQ.mono (RF.bind (R1 := Rp (wd X)) h) ?_⟩
    rintro y H2 ⟨ρ2, s2, e2, L2, hs2, r2, h⟩
    split at h
    · rename_i b
      split at h
      · rename_i hc
        obtain rfl := r2.str_
        refine ⟨a, b, rfl, rfl, hc.1, hc.2, fun p hp => ?_⟩
        exact RF.new h hs2 (RpL.strs _) hp
      · exact h.elim
    · exact h.elim
  · exact h.elim
end Y

set_option Elab.async false
set_option linter.all false
set_option maxRecDepth 100000
/-! Y11: what a piece of syntax means (dE, dT, .., dB), and that it is so. -/
namespace Y
open PySem L2

structure Sx where
  N : List Str
  sc : Scope
  fn : Str → Bool
structure Ctx where
  blt : Str → Bool
  cst : Str → Option D
  fn : Str → Option (Nat × (List D → Sto → Res D))
  exs : Str → Bool
  sub : Str → Str → Option Bool
  fld : Str → Str → Bool
  isM : Str → Bool
  mth : MthT
  mak : Str → Nat → Option (List D × (List D → Sto → Res D))
structure OkX (C : Ctx) (S : Sx) (X : Cx) : Prop where
  hN : X.N = S.N
  hsc : X.env.scope = S.sc
  hfn : X.fn = S.fn
  calm : X.calm = true
  nd : S.N.Nodup
  room : Room 0 X.A
  blt : ∀ x, C.blt x = true → X.mg x = none
  cst : ∀ x d, C.cst x = some d → ∃ u v, X.mg x = some u ∧ RelV v u ∧ ∀ ρ n H, Rp (wd X) ρ n H v d
  fns : ∀ x n F, C.fn x = some (n, F) → FnG X x n F
  kind : S.sc.kind = .function
  exs : ∀ x, C.exs x = true → ExOk X.K X.mg x
  sub : ∀ x y b, C.sub x y = some b → SubOk X.K X.mg x y b
  fld : ∀ c f, C.fld c f = true → FldOk X.K X.mg c f
  mth : ∀ c m n dd F, C.mth c m n = some (dd, F) → MtG X c m n dd F
  mak : ∀ c n dd F, C.mak c n = some (dd, F) → MkG X c n dd F

def slotN : List Str → Str → Option Nat
  | [], _ => none
  | y :: r, x => if y = x then some 0 else (slotN r x).map (· + 1)
theorem slotN_ok : ∀ {N : List Str} {x : Str} {i : Nat}, slotN N x = some i → N[i]? = some x
  | [], x, i, h => by cases h
  | y :: r, x, i, h => by
    unfold slotN at h
    split at h
    · rename_i e; cases h; subst e; rfl
    · cases e : slotN r x with
      | none => rw [e] at h; cases h
      | some j => rw [e] at h; cases h; exact slotN_ok (N := r) e
def okName (x : Str) : Bool := !(x == ("__debug__" : Str)) && !(x == ("__classdict__" : Str)) && !(x == ("__name__" : Str))
def visB (sc : Scope) (x : Str) : Bool := match sc.names.lookup x with
  | some .local => true
  | some .cell => true
  | some .free => true
  | _ => false
def locB (S : Sx) (x : Str) : Bool := match S.sc.names.lookup x with
  | some .local => true
  | some .cell => S.fn x
  | _ => false
def glB (sc : Scope) (x : Str) : Bool := match sc.names.lookup x with
  | some .globalImplicit => true
  | _ => false
theorem visB_ok {sc : Scope} {x : Str} (h : visB sc x = true) : Vis sc x := by
  unfold visB at h
  split at h
  · exact .inl (by assumption)
  · exact .inr (.inl (by assumption))
  · exact .inr (.inr (by assumption))
  · cases h
theorem locB_ok {S : Sx} {x : Str} (h : locB S x = true) : Loc S.sc x ∧ (S.fn x = true ∨ S.sc.names.lookup x = some .local) := by
  unfold locB at h
  split at h
  · exact ⟨.inl (by assumption), .inr (by assumption)⟩
  · exact ⟨.inr (by assumption), .inl h⟩
  · cases h
theorem glB_ok {sc : Scope} {x : Str} (h : glB sc x = true) : sc.names.lookup x = some .globalImplicit := by
  unfold glB at h
  split at h
  · assumption
  · cases h
theorem okName_ok {x : Str} (h : okName x = true) : (x == ("__debug__" : Str)) = false ∧ (x == ("__classdict__" : Str)) = false ∧ x ≠ "__name__" := by
  unfold okName at h
  simp only [Bool.and_eq_true, Bool.not_eq_true'] at h
  exact ⟨h.1.1, h.1.2, fun e => by have := h.2; rw [e] at this; simp at this⟩
def tyName (x : Str) : Option String :=
  if x = "int" then some "int" else if x = "str" then some "str" else if x = "tuple" then some "tuple" else if x = "bool" then some "bool" else if x = "list" then some "list" else if x = "dict" then some "dict" else none
theorem tyName_ok {x : Str} {t : String} (h : tyName x = some t) : bootBuiltins x = some (.type t) := by
  unfold tyName at h
  repeat' split at h
  all_goals first | (cases h; done) | skip
  all_goals (cases h; subst_vars; decide +kernel)
def dName (C : Ctx) (S : Sx) (x : Str) : EM D :=
  if okName x = true then
    if visB S.sc x = true then
      match slotN S.N x with
      | some i => eVar i
      | none => eErr
    else if glB S.sc x = true then
      match C.cst x with
      | some d => eC d
      | none => if C.blt x = true then
          match tyName x with
          | some t => eC (.ty t)
          | none => eErr
        else eErr
    else eErr
  else eErr
def dConst : Const → EM D
  | .none => eC .non
  | .bool b => eC (.bl b)
  | .int i => eC (.int i)
  | .str x => eC (.str x)
  | _ => eErr
def isStar : Expr → Bool
  | .Starred _ _ => true
  | _ => false
def noStar (es : List Expr) : Bool := es.all fun e => !isStar e
theorem star_cons {e : Expr} {es : List Expr} {env : Env} (h : isStar e = false) : starEach (e :: es) env = (false, eval e env) :: starEach es env := by
  cases e <;> first | (cases h; done) | (simp only [starEach]; done)
theorem star_no {env : Env} {pos : Pos} : ∀ {es : List Expr}, noStar es = true → (backTo pos (starEach es env)).any (·.1) = false
  | [], _ => by simp [starEach, backTo]
  | e :: es, h => by
    unfold noStar at h
    rw [List.all_cons, Bool.and_eq_true, Bool.not_eq_true'] at h
    rw [star_cons h.1]
    show (false || (backTo pos (starEach es env)).any (·.1)) = false
    rw [star_no (es := es) h.2]; rfl
theorem star_all {env : Env} {pos : Pos} : ∀ {es : List Expr}, noStar es = true → (backTo pos (starEach es env)).all (fun x => !x.1) = true
  | [], _ => by simp [starEach, backTo]
  | e :: es, h => by
    unfold noStar at h
    rw [List.all_cons, Bool.and_eq_true, Bool.not_eq_true'] at h
    rw [star_cons h.1]
    show (!false && (backTo pos (starEach es env)).all (fun x => !x.1)) = true
    rw [star_all (es := es) h.2]; rfl
theorem assign_no {env : Env} : ∀ {es : List Expr}, noStar es = true → (assignEach es env).length = es.length ∧ (assignEach es env).findIdx? (·.1) = none ∧ (assignEach es env).map (·.2) = es.map (fun e => assign e env)
  | [], _ => by simp [assignEach]
  | e :: es, h => by
    unfold noStar at h
    rw [List.all_cons, Bool.and_eq_true, Bool.not_eq_true'] at h
    have ih := assign_no (env := env) (es := es) h.2
    have e1 : assignEach (e :: es) env = (false, assign e env) :: assignEach es env := by
      cases e <;> first | (cases h.1; done) | (simp only [assignEach]; done)
    rw [e1]
    refine ⟨by simp [ih.1], ?_, by simp [ih.2.2]⟩
    rw [List.findIdx?_cons]
    simp [ih.2.1]
def isSup : Expr → Bool
  | .Call (.Name _ _) [] [] _ => true
  | _ => false
theorem base_ok {o : Expr} {m : Str} {env : Env} {whole : Sem Value} (h : isSup o = false) : attributeBase o m env whole = whole := by
  unfold attributeBase
  split
  · cases h
  · rfl
def isComp : Expr → Bool
  | .ListComp _ _ _ _ => true
  | .SetComp _ _ _ _ => true
  | .DictComp _ _ _ _ _ => true
  | _ => false
theorem swaps_no {e : Expr} {t : Option Expr} {l : Nat} {env : Env} (h : isComp e = false) : swapsWith e t l env = pure false := by
  cases e <;> first | (cases h; done) | (unfold swapsWith; rfl)
def isNameE : Expr → Bool
  | .Name _ _ => true
  | _ => false
theorem swaps_tg {e t : Expr} {l : Nat} {env : Env} (h : isNameE t = false) : swapsWith e (some t) l env = pure false := by
  cases hc : isComp e with
  | false => exact swaps_no hc
  | true =>
    cases e <;> first | (cases hc; done) | skip
    all_goals (unfold swapsWith; cases t <;> first | (cases h; done) | rfl)
def isTupE : Expr → Bool
  | .Tuple _ _ _ => true
  | _ => false
theorem swapped_no {t e : Expr} {env : Env} (h : isTupE e = false) : swappedStores [t] e env = pure none := by
  unfold swappedStores
  cases e <;> first | (cases h; done) | (cases t <;> rfl)
def isSet : Expr → Bool
  | .Set _ _ _ => true
  | _ => false
theorem folded_ok {e : Expr} {env : Env} (h : isSet e = false) : ∀ x, foldedSetIterable e env x = pure x := by
  intro x
  unfold foldedSetIterable
  cases e <;> first | (cases h; done) | rfl
def plainT : Expr → Bool
  | .UnaryOp .Not _ _ => false
  | .BoolOp _ _ _ => false
  | .IfExp _ _ _ _ => false
  | .Compare _ _ _ _ => false
  | _ => true
theorem plainT_ok {e : Expr} {env : Env} (h : plainT e = true) : ∀ whole, isTrue e env whole = (do let v ← whole; standAt e.pos; holding [v] (truthy v)) := by
  intro whole
  cases e with
  | UnaryOp op x p => cases op <;> first | (cases h; done) | rfl
  | BoolOp _ _ _ => cases h
  | IfExp _ _ _ _ => cases h
  | Compare _ _ _ _ => cases h
  | _ => rfl
/-- built-ins that are called by name -/
def bNames : List Str := ["tuple", "sum", "all", "any", "sorted", "list", "len", "abs", "int", "isinstance", "range", "dict", "zip", "str", "ord", "divmod", "enumerate"]
def bKind (x : Str) : Nat := match slotN bNames x with
  | some i => i + 1
  | none => 0
theorem bKind_ok {x : Str} {i : Nat} (h : bKind x = i + 1) : bNames[i]? = some x := by
  unfold bKind at h
  split at h
  · rename_i j e
    have : j = i := by omega
    subst this
    exact slotN_ok e
  · cases h
/-- o.split(..) -/
def spK (m : Str) (o : Expr) (apos pos : Pos) (args : List Expr) : Bool := decide (m = "split") && !isSup o && (apos.endLine == pos.line) && (match args with
  | [a] => !isStar a
  | _ => false)
theorem spK_ok {m : Str} {o : Expr} {apos pos : Pos} {args : List Expr} (h : spK m o apos pos args = true) : m = "split" ∧ isSup o = false ∧ (apos.endLine == pos.line) = true ∧ ∃ a, args = [a] ∧ isStar a = false := by
  unfold spK at h
  simp only [Bool.and_eq_true, decide_eq_true_eq, Bool.not_eq_true'] at h
  obtain ⟨⟨⟨h1, h2⟩, h3⟩, h4⟩ := h
  refine ⟨h1, h2, h3, ?_⟩
  split at h4
  · rename_i a; exact ⟨a, rfl, by simpa using h4⟩
  · cases h4
/-- which list functions make a fresh list -/
def frK (C : Ctx) (S : Sx) (e : Expr) : Nat := match e with
  | .ListComp _ [⟨_, _, _, 0⟩] _ _ => 1
  | .Call (.Name x _) [a] [] _ => if glB S.sc x = true ∧ C.blt x = true ∧ isStar a = false then
      if bKind x = 5 then 2 else if bKind x = 6 then 3 else 0
    else 0
  | .Call (.Attribute o m apos) args [] pos => if spK m o apos pos args = true then 5 else 0
  | .Subscript _ (.Slice none none (some (.UnaryOp .USub (.Constant (.int 1) _ _) _)) _) _ => 4
  | _ => 0
def ownOf (S : Sx) (scope : Scope) : List (Str × Nat) := scope.names.filterMap fun y => match y.2 with
  | .local => (slotN S.N y.1).map fun i => (y.1, i)
  | .cell => (slotN S.N y.1).map fun i => (y.1, i)
  | _ => none
def Sx.blk (S : Sx) (scope : Scope) : Sx := ⟨S.N, relS scope S.sc, fun x => scope.names.lookup x == some .cell⟩
def dictNew : EM D := fun _ s => .ok (.loc s.length) (s ++ [.dic []])
mutual
def gSlots (S : Sx) : Nat → Expr → List Nat
  | 0, _ => []
  | n + 1, e => match e with
    | .Name x _ => (slotN S.N x).toList
    | .Tuple es _ _ => gsSlots S n es
    | _ => []
def gsSlots (S : Sx) : Nat → List Expr → List Nat
  | 0, _ => []
  | n + 1, es => match es with
    | [] => []
    | e :: es => gSlots S n e ++ gsSlots S n es
end
def tYesM : EM Bool := fun _ s => .ok true s
mutual
def dE (C : Ctx) (S : Sx) : Nat → Expr → EM D
  | 0, _ => eErr
  | n + 1, e => match e with
    | .Name x _ => dName C S x
    | .Constant c _ _ => dConst c
    | .BinOp a op b _ => eBin (pBin op) (dE C S n a) (dE C S n b)
    | .UnaryOp op a _ => match op with
      | .Not => eNt (dE C S n a)
      | .USub => eUn pNeg (dE C S n a)
      | _ => eErr
    | .Compare a ops bs _ => match ops, bs with
      | [op], [b] => if behindInMarks op b = false then eBin (pCmp op) (dE C S n a) (dE C S n b) else eErr
      | _, _ => eErr
    | .BoolOp op vs _ => dBo C S n op vs
    | .IfExp c a b _ => eIf (dT C S n c) (dE C S n a) (dE C S n b)
    | .Tuple es _ _ => if noStar es = true then eA mkTup (dA C S n es) else eErr
    | .List es _ => if noStar es = true then eA mkLst (dA C S n es) else eErr
    | .Dict ks vs _ => match ks, vs with
      | [], [] => dictNew
      | ks, vs => if ks.length = vs.length ∧ ks.length ≤ 15 ∧ ks ≠ [] then
          match dPs C S n ks vs with
          | some ps => eDisp ps
          | none => eErr
        else eErr
    | .ListComp elt gs scope p => if frK C S (.ListComp elt gs scope p) = 0 then eErr else eAlloc (dF C S n (.ListComp elt gs scope p))
    | .DictComp kx vx gs scope _ => match gs with
      | [⟨tg, iter, ifs, 0⟩] => eAllocD (dDc C S n kx vx tg iter ifs scope)
      | _ => eErr
    | .Subscript a i p => if frK C S (.Subscript a i p) = 0 then
        match i with
        | .Slice lo hi none _ => eSl (dE C S n a) (dO C S n lo) (dO C S n hi)
        | i => if isSl i = false then eBin pIx (dE C S n a) (dE C S n i) else eErr
      else eAlloc (dF C S n (.Subscript a i p))
    | .Call f args kws pos => match kws with
      | [] => match f with
        | .Name x _ => if frK C S (.Call f args [] pos) = 0 then dCall C S n x args else eAlloc (dF C S n (.Call f args [] pos))
        | .Attribute o m apos => if frK C S (.Call f args [] pos) = 0 then
            if noStar args = true ∧ isSup o = false ∧ (apos.endLine == pos.line) = true ∧ args.length < 29 then
              if C.isM m = true then
                match args with
                | [] => eMethI C.mth m 0 (dE C S n o) aNil
                | a :: as => eMethI C.mth m (a :: as).length (dE C S n o) (dA C S n (a :: as))
              else
                match args with
                | [] => eMeth m (dE C S n o) aNil
                | a :: as => eMeth m (dE C S n o) (dA C S n (a :: as))
            else eErr
          else eAlloc (dF C S n (.Call f args [] pos))
        | _ => eErr
      | _ => eErr
    | .Attribute o f _ => if isSup o = false then eFld C.fld f (dE C S n o) else eErr
    | _ => eErr
def dPs (C : Ctx) (S : Sx) : Nat → List (Option Expr) → List Expr → Option (List (Str × EM D))
  | 0, _, _ => none
  | n + 1, ks, vs => match ks, vs with
    | [], [] => some []
    | some (.Constant (.str x) _ _) :: ks, v :: vs => match dPs C S n ks vs with
      | some ps => some ((x, dE C S n v) :: ps)
      | none => none
    | _, _ => none
def dCall (C : Ctx) (S : Sx) : Nat → Str → List Expr → EM D
  | 0, _, _ => eErr
  | n + 1, x, args => if okName x = true ∧ glB S.sc x = true ∧ noStar args = true then
      if C.blt x = true then
        match args with
        | [] => eErr
        | [a] => match bKind x with
          | 1 => eL lTup (dLs C S n a)
          | 2 => eL lSum (dLl C S n a)
          | 3 => eL lAll (dLl C S n a)
          | 4 => eL lAny (dLl C S n a)
          | 7 => eA pLen (dA C S n [a])
          | 8 => eA pAbs (dA C S n [a])
          | 9 => eA pIntC (dA C S n [a])
          | 12 => eA pDict (dA C S n [a])
          | 14 => eA pStr (dA C S n [a])
          | 15 => eA pOrd (dA C S n [a])
          | _ => eErr
        | a :: b :: as => match bKind x with
          | 10 => eA pIsi (dA C S n (a :: b :: as))
          | 16 => eA pDivmod (dA C S n (a :: b :: as))
          | _ => eErr
      else match C.fn x with
        | some (k, F) => match args with
          | [] => if k = 0 then eCall 0 F aNil else eErr
          | a :: as => eCall k F (dA C S n (a :: as))
        | none => match C.mak x args.length with
          | some (dd, F) => match args with
            | [] => eMake x 0 dd F aNil
            | a :: as => eMake x (a :: as).length dd F (dA C S n (a :: as))
          | none => eErr
    else eErr
def dLs (C : Ctx) (S : Sx) : Nat → Expr → EM (List D)
  | 0, _ => eErr
  | n + 1, e => if frK C S e = 0 then lOfE (dE C S n e) else dF C S n e
def dLl (C : Ctx) (S : Sx) : Nat → Expr → EM (List D)
  | 0, _ => eErr
  | n + 1, e => if frK C S e = 0 then lOfL (dE C S n e) else dF C S n e
def dF (C : Ctx) (S : Sx) : Nat → Expr → EM (List D)
  | 0, _ => eErr
  | n + 1, e => match e with
    | .ListComp elt gs scope _ => match gs with
      | [⟨tg, iter, ifs, 0⟩] => if blkC S.N S.sc scope (ownOf S scope) = true ∧ isSet iter = false ∧ ((gSlots (S.blk scope) n tg).all fun i => ((ownOf S scope).map (·.2)).contains i) = true then
          fLc (dI C S n (isTupE tg) iter) (dG C (S.blk scope) n tg) (dIfs C (S.blk scope) n ifs) (dE C (S.blk scope) n elt) ((ownOf S scope).map (·.2))
        else eErr
      | _ => eErr
    | .Call f args _ _ => match f, args with
      | .Name x _, [a] => if bKind x = 5 then (if frK C S a = 0 then fSorted (dE C S n a) else fSortedL (dF C S n a)) else fList (dLs C S n a)
      | .Attribute o _ _, [a] => fSplit (dE C S n o) (dE C S n a)
      | _, _ => eErr
    | .Subscript a _ _ => fRev (dE C S n a)
    | _ => eErr
def dDc (C : Ctx) (S : Sx) : Nat → Expr → Expr → Expr → Expr → List Expr → Scope → EM (List (Key × D))
  | 0, _, _, _, _, _, _ => eErr
  | n + 1, kx, vx, tg, iter, ifs, scope => if blkC S.N S.sc scope (ownOf S scope) = true ∧ isSet iter = false ∧ ((gSlots (S.blk scope) n tg).all fun i => ((ownOf S scope).map (·.2)).contains i) = true then
      fDc (dI C S n (isTupE tg) iter) (dG C (S.blk scope) n tg) (dIfs C (S.blk scope) n ifs) (dE C (S.blk scope) n kx) (dE C (S.blk scope) n vx) ((ownOf S scope).map (·.2))
    else eErr
def dIfs (C : Ctx) (S : Sx) : Nat → List Expr → EM Bool
  | 0, _ => eErr
  | n + 1, es => match es with
    | [] => tYesM
    | [c] => dT C S n c
    | _ => eErr
def dI (C : Ctx) (S : Sx) : Nat → Bool → Expr → EM Src
  | 0, _, _ => iErr
  | n + 1, tb, e => if frK C S e = 0 then
      match e with
      | .Call (.Name x p) args kws pos => if bKind x = 11 ∧ C.blt x = true ∧ glB S.sc x = true ∧ noStar args = true then
          match args, kws with
          | [a], [] => iRng1' (dA C S n [a])
          | [a, b], [] => iRng2' (dA C S n [a, b])
          | [a, b, c], [] => iRng3' (dA C S n [a, b, c])
          | _, _ => iErr
        else if bKind x = 13 ∧ C.blt x = true ∧ glB S.sc x = true ∧ noStar args = true ∧ tb = true then
          match args, kws with
          | [a, b], [] => iZip' (dA C S n [a, b])
          | _, _ => iErr
        else if bKind x = 17 ∧ C.blt x = true ∧ glB S.sc x = true ∧ noStar args = true ∧ tb = true then
          match args, kws with
          | [a], [] => if frK C S a = 0 then iErr else iEnumF (dF C S n a)
          | _, _ => iErr
        else iVal (dE C S n (.Call (.Name x p) args kws pos))
      | e => iVal (dE C S n e)
    else iFix (dF C S n e)
def dA (C : Ctx) (S : Sx) : Nat → List Expr → EM (List D)
  | 0, _ => eErr
  | n + 1, es => match es with
    | [] => aNil
    | e :: es => if isStar e = false then aCons (dE C S n e) (dA C S n es) else eErr
def dO (C : Ctx) (S : Sx) : Nat → Option Expr → EM (Option Int)
  | 0, _ => eErr
  | n + 1, e => match e with
    | none => oNone
    | some e => oSome (dE C S n e)
def dT (C : Ctx) (S : Sx) : Nat → Expr → EM Bool
  | 0, _ => eErr
  | n + 1, e => match e with
    | .UnaryOp op a p => match op with
      | .Not => tNt (dT C S n a)
      | op => tOfT (dE C S n (.UnaryOp op a p))
    | .BoolOp op vs _ => dW C S n op vs
    | .Compare a ops bs _ => match ops, bs with
      | [op], [b] => if behindInMarks op b = false then tOfB (eBin (pCmp op) (dE C S n a) (dE C S n b)) else eErr
      | _, _ => eErr
    | .IfExp _ _ _ _ => eErr
    | e => tOfT (dE C S n e)
def dW (C : Ctx) (S : Sx) : Nat → BoolOp → List Expr → EM Bool
  | 0, _, _ => eErr
  | n + 1, op, vs => match vs with
    | [] => eErr
    | [a] => dT C S n a
    | a :: b :: r => match op with
      | .And => tAn (dT C S n a) (dW C S n .And (b :: r))
      | .Or => tOr' (dT C S n a) (dW C S n .Or (b :: r))
def dBo (C : Ctx) (S : Sx) : Nat → BoolOp → List Expr → EM D
  | 0, _, _ => eErr
  | n + 1, op, vs => match vs with
    | [] => eErr
    | [a] => dE C S n a
    | a :: b :: r => match op with
      | .And => eAn (dE C S n a) (dBo C S n .And (b :: r))
      | .Or => eOr (dE C S n a) (dBo C S n .Or (b :: r))
def dG (C : Ctx) (S : Sx) : Nat → Expr → GM
  | 0, _ => gErr
  | n + 1, e => match e with
    | .Name x _ => if locB S x = true then
        match slotN S.N x with
        | some i => gNm i
        | none => gErr
      else gErr
    | .Tuple es _ _ => if noStar es = true then gTp es.length (dGs C S n es) else gErr
    | .Subscript o i _ => if isSl i = false then gSb (dE C S n o) (dE C S n i) else gErr
    | _ => gErr
def dGs (C : Ctx) (S : Sx) : Nat → List Expr → GMs
  | 0, _ => fun _ _ _ => .err
  | n + 1, es => match es with
    | [] => gsNil
    | e :: es => if isStar e = false then gsCons (dG C S n e) (dGs C S n es) else fun _ _ _ => .err
end
mutual
def dS (C : Ctx) (S : Sx) : Nat → Stmt → SM
  | 0, _ => sErr
  | n + 1, st => match st with
    | .Pass _ => sNil
    | .Break _ => sBreak
    | .Continue _ => sCont
    | .Return e _ => match e with
      | some e => sRet (dE C S n e)
      | none => sRetN
    | .Expr e _ => if isComp e = false then sExpr (dE C S n e) else sErr
    | .If c a b _ => sIf (dT C S n c) (dB C S n a) (dB C S n b)
    | .While c b els _ => match els with
      | [] => sWhile (dT C S n c) (dB C S n b)
      | _ => sErr
    | .For tg iter b els _ => match els with
      | [] => if isSet iter = false then sFor (dI C S n (isTupE tg) iter) (dG C S n tg) (dB C S n b) else sErr
      | _ => sErr
    | .Assign tgs e pos => match tgs with
      | [.Name x _] => if locB S x = true then
          match slotN S.N x with
          | some i => sSet i (dE C S n e)
          | none => sErr
        else sErr
      | [.Attribute o f _] => sFldM C.fld f (dE C S n o) (dE C S n e)
      | [tg] => if isStar tg = false ∧ isTupE e = false then sAsg (dG C S n tg) (dE C S n e) else sErr
      | _ => sErr
    | .AugAssign tg op e _ => match tg with
      | .Name x _ => if locB S x = true then
          match slotN S.N x with
          | some i => sAug i op (dE C S n e)
          | none => sErr
        else sErr
      | .Attribute o f _ => sFldAugM C.fld f op (dE C S n o) (dE C S n e)
      | _ => sErr
    | .Raise e c _ => match e, c with
      | some (.Call (.Name x _) [.Constant (.str _) _ _] [] _), none => if C.exs x = true ∧ glB S.sc x = true ∧ okName x = true then sRaise x else sErr
      | _, _ => sErr
    | .Try body hs els fin _ => match hs, els, fin with
      | [.ExceptHandler (some (.Name y _)) (some v) [.Return (some (.Call (.Name f _) [.Name v2 _, .Name z _] [] _)) _] _], [], [] =>
        if (f = "isinstance" ∧ v2 = v) ∧ (C.blt f = true ∧ glB S.sc f = true) ∧ (glB S.sc y = true ∧ okName y = true ∧ (C.sub y y).isSome = true) ∧ (glB S.sc z = true ∧ okName z = true) ∧ okName v = true ∧ visB S.sc v = true ∧ S.sc.names.lookup v = some .local then
          match slotN S.N v with
          | some i => sTryI i (dB C S n body) y z C.sub
          | none => sErr
        else sErr
      | _ :: _, [], [] => sTryQ (dB C S n body)
      | _, _, _ => sErr
    | _ => sErr
def dB (C : Ctx) (S : Sx) : Nat → List Stmt → SM
  | 0, _ => sErr
  | n + 1, sts => match sts with
    | [] => sNil
    | st :: sts => sCons (dS C S n st) (dB C S n sts)
end
end Y

set_option Elab.async false
set_option linter.all false
set_option maxRecDepth 100000
set_option maxHeartbeats 4000000
/-! Y12: the meaning is right. -/
namespace Y
open PySem L2

structure Snd (C : Ctx) (n : Nat) : Prop where
  e : ∀ {S X W}, OkX C S X → Takes X W → ∀ e, ME X W e (dE C S n e)
  call : ∀ {S X W}, OkX C S X → Takes X W → ∀ x args np pos, ME X W (.Call (.Name x np) args [] pos) (dCall C S n x args)
  ls : ∀ {S X W}, OkX C S X → Takes X W → ∀ e, ML X W e (dLs C S n e)
  ll : ∀ {S X W}, OkX C S X → Takes X W → ∀ e, MLl X W e (dLl C S n e)
  f : ∀ {S X W}, OkX C S X → Takes X W → ∀ e, frK C S e ≠ 0 → MF X W e (dF C S n e)
  dc : ∀ {S X W}, OkX C S X → Takes X W → ∀ kx vx tg iter ifs scope pos, PE X (.DictComp kx vx [⟨tg, iter, ifs, 0⟩] scope pos) (tFd (wd X) W (dDc C S n kx vx tg iter ifs scope))
  ifs : ∀ {S} (w : Wd) (es : List Expr), ∃ tt : TT, (∀ X, OkX C S X → wd X = w → PTs X es tt) ∧ ∀ σ H Q, tM w RB W0 (dIfs C S n es) σ H Q → tt σ H Q
  i : ∀ {S X W}, OkX C S X → Takes X W → ∀ tg e, MI X W tg e (dI C S n (isTupE tg) e)
  a : ∀ {S X W}, OkX C S X → Takes X W → ∀ es, MA X W es (dA C S n es)
  ps : ∀ {S X W}, OkX C S X → Takes X W → ∀ pos ks vs l, dPs C S n ks vs = some l → PPs X pos ks vs (trsOf (wd X) W l) ∧ l.length = ks.length ∧ ks.all (·.isSome) = true
  o : ∀ {S X W}, OkX C S X → Takes X W → ∀ e, MO X W e (dO C S n e)
  t : ∀ {S X W}, OkX C S X → Takes X W → ∀ e, MT X W e (dT C S n e)
  w : ∀ {S X W}, OkX C S X → Takes X W → ∀ op vs pos, MW X W (.BoolOp op vs pos) (dW C S n op vs)
  bo : ∀ {S X W}, OkX C S X → Takes X W → ∀ op vs pos, ME X W (.BoolOp op vs pos) (dBo C S n op vs)
  g : ∀ {S X}, OkX C S X → ∀ tg, MG X tg (gSlots S n tg) (dG C S n tg)
  gs : ∀ {S X}, OkX C S X → ∀ es, MGs X es (gsSlots S n es) (dGs C S n es)

section
variable {C : Ctx} {S : Sx} {X : Cx} {W : WX}
theorem OkX.gl (ok : OkX C S X) {x : Str} (h : glB S.sc x = true) : Gl X x := by
  show X.env.scope.names.lookup x = _
  rw [ok.hsc]
  exact glB_ok h
theorem OkX.blk (ok : OkX C S X) {scope : Scope} (hk : scope.kind = .function) (s : Shared) (H : Hp) (Cc : Addr) (cl : List (Str × Addr)) (fp : List Addr) : OkX C (S.blk scope) (X.blk s H scope (compEnvC scope cl Cc X.env) fp) where
  hN := ok.hN
  hsc := by
    show relS scope X.env.scope = relS scope S.sc
    rw [ok.hsc]
  hfn := rfl
  calm := ok.calm
  nd := ok.nd
  room := ok.room
  blt := ok.blt
  cst := ok.cst
  fns := fun x n F h => let ⟨z⟩ := ok.fns x n F h; ⟨z⟩
  kind := hk
  exs := ok.exs
  sub := ok.sub
  fld := ok.fld
  mth := fun c m n dd F h => let ⟨z⟩ := ok.mth c m n dd F h; ⟨z⟩
  mak := fun c n dd F h => let ⟨z⟩ := ok.mak c n dd F h; ⟨z⟩
theorem blkC_kind {N : List Str} {sc scope : Scope} {own : List (Str × Nat)} (h : blkC N sc scope own = true) : scope.kind = .function := (blkOk_by h).kind
theorem me_name (ok : OkX C S X) (x : Str) (p : Pos) : ME X W (.Name x p) (dName C S x) := by
  unfold dName
  by_cases h1 : okName x = true
  · rw [if_pos h1]
    obtain ⟨a1, a2, a3⟩ := okName_ok h1
    by_cases h2 : visB S.sc x = true
    · rw [if_pos h2]
      cases e : slotN S.N x with
      | none => exact me_err
      | some i => exact me_var (by rw [ok.hN]; exact slotN_ok e) (by rw [ok.hsc]; exact visB_ok h2) a1 a2
    · rw [if_neg h2]
      by_cases h3 : glB S.sc x = true
      · rw [if_pos h3]
        cases e : C.cst x with
        | some d =>
          obtain ⟨u, v, hm, rv, rp⟩ := ok.cst x d e
          exact me_const (pe_glob (ok.gl h3) hm rv a1) rp
        | none =>
          by_cases h4 : C.blt x = true
          · simp only [if_pos h4]
            cases e2 : tyName x with
            | none => exact me_err
            | some t => exact me_const (pe_bltn (v := .ty t) (ok.gl h3) (ok.blt x h4) (tyName_ok e2) rfl a3 a1) fun _ _ _ => by unfold Rp; rfl
          · simp only [if_neg h4]; exact me_err
      · rw [if_neg h3]; exact me_err
  · rw [if_neg h1]; exact me_err
theorem me_cons (c : Const) (k : Nat) (p : Pos) : ME X W (.Constant c k p) (dConst c) := by
  cases c with
  | none => exact me_non
  | bool b => exact me_bl
  | int i => exact me_int
  | str x => exact me_str
  | _ => exact me_err
theorem me_dict {p : Pos} : ME X W (.Dict [] [] p) dictNew := by
  refine PE.imp pe_dnewK ?_
  rintro σ H Q ⟨ρ, E, s, hs, he, h⟩ p hp
  exact RQ.obj h hs ⟨[], rfl, RpA.nil⟩ hp
theorem mgs_err {es : List Expr} {sl : List Nat} : MGs X es sl (fun _ _ _ => .err) := ⟨fun _ _ _ _ _ _ _ _ _ h => by obtain ⟨_, _, _, _, _, _, _, h⟩ := h; exact h.elim⟩
theorem mg_err' {tg : Expr} {sl : List Nat} : MG X tg sl gErr := ⟨fun _ _ _ _ _ _ _ _ _ h => by obtain ⟨_, _, _, _, _, _, _, h⟩ := h; exact h.elim⟩
theorem mo_err {e : Option Expr} : MO X W e eErr := ⟨fun _ _ _ _ _ _ h => (tM_err h).elim⟩
theorem mf_err {e : Expr} : MF X W e eErr := ⟨fun _ _ _ _ _ _ h => by obtain ⟨_, _, _, _, _, h⟩ := h; exact h.elim⟩
theorem md_err {e : Expr} : PE X e (tFd (wd X) W eErr) := ⟨fun _ _ _ _ _ _ h => by obtain ⟨_, _, _, _, _, h⟩ := h; exact h.elim⟩
theorem mll_err {e : Expr} : MLl X W e eErr := ⟨fun _ _ _ _ _ _ h => (tM_err h).elim⟩
end
theorem snd0 (C : Ctx) : Snd C 0 where
  e := fun _ _ _ => by unfold dE; exact me_err
  call := fun _ _ _ _ _ _ => by unfold dCall; exact me_err
  ls := fun _ _ _ => by unfold dLs; exact ml_err
  ll := fun _ _ _ => by unfold dLl; exact mll_err
  f := fun _ _ _ _ => by unfold dF; exact mf_err
  dc := fun _ _ _ _ _ _ _ _ _ => by unfold dDc; exact md_err
  ifs := fun w es => ⟨fun _ _ _ => False, fun X ok _ => ⟨fun _ _ _ _ _ _ h => h.elim⟩, fun _ _ _ h => by unfold dIfs at h; exact (tM_err h).elim⟩
  i := fun _ _ _ _ => by unfold dI; exact mi_err
  a := fun _ _ _ => by unfold dA; exact ma_err
  ps := fun _ _ _ _ _ _ h => by unfold dPs at h; cases h
  o := fun _ _ _ => by unfold dO; exact mo_err
  t := fun _ _ _ => by unfold dT; exact mt_err
  w := fun _ _ _ _ _ => by unfold dW; exact mw_err
  bo := fun _ _ _ _ _ => by unfold dBo; exact me_err
  g := fun _ _ => by unfold dG; exact mg_err'
  gs := fun _ _ => by unfold dGs; exact mgs_err
section
variable {C : Ctx} {n : Nat} (ih : Snd C n)
include ih
theorem snd_a {S : Sx} {X : Cx} {W : WX} (ok : OkX C S X) (tk : Takes X W) (es : List Expr) : MA X W es (dA C S (n + 1) es) := by
  cases es with
  | nil => simp only [dA]; exact ma_nil
  | cons e es =>
    simp only [dA]
    by_cases h : isStar e = false
    · rw [if_pos h]; exact ma_cons (ih.e ok tk e) (ih.a ok tk es) (star_cons h)
    · rw [if_neg h]; exact ma_err
theorem snd_ps {S : Sx} {X : Cx} {W : WX} (ok : OkX C S X) (tk : Takes X W) (pos : Pos) (ks : List (Option Expr)) (vs : List Expr) (l : List (Str × EM D)) (h : dPs C S (n + 1) ks vs = some l) : PPs X pos ks vs (trsOf (wd X) W l) ∧ l.length = ks.length ∧ ks.all (·.isSome) = true := by
  simp only [dPs] at h
  split at h
  · cases h; exact ⟨pps_nil, rfl, rfl⟩
  · rename_i x k p ks v vs
    split at h
    · rename_i ps e
      cases h
      obtain ⟨h1, h2, h3⟩ := ih.ps ok tk pos ks vs ps e
      exact ⟨pps_cons pe_str (ih.e ok tk v) h1, by rw [List.length_cons, List.length_cons, h2], by rw [List.all_cons, h3]; rfl⟩
    · cases h
  · cases h
theorem snd_o {S : Sx} {X : Cx} {W : WX} (ok : OkX C S X) (tk : Takes X W) (e : Option Expr) : MO X W e (dO C S (n + 1) e) := by
  cases e with
  | none => simp only [dO]; exact mo_none
  | some e => simp only [dO]; exact mo_some (ih.e ok tk e)
theorem snd_w {S : Sx} {X : Cx} {W : WX} (ok : OkX C S X) (tk : Takes X W) (op : BoolOp) (vs : List Expr) (pos : Pos) : MW X W (.BoolOp op vs pos) (dW C S (n + 1) op vs) := by
  cases vs with
  | nil => simp only [dW]; exact mw_err
  | cons a r =>
    cases r with
    | nil =>
      simp only [dW]
      cases op with
      | And => exact mw_and1 (ih.t ok tk a)
      | Or => exact mw_or1 (ih.t ok tk a)
    | cons b r =>
      simp only [dW]
      cases op with
      | And => exact mw_and (ih.t ok tk a) (ih.w ok tk .And (b :: r) pos)
      | Or => exact mw_or (ih.t ok tk a) (ih.w ok tk .Or (b :: r) pos)
theorem snd_bo {S : Sx} {X : Cx} {W : WX} (ok : OkX C S X) (tk : Takes X W) (op : BoolOp) (vs : List Expr) (pos : Pos) : ME X W (.BoolOp op vs pos) (dBo C S (n + 1) op vs) := by
  cases vs with
  | nil => simp only [dBo]; exact me_err
  | cons a r =>
    cases r with
    | nil => simp only [dBo]; exact pe_one (ih.e ok tk a)
    | cons b r =>
      simp only [dBo]
      cases op with
      | And => exact me_and (ih.e ok tk a) (ih.bo ok tk .And (b :: r) pos)
      | Or => exact me_or (ih.e ok tk a) (ih.bo ok tk .Or (b :: r) pos)
theorem snd_ls {S : Sx} {X : Cx} {W : WX} (ok : OkX C S X) (tk : Takes X W) (e : Expr) : ML X W e (dLs C S (n + 1) e) := by
  simp only [dLs]
  by_cases h : frK C S e = 0
  · rw [if_pos h]; exact ml_of (ih.e ok tk e)
  · rw [if_neg h]; exact ml_of_mf (ih.f ok tk e h)
theorem snd_ll {S : Sx} {X : Cx} {W : WX} (ok : OkX C S X) (tk : Takes X W) (e : Expr) : MLl X W e (dLl C S (n + 1) e) := by
  simp only [dLl]
  by_cases h : frK C S e = 0
  · rw [if_pos h]; exact mll_of (ih.e ok tk e)
  · rw [if_neg h]; exact mll_of_mf (ih.f ok tk e h)
theorem snd_ifs {S : Sx} (w : Wd) (es : List Expr) : ∃ tt : TT, (∀ X, OkX C S X → wd X = w → PTs X es tt) ∧ ∀ σ H Q, tM w RB W0 (dIfs C S (n + 1) es) σ H Q → tt σ H Q := by
  cases es with
  | nil =>
    refine ⟨tYes, fun X _ _ => pts_nil, fun σ H Q h => ?_⟩
    simp only [dIfs] at h
    obtain ⟨ρ, E, s, hs, he, h⟩ := h
    exact h ρ H true Lat.refl hs rfl
  | cons c r =>
    cases r with
    | nil =>
      refine ⟨tM w RB W0 (dT C S n c), fun X ok e => ?_, fun σ H Q h => by simpa only [dIfs] using h⟩
      subst e
      exact pts_one (ih.t ok takes0 c)
    | cons d r => exact ⟨fun _ _ _ => False, fun X ok _ => ⟨fun _ _ _ _ _ _ h => h.elim⟩, fun _ _ _ h => by simp only [dIfs] at h; exact (tM_err h).elim⟩
theorem snd_g {S : Sx} {X : Cx} (ok : OkX C S X) (tg : Expr) : MG X tg (gSlots S (n + 1) tg) (dG C S (n + 1) tg) := by
  cases tg with
  | Name x p =>
    simp only [dG, gSlots]
    by_cases h : locB S x = true
    · rw [if_pos h]
      obtain ⟨h1, h2⟩ := locB_ok h
      cases e : slotN S.N x with
      | none => exact mg_err'
      | some i => exact mg_name (by rw [ok.hN]; exact ok.nd) (by rw [ok.hN]; exact slotN_ok e) (by rw [ok.hsc]; exact h1) (by rw [ok.hsc, ok.hfn]; exact h2)
    · rw [if_neg h]; exact mg_err'
  | Tuple es k p =>
    simp only [dG, gSlots]
    by_cases h : noStar es = true
    · rw [if_pos h]
      obtain ⟨h1, h2, h3⟩ := assign_no (env := X.env) h
      exact mg_tup ok.calm (ih.gs ok es) h1 h2
    · rw [if_neg h]; exact mg_err'
  | Subscript o i p =>
    simp only [dG, gSlots]
    by_cases h : isSl i = false
    · rw [if_pos h]
      refine mg_sub ok.room (ih.e ok takes0 o) (ih.e ok takes0 i) fun v => ?_
      cases i <;> first | (cases h; done) | rfl
    · rw [if_neg h]; exact mg_err'
  | _ => simp only [dG]; exact mg_err'
theorem snd_gs {S : Sx} {X : Cx} (ok : OkX C S X) (es : List Expr) : MGs X es (gsSlots S (n + 1) es) (dGs C S (n + 1) es) := by
  cases es with
  | nil => simp only [dGs, gsSlots]; exact mgs_nil
  | cons e es =>
    simp only [dGs, gsSlots]
    by_cases h : isStar e = false
    · rw [if_pos h]
      refine mgs_cons (ih.g ok e) (ih.gs ok es) ?_
      cases e <;> first | (cases h; done) | (simp only [assignEach, List.map_cons]; done)
    · rw [if_neg h]; exact mgs_err
theorem snd_t {S : Sx} {X : Cx} {W : WX} (ok : OkX C S X) (tk : Takes X W) (e : Expr) : MT X W e (dT C S (n + 1) e) := by
  cases e with
  | UnaryOp op a p =>
    cases op with
    | Not => simp only [dT]; exact mt_not (ih.t ok tk a)
    | _ => simp only [dT]; exact mt_truth (ih.e ok tk _) (plainT_ok rfl)
  | BoolOp op vs p => simp only [dT]; exact (ih.w ok tk op vs p).pt
  | Compare a ops bs p =>
    simp only [dT]
    split
    · rename_i op b
      by_cases h : behindInMarks op b = false
      · rw [if_pos h]; exact mt_cmp (op_cmp ok.room op) (ih.e ok tk a) (ih.e ok tk b) h
      · rw [if_neg h]; exact mt_err
    · exact mt_err
  | IfExp _ _ _ _ => simp only [dT]; exact mt_err
  | _ => simp only [dT]; exact mt_truth (ih.e ok tk _) (plainT_ok rfl)
end
end Y

set_option Elab.async false
set_option linter.all false
set_option maxRecDepth 100000
set_option maxHeartbeats 4000000
/-! Y13: the meaning is right: calls, comprehensions, statements. -/
namespace Y
open PySem L2
section
variable {C : Ctx} {n : Nat} (ih : Snd C n)
include ih
theorem snd_call {S : Sx} {X : Cx} {W : WX} (ok : OkX C S X) (tk : Takes X W) (x : Str) (args : List Expr) (np pos : Pos) : ME X W (.Call (.Name x np) args [] pos) (dCall C S (n + 1) x args) := by
  simp only [dCall]
  by_cases h : okName x = true ∧ glB S.sc x = true ∧ noStar args = true
  · rw [if_pos h]
    obtain ⟨h1, h2, h3⟩ := h
    obtain ⟨a1, a2, a3⟩ := okName_ok h1
    have gl := ok.gl h2
    by_cases hb : C.blt x = true
    · rw [if_pos hb]
      have hm := ok.blt x hb
      cases args with
      | nil => exact me_err
      | cons a as =>
        have hsa : isStar a = false := by
          unfold noStar at h3
          rw [List.all_cons, Bool.and_eq_true, Bool.not_eq_true'] at h3
          exact h3.1
        cases as with
        | nil =>
          have st : starEach [a] X.env = [(false, eval a X.env)] := by rw [star_cons hsa]; simp [starEach]
          have bl : (backTo pos (starEach [] X.env)).any (·.1) = false := by simp [starEach, backTo]
          simp only
          split
          · rename_i e
            have e' := bKind_ok (i := 0) e
            cases e'
            exact me_tupL hm gl (ih.ls ok tk a) st
          · rename_i e
            have e' := bKind_ok (i := 1) e
            cases e'
            exact me_sumL ok.calm hm gl (ih.ll ok tk a) st
          · rename_i e
            have e' := bKind_ok (i := 2) e
            cases e'
            exact me_allL ok.calm hm gl (ih.ll ok tk a) st
          · rename_i e
            have e' := bKind_ok (i := 3) e
            cases e'
            exact me_anyL ok.calm hm gl (ih.ll ok tk a) st
          · rename_i e
            have e' := bKind_ok (i := 6) e
            cases e'
            exact me_callB c_len gl hm (by decide +kernel) (ih.a ok tk [a]) a3 a1 (star_cons hsa) bl
          · rename_i e
            have e' := bKind_ok (i := 7) e
            cases e'
            exact me_callB c_abs gl hm (by decide +kernel) (ih.a ok tk [a]) a3 a1 (star_cons hsa) bl
          · rename_i e
            have e' := bKind_ok (i := 8) e
            cases e'
            exact me_callTy c_int gl hm (by decide +kernel) (ih.a ok tk [a]) a3 a1 (star_cons hsa) bl
          · rename_i e
            have e' := bKind_ok (i := 11) e
            cases e'
            exact me_callTy (c_dict ok.calm) gl hm (by decide +kernel) (ih.a ok tk [a]) a3 a1 (star_cons hsa) bl
          · rename_i e
            have e' := bKind_ok (i := 13) e
            cases e'
            exact me_callTy c_str gl hm (by decide +kernel) (ih.a ok tk [a]) a3 a1 (star_cons hsa) bl
          · rename_i e
            have e' := bKind_ok (i := 14) e
            cases e'
            exact me_callB c_ord gl hm (by decide +kernel) (ih.a ok tk [a]) a3 a1 (star_cons hsa) bl
          · exact me_err
        | cons b as =>
          simp only
          have h4 : noStar (b :: as) = true := by
            unfold noStar at h3 ⊢
            rw [List.all_cons, Bool.and_eq_true] at h3
            exact h3.2
          split
          · rename_i e
            have e' := bKind_ok (i := 9) e
            cases e'
            exact me_callB c_isi gl hm (by decide +kernel) (ih.a ok tk (a :: b :: as)) a3 a1 (star_cons hsa) (star_no h4)
          · rename_i e
            have e' := bKind_ok (i := 15) e
            cases e'
            exact me_callB c_divmod gl hm (by decide +kernel) (ih.a ok tk (a :: b :: as)) a3 a1 (star_cons hsa) (star_no h4)
          · exact me_err
    · rw [if_neg hb]
      cases e : C.fn x with
      | none =>
        simp only
        cases e2 : C.mak x args.length with
        | none => exact me_err
        | some dF =>
          obtain ⟨dd, F⟩ := dF
          have G := ok.mak x args.length dd F e2
          cases args with
          | nil => exact me_make0 G tk gl a1
          | cons a as =>
            have hsa : isStar a = false ∧ noStar as = true := by
              unfold noStar at h3
              rw [List.all_cons, Bool.and_eq_true, Bool.not_eq_true'] at h3
              exact h3
            exact me_make G tk gl (ih.a ok tk (a :: as)) a1 (star_cons hsa.1) (star_no hsa.2)
      | some kF =>
        obtain ⟨k, F⟩ := kF
        have G := ok.fns x k F e
        cases args with
        | nil =>
          simp only
          by_cases hk : k = 0
          · rw [if_pos hk]; subst hk; exact me_call0 G tk gl a1
          · rw [if_neg hk]; exact me_err
        | cons a as =>
          simp only
          have hsa : isStar a = false ∧ noStar as = true := by
            unfold noStar at h3
            rw [List.all_cons, Bool.and_eq_true, Bool.not_eq_true'] at h3
            exact h3
          exact me_call G tk gl (ih.a ok tk (a :: as)) a1 (star_cons hsa.1) (star_no hsa.2)
  · rw [if_neg h]; exact me_err
theorem snd_f {S : Sx} {X : Cx} {W : WX} (ok : OkX C S X) (tk : Takes X W) (e : Expr) (hf : frK C S e ≠ 0) : MF X W e (dF C S (n + 1) e) := by
  cases e with
  | ListComp elt gs scope p =>
    simp only [dF]
    split
    · rename_i tg iter ifs
      split
      · rename_i hc
        obtain ⟨h1, h2, h3⟩ := hc
        obtain ⟨tt, pt, imp⟩ := ih.ifs (S := S.blk scope) (wd X) ifs
        have hb : BlkOk X.N X.env.scope scope (ownOf S scope) := by rw [ok.hN, ok.hsc]; exact blkOk_by h1
        exact mf_lc ok.calm (by rw [ok.hN]; exact ok.nd) (ih.i ok tk tg iter) hb
          ⟨fun s H Cc cl fp => ih.g (ok.blk (blkC_kind h1) s H Cc cl fp) tg, fun s H Cc cl fp => pt _ (ok.blk (blkC_kind h1) s H Cc cl fp) rfl, imp⟩
          (fun s H Cc cl fp => ih.e (ok.blk (blkC_kind h1) s H Cc cl fp) takes0 elt) (fun i hi => List.contains_iff_mem.mp (List.all_eq_true.mp h3 i hi)) (folded_ok h2)
      · exact mf_err
    · exact mf_err
  | Call f args kws pos =>
    unfold frK at hf
    split at hf
    · rename_i heq; cases heq
    · rename_i x np a pos' heq
      cases heq
      split at hf
      · rename_i hh
        obtain ⟨g1, g2, g3⟩ := hh
        have st : starEach [a] X.env = [(false, eval a X.env)] := by rw [star_cons g3]; simp [starEach]
        simp only [dF]
        split at hf
        · rename_i e5
          rw [if_pos e5]
          have e' := bKind_ok (i := 4) e5
          cases e'
          by_cases hz : frK C S a = 0
          · rw [if_pos hz]; exact mf_sorted ok.calm (ok.blt _ g2) (ok.gl g1) (ih.e ok tk a) st
          · rw [if_neg hz]; exact mf_sortedL (ok.blt _ g2) (ok.gl g1) (mll_of_mf (ih.f ok tk a hz)) st
        · rename_i n5
          rw [if_neg n5]
          split at hf
          · rename_i e6
            have e' := bKind_ok (i := 5) e6
            cases e'
            exact mf_listL (ok.blt _ g2) (ok.gl g1) (ih.ls ok tk a) st
          · exact absurd rfl hf
      · exact absurd rfl hf
    · rename_i o m apos args' pos' heq
      cases heq
      split at hf
      · rename_i hh
        obtain ⟨rfl, h2, h3, a, rfl, h4⟩ := spK_ok hh
        simp only [dF]
        exact mf_split (ih.e ok tk o) (ih.e ok tk a) (by rw [star_cons h4]; simp [starEach]) (base_ok h2) h3
      · exact absurd rfl hf
    · rename_i heq; cases heq
    · exact absurd rfl hf
  | Subscript a i p =>
    unfold frK at hf
    split at hf
    · rename_i heq; cases heq
    · rename_i heq; cases heq
    · rename_i heq; cases heq
    · rename_i heq
      cases heq
      simp only [dF]
      exact mf_rev (ih.e ok tk a)
    · exact absurd rfl hf
  | _ =>
    exfalso
    unfold frK at hf
    split at hf
    · rename_i heq; cases heq
    · rename_i heq; cases heq
    · rename_i heq; cases heq
    · rename_i heq; cases heq
    · exact absurd rfl hf
theorem snd_dc {S : Sx} {X : Cx} {W : WX} (ok : OkX C S X) (tk : Takes X W) (kx vx tg iter : Expr) (ifs : List Expr) (scope : Scope) (pos : Pos) : PE X (.DictComp kx vx [⟨tg, iter, ifs, 0⟩] scope pos) (tFd (wd X) W (dDc C S (n + 1) kx vx tg iter ifs scope)) := by
  simp only [dDc]
  split
  · rename_i hc
    obtain ⟨h1, h2, h3⟩ := hc
    obtain ⟨tt, pt, imp⟩ := ih.ifs (S := S.blk scope) (wd X) ifs
    have hb : BlkOk X.N X.env.scope scope (ownOf S scope) := by rw [ok.hN, ok.hsc]; exact blkOk_by h1
    exact md_dc ok.calm (by rw [ok.hN]; exact ok.nd) (ih.i ok tk tg iter) hb
      ⟨fun s H Cc cl fp => ih.g (ok.blk (blkC_kind h1) s H Cc cl fp) tg, fun s H Cc cl fp => pt _ (ok.blk (blkC_kind h1) s H Cc cl fp) rfl, imp⟩
      (fun s H Cc cl fp => ih.e (ok.blk (blkC_kind h1) s H Cc cl fp) takes0 kx) (fun s H Cc cl fp => ih.e (ok.blk (blkC_kind h1) s H Cc cl fp) takes0 vx) (fun i hi => List.contains_iff_mem.mp (List.all_eq_true.mp h3 i hi)) (folded_ok h2)
  · exact md_err
theorem snd_i {S : Sx} {X : Cx} {W : WX} (ok : OkX C S X) (tk : Takes X W) (tg e : Expr) : MI X W tg e (dI C S (n + 1) (isTupE tg) e) := by
  simp only [dI]
  by_cases hz : frK C S e = 0
  · rw [if_pos hz]
    split
    · rename_i x p args kws pos
      split
      · rename_i hh
        obtain ⟨g1, g2, g3, g4⟩ := hh
        have e' := bKind_ok (i := 10) g1
        cases e'
        split
        · rename_i a
          have hsa : isStar a = false := by
            unfold noStar at g4
            rw [List.all_cons, Bool.and_eq_true, Bool.not_eq_true'] at g4
            exact g4.1
          exact mi_range1 (ok.gl g3) (ok.blt _ g2) (ih.a ok tk _) (by rw [star_cons hsa]; simp [starEach])
        · rename_i a b
          have hsa : isStar a = false ∧ isStar b = false := by
            unfold noStar at g4
            simp only [List.all_cons, Bool.and_eq_true, Bool.not_eq_true'] at g4
            exact ⟨g4.1, g4.2.1⟩
          exact mi_range2 (ok.gl g3) (ok.blt _ g2) (ih.a ok tk _) (by rw [star_cons hsa.1, star_cons hsa.2]; simp [starEach]) (by rw [star_cons hsa.2]; simp [starEach])
        · rename_i a b c
          have hsa : isStar a = false ∧ isStar b = false ∧ isStar c = false := by
            unfold noStar at g4
            simp only [List.all_cons, Bool.and_eq_true, Bool.not_eq_true'] at g4
            exact ⟨g4.1, g4.2.1, g4.2.2.1⟩
          exact mi_range3 (ok.gl g3) (ok.blt _ g2) (ih.a ok tk _) (by rw [star_cons hsa.1]) (by rw [star_cons hsa.2.1, star_cons hsa.2.2]; simp [starEach, backTo])
        · exact mi_err
      · split
        · rename_i hh
          obtain ⟨g1, g2, g3, g4, g5⟩ := hh
          have e' := bKind_ok (i := 12) g1
          cases e'
          split
          · rename_i a b _
            have hsa : isStar a = false ∧ isStar b = false := by
              unfold noStar at g4
              simp only [List.all_cons, Bool.and_eq_true, Bool.not_eq_true'] at g4
              exact ⟨g4.1, g4.2.1⟩
            cases tg <;> first | (cases g5; done) | skip
            exact mi_zip (ok.gl g3) (ok.blt _ g2) (ih.a ok tk _) (by rw [star_cons hsa.1]) (by rw [star_cons hsa.2]; simp [starEach, backTo])
          · exact mi_err
        · split
          · rename_i hh
            obtain ⟨g1, g2, g3, g4, g5⟩ := hh
            have e' := bKind_ok (i := 16) g1
            cases e'
            split
            · rename_i a _ _
              have hsa : isStar a = false := by
                unfold noStar at g4
                simp only [List.all_cons, Bool.and_eq_true, Bool.not_eq_true'] at g4
                exact g4.1
              cases tg <;> first | (cases g5; done) | skip
              split
              · exact mi_err
              · rename_i hz'
                exact mi_enumF (ok.gl g3) (ok.blt _ g2) (ih.f ok tk a hz') (by rw [star_cons hsa]; simp [starEach])
            · exact mi_err
          · exact mi_val (ih.e ok tk _)
    · exact mi_val (ih.e ok tk _)
  · rw [if_neg hz]
    exact mi_fresh (ih.f ok tk e hz)
theorem snd_e {S : Sx} {X : Cx} {W : WX} (ok : OkX C S X) (tk : Takes X W) (e : Expr) : ME X W e (dE C S (n + 1) e) := by
  cases e with
  | Name x p => simp only [dE]; exact me_name ok x p
  | Constant c k p => simp only [dE]; exact me_cons c k p
  | BinOp a op b p => simp only [dE]; exact me_bin (op_bin op) (ih.e ok tk a) (ih.e ok tk b)
  | UnaryOp op a p =>
    cases op with
    | Not => simp only [dE]; exact me_not (ih.e ok tk a)
    | USub => simp only [dE]; exact me_un un_neg' (ih.e ok tk a)
    | _ => simp only [dE]; exact me_err
  | Compare a ops bs p =>
    simp only [dE]
    split
    · rename_i op b
      by_cases h : behindInMarks op b = false
      · rw [if_pos h]; exact me_cmp (op_cmp ok.room op) (ih.e ok tk a) (ih.e ok tk b) h
      · rw [if_neg h]; exact me_err
    · exact me_err
  | BoolOp op vs p => simp only [dE]; exact ih.bo ok tk op vs p
  | IfExp c a b p => simp only [dE]; exact me_if (ih.t ok tk c) (ih.e ok tk a) (ih.e ok tk b)
  | Tuple es k p =>
    simp only [dE]
    by_cases h : noStar es = true
    · rw [if_pos h]; exact me_tup (ih.a ok tk es)
    · rw [if_neg h]; exact me_err
  | List es p =>
    simp only [dE]
    by_cases h : noStar es = true
    · rw [if_pos h]; exact me_lst (ih.a ok tk es)
    · rw [if_neg h]; exact me_err
  | Dict ks vs p =>
    simp only [dE]
    split
    · exact me_dict
    · split
      · rename_i hc
        split
        · rename_i l e
          obtain ⟨h1, h2, h3⟩ := ih.ps ok tk p _ _ l e
          exact me_disp h1 h3 hc.1 hc.2.2 hc.2.1 (by rw [h2]; exact hc.2.1)
        · exact me_err
      · exact me_err
  | ListComp elt gs scope p =>
    simp only [dE]
    by_cases h : frK C S (.ListComp elt gs scope p) = 0
    · rw [if_pos h]; exact me_err
    · rw [if_neg h]; exact me_of_mf (ih.f ok tk _ h)
  | DictComp kx vx gs scope p =>
    simp only [dE]
    split
    · exact me_of_fd (ih.dc ok tk _ _ _ _ _ _ _)
    · exact me_err
  | Subscript a i p =>
    simp only [dE]
    by_cases h : frK C S (.Subscript a i p) = 0
    · rw [if_pos h]
      split
      · exact me_sl (ih.e ok tk a) (ih.o ok tk _) (ih.o ok tk _)
      · by_cases h2 : isSl i = false
        · rw [if_pos h2]; exact me_ix ok.room (ih.e ok tk a) (ih.e ok tk i) h2
        · rw [if_neg h2]; exact me_err
    · rw [if_neg h]; exact me_of_mf (ih.f ok tk _ h)
  | Call f args kws pos =>
    simp only [dE]
    split
    · split
      · rename_i x np
        by_cases h : frK C S (.Call (.Name x np) args [] pos) = 0
        · rw [if_pos h]; exact ih.call ok tk x args np pos
        · rw [if_neg h]; exact me_of_mf (ih.f ok tk _ h)
      · rename_i o m apos
        by_cases hz : frK C S (.Call (.Attribute o m apos) args [] pos) = 0
        case neg => rw [if_neg hz]; exact me_of_mf (ih.f ok tk _ hz)
        rw [if_pos hz]
        by_cases h : noStar args = true ∧ isSup o = false ∧ (apos.endLine == pos.line) = true ∧ args.length < 29
        · rw [if_pos h]
          obtain ⟨h1, h2, h3, h4⟩ := h
          by_cases hM : C.isM m = true
          · rw [if_pos hM]
            cases args with
            | nil => exact me_methI0 (fun c dd F => ok.mth c m 0 dd F) tk (ih.e ok tk o) (base_ok h2) h3
            | cons a as =>
              have hsa : isStar a = false ∧ noStar as = true := by
                unfold noStar at h1
                rw [List.all_cons, Bool.and_eq_true, Bool.not_eq_true'] at h1
                exact h1
              refine me_methI (fun c dd F => ok.mth c m _ dd F) tk (ih.e ok tk o) (ih.a ok tk (a :: as)) (base_ok h2) ?_ h3 (star_cons hsa.1) (star_no hsa.2)
              rw [star_all h1]
              simp only [keywordEach, backToKw, List.map_nil, List.all_nil, Bool.and_true, Bool.true_and, decide_eq_true_eq, List.isEmpty_nil, if_true, List.length_nil, Nat.add_zero]
              omega
          rw [if_neg hM]
          cases args with
          | nil => exact me_meth0 ok.room (ih.e ok tk o) (base_ok h2) h3
          | cons a as =>
            have hsa : isStar a = false ∧ noStar as = true := by
              unfold noStar at h1
              rw [List.all_cons, Bool.and_eq_true, Bool.not_eq_true'] at h1
              exact h1
            refine me_meth ok.room (ih.e ok tk o) (ih.a ok tk (a :: as)) (base_ok h2) ?_ h3 (star_cons hsa.1) (star_no hsa.2)
            rw [star_all h1]
            simp only [keywordEach, backToKw, List.map_nil, List.all_nil, Bool.and_true, Bool.true_and, decide_eq_true_eq, List.isEmpty_nil, if_true, List.length_nil, Nat.add_zero]
            omega
        · rw [if_neg h]; exact me_err
      · exact me_err
    · exact me_err
  | Attribute o f p =>
    simp only [dE]
    by_cases h : isSup o = false
    · rw [if_pos h]; exact me_fld ok.fld (ih.e ok tk o) (base_ok h)
    · rw [if_neg h]; exact me_err
  | _ => simp only [dE]; exact me_err
end
theorem snd (C : Ctx) : ∀ n, Snd C n
  | 0 => snd0 C
  | n + 1 =>
    have ih := snd C n
    { e := snd_e ih, call := snd_call ih, ls := snd_ls ih, ll := snd_ll ih, f := snd_f ih, dc := snd_dc ih, ifs := snd_ifs ih, i := snd_i ih, a := snd_a ih, ps := snd_ps ih, o := snd_o ih, t := snd_t ih, w := snd_w ih, bo := snd_bo ih, g := snd_g ih, gs := snd_gs ih }
end Y

set_option Elab.async false
set_option linter.all false
set_option maxRecDepth 100000
set_option maxHeartbeats 4000000
/-! Y14: statements are right; defs; the closed interpreter. -/
namespace Y
open PySem L2

section
variable {C : Ctx} {S : Sx} {X : Cx} {W : WX}
theorem ms_setErr {st : Stmt} {i : Nat} {m : EM D} (h : ∀ E s, m E s = .err) : MS X W st (sSet i m) := ⟨fun _ _ _ _ _ _ z => by
  obtain ⟨ρ, E, s, _, _, z⟩ := z
  unfold sSet exprS at z
  rw [h E s] at z
  exact z.elim⟩
theorem ms_setName (ok : OkX C S X) (tk : Takes X W) {x : Str} {i : Nat} {py pos : Pos} (e : Expr) (hl : locB S x = true) (hi : slotN S.N x = some i) (n : Nat) : MS X W (.Assign [.Name x py] e pos) (sSet i (dE C S n e)) := by
  obtain ⟨l1, l2⟩ := locB_ok hl
  have hN : X.N.Nodup := by rw [ok.hN]; exact ok.nd
  have hix : X.N[i]? = some x := by rw [ok.hN]; exact slotN_ok hi
  have hx : Loc X.env.scope x := by rw [ok.hsc]; exact l1
  have hf : X.fn x = true ∨ X.env.scope.names.lookup x = some .local := by rw [ok.hsc, ok.hfn]; exact l2
  have plain : swapsWith e (some (.Name x py)) pos.line X.env = pure false → MS X W (.Assign [.Name x py] e pos) (sSet i (dE C S n e)) := fun hs => ms_set hN hix hx ((snd C n).e ok tk e) hs hf
  cases hc : isComp e with
  | false => exact plain (swaps_no hc)
  | true =>
    cases e with
    | ListComp elt gs scope p =>
      have sw : swapsWith (.ListComp elt gs scope p) (some (.Name x py)) pos.line X.env = pure (X.env.blockKind == .function && X.env.kindOf x == some .local && py.line == p.line && !(scope.names.any fun (n, k) => n == x && (k == .local || k == .cell))) := rfl
      cases hb : (X.env.blockKind == .function && X.env.kindOf x == some .local && py.line == p.line && !(scope.names.any fun (n, k) => n == x && (k == .local || k == .cell))) with
      | false => rw [hb] at sw; exact plain sw
      | true =>
        rw [hb] at sw
        have hyl : X.env.scope.names.lookup x = some .local := by
          simp only [Bool.and_eq_true] at hb
          exact beq_iff_eq.mp hb.1.1.2
        cases n with
        | zero => exact ms_setErr fun _ _ => by simp only [dE]; rfl
        | succ n =>
          simp only [dE]
          by_cases hz : frK C S (.ListComp elt gs scope p) = 0
          · rw [if_pos hz]; exact ms_setErr fun _ _ => rfl
          · rw [if_neg hz]
            cases n with
            | zero => exact ms_setErr fun _ _ => by simp only [dF]; rfl
            | succ n =>
              simp only [dF]
              split
              · rename_i tg iter ifs
                split
                · rename_i hh
                  obtain ⟨h1, h2, h3⟩ := hh
                  have ih := snd C n
                  obtain ⟨tt, pt, imp⟩ := ih.ifs (S := S.blk scope) (wd X) ifs
                  have hbk : BlkOk X.N X.env.scope scope (ownOf S scope) := by rw [ok.hN, ok.hsc]; exact blkOk_by h1
                  exact ms_setLc ok.calm hN hix hyl sw (ih.i ok tk tg iter) hbk
                    ⟨fun s H Cc cl fp => ih.g (ok.blk (blkC_kind h1) s H Cc cl fp) tg, fun s H Cc cl fp => pt _ (ok.blk (blkC_kind h1) s H Cc cl fp) rfl, imp⟩
                    (fun s H Cc cl fp => ih.e (ok.blk (blkC_kind h1) s H Cc cl fp) takes0 elt) (fun i hi => List.contains_iff_mem.mp (List.all_eq_true.mp h3 i hi)) (folded_ok h2)
                · exact ms_setErr fun _ _ => rfl
              · exact ms_setErr fun _ _ => rfl
    | SetComp _ _ _ _ =>
      refine ms_setErr fun _ _ => ?_
      cases n <;> (simp only [dE]; rfl)
    | DictComp kx vx gs scope p =>
      have sw : swapsWith (.DictComp kx vx gs scope p) (some (.Name x py)) pos.line X.env = pure (X.env.blockKind == .function && X.env.kindOf x == some .local && py.line == p.line && !(scope.names.any fun (n, k) => n == x && (k == .local || k == .cell))) := rfl
      cases hb : (X.env.blockKind == .function && X.env.kindOf x == some .local && py.line == p.line && !(scope.names.any fun (n, k) => n == x && (k == .local || k == .cell))) with
      | false => rw [hb] at sw; exact plain sw
      | true =>
        rw [hb] at sw
        have hyl : X.env.scope.names.lookup x = some .local := by
          simp only [Bool.and_eq_true] at hb
          exact beq_iff_eq.mp hb.1.1.2
        cases n with
        | zero => exact ms_setErr fun _ _ => by simp only [dE]; rfl
        | succ n =>
          simp only [dE]
          split
          · rename_i tg iter ifs
            cases n with
            | zero => exact ms_setErr fun _ _ => by simp only [dDc]; rfl
            | succ n =>
              simp only [dDc]
              split
              · rename_i hh
                obtain ⟨h1, h2, h3⟩ := hh
                have ih := snd C n
                obtain ⟨tt, pt, imp⟩ := ih.ifs (S := S.blk scope) (wd X) ifs
                have hbk : BlkOk X.N X.env.scope scope (ownOf S scope) := by rw [ok.hN, ok.hsc]; exact blkOk_by h1
                exact ms_setDc ok.calm hN hix hyl sw (ih.i ok tk tg iter) hbk
                  ⟨fun s H Cc cl fp => ih.g (ok.blk (blkC_kind h1) s H Cc cl fp) tg, fun s H Cc cl fp => pt _ (ok.blk (blkC_kind h1) s H Cc cl fp) rfl, imp⟩
                  (fun s H Cc cl fp => ih.e (ok.blk (blkC_kind h1) s H Cc cl fp) takes0 kx) (fun s H Cc cl fp => ih.e (ok.blk (blkC_kind h1) s H Cc cl fp) takes0 vx) (fun i hi => List.contains_iff_mem.mp (List.all_eq_true.mp h3 i hi)) (folded_ok h2)
              · exact ms_setErr fun _ _ => rfl
          · exact ms_setErr fun _ _ => rfl
    | _ => cases hc
structure OkS (C : Ctx) (S : Sx) (X : Cx) : Prop extends OkX C S X where
  stk : X.stack = X.env :: X.outer
  frm : X.env.frame = some X.env.locals
theorem OkS.tr (ok : OkS C S X) (pn : List (Addr × Obj)) (xe : Value → Shared → Prop) : OkS C S (X.tr pn xe) where
  hN := ok.hN
  hsc := ok.hsc
  hfn := ok.hfn
  calm := ok.calm
  nd := ok.nd
  room := ok.room
  blt := ok.blt
  cst := ok.cst
  fns := fun x n F h => let ⟨z⟩ := ok.fns x n F h; ⟨z⟩
  kind := ok.kind
  exs := ok.exs
  sub := ok.sub
  fld := ok.fld
  mth := fun c m n dd F h => let ⟨z⟩ := ok.mth c m n dd F h; ⟨z⟩
  mak := fun c n dd F h => let ⟨z⟩ := ok.mak c n dd F h; ⟨z⟩
  stk := ok.stk
  frm := ok.frm
theorem OkS.noxS (ok : OkS C S X) : OkS C S X.nox where
  hN := ok.hN
  hsc := ok.hsc
  hfn := ok.hfn
  calm := ok.calm
  nd := ok.nd
  room := ok.room
  blt := ok.blt
  cst := ok.cst
  fns := fun x n F h => let ⟨z⟩ := ok.fns x n F h; ⟨z⟩
  kind := ok.kind
  exs := ok.exs
  sub := ok.sub
  fld := ok.fld
  mth := fun c m n dd F h => let ⟨z⟩ := ok.mth c m n dd F h; ⟨z⟩
  mak := fun c n dd F h => let ⟨z⟩ := ok.mak c n dd F h; ⟨z⟩
  stk := ok.stk
  frm := ok.frm
structure SndS (C : Ctx) (n : Nat) : Prop where
  s : ∀ {S X W}, OkS C S X → Takes X W → PassesOwn (model X.prog X.w) X.A X.env X.xe → ∀ st, MS X W st (dS C S n st)
  b : ∀ {S X W}, OkS C S X → Takes X W → PassesOwn (model X.prog X.w) X.A X.env X.xe → ∀ sts, MB X W sts (dB C S n sts)
theorem sndS_s {n : Nat} (ih : SndS C n) (okS : OkS C S X) (tk : Takes X W) (po : PassesOwn (model X.prog X.w) X.A X.env X.xe) (st : Stmt) : MS X W st (dS C S (n + 1) st) := by
  have E := snd C n
  have ok := okS.toOkX
  have hN : X.N.Nodup := by rw [ok.hN]; exact ok.nd
  cases st with
  | Pass p => simp only [dS]; exact ms_pass
  | Break p => simp only [dS]; exact ms_break
  | Continue p => simp only [dS]; exact ms_cont
  | Return e p =>
    cases e with
    | none => simp only [dS]; exact ms_retN
    | some e => simp only [dS]; exact ms_ret (E.e ok tk e)
  | Expr e p =>
    simp only [dS]
    by_cases h : isComp e = false
    · rw [if_pos h]; exact ms_expr (E.e ok tk e) (swaps_no h)
    · rw [if_neg h]; exact ms_err
  | If c a b p => simp only [dS]; exact ms_if (E.t ok tk c) (ih.b okS tk po a) (ih.b okS tk po b)
  | While c b els p =>
    simp only [dS]
    split
    · exact ms_while po (E.t ok tk c) (ih.b okS tk po b)
    · exact ms_err
  | For tg iter b els p =>
    simp only [dS]
    split
    · by_cases h : isSet iter = false
      · rw [if_pos h]; exact ms_for po ok.calm (E.i ok tk tg iter) (E.g ok tg) (ih.b okS tk po b) (folded_ok h)
      · rw [if_neg h]; exact ms_err
    · exact ms_err
  | Assign tgs e p =>
    simp only [dS]
    split
    · rename_i x py
      by_cases h : locB S x = true
      · rw [if_pos h]
        cases hi : slotN S.N x with
        | none => exact ms_err
        | some i => exact ms_setName ok tk e h hi n
      · rw [if_neg h]; exact ms_err
    · rename_i o f p'
      exact ms_fld ok.fld (E.e ok tk o) (E.e ok tk e) (swaps_tg rfl)
    · rename_i tg hn _
      by_cases h : isStar tg = false ∧ isTupE e = false
      · rw [if_pos h]
        have hnn : isNameE tg = false := by
          cases tg <;> first | rfl | exact (hn _ _ rfl).elim
        refine ms_asg (E.e ok tk e) (E.g ok tg) ?_ (swapped_no h.2) ?_
        · show swapsWith e (some tg) p.line X.env = pure false
          exact swaps_tg hnn
        · have := assign_no (env := X.env) (es := [tg]) (by unfold noStar; simp [h.1])
          exact this.2.2
      · rw [if_neg h]; exact ms_err
    · exact ms_err
  | AugAssign tg op e p =>
    simp only [dS]
    split
    · rename_i x py
      by_cases h : locB S x = true
      · rw [if_pos h]
        obtain ⟨l1, l2⟩ := locB_ok h
        cases hi : slotN S.N x with
        | none => exact ms_err
        | some i => exact ms_aug hN (by rw [ok.hN]; exact slotN_ok hi) (by rw [ok.hsc]; exact l1) (E.e ok tk e) (by rw [ok.hsc, ok.hfn]; exact l2)
      · rw [if_neg h]; exact ms_err
    · rename_i o f p'
      exact ms_fldaug ok.fld (E.e ok tk o) (E.e ok tk e)
    · exact ms_err
  | Raise e c p =>
    simp only [dS]
    split
    · rename_i x np m j p2 pos
      split
      · rename_i hh
        obtain ⟨h1, h2, h3⟩ := hh
        exact ms_raise ok.calm tk (ok.exs x h1) (ok.gl h2) (okName_ok h3).1
      · exact ms_err
    · exact ms_err
  | Try body hs els fin p =>
    simp only [dS]
    split
    · rename_i y np v f p1 v2 p2 z p3 p4 p5 pos'
      split
      · rename_i hh
        obtain ⟨⟨rfl, rfl⟩, ⟨h1, h2⟩, ⟨h3, h4, h5⟩, ⟨h6, h7⟩, h8, h9, h10⟩ := hh
        cases hi : slotN S.N v2 with
        | none => exact ms_err
        | some i =>
          refine ms_tryI okS.stk okS.frm hN (by rw [ok.hN]; exact slotN_ok hi) (by show X.env.scope.names.lookup v2 = some .local; rw [ok.hsc]; exact h10) (by rw [ok.hsc]; exact visB_ok h9) tk (ok.gl h3) (okName_ok h4).1 (ok.gl h6) (okName_ok h7).1 (okName_ok h8).1 (okName_ok h8).2.1 (ok.gl h2) (ok.blt _ h1) ?_ ok.sub (fun W' pn xe tk' po' => ih.b (okS.tr pn xe) tk' po' body)
          cases e : C.sub y y with
          | none => rw [e] at h5; cases h5
          | some b => obtain ⟨Cx, _, gx, _⟩ := ok.sub y y b e; exact ⟨Cx, gx⟩
      · exact ms_err
    · exact ms_tryQ (ih.b okS.noxS takes0 PassesOwn.never body)
    · exact ms_err
  | _ => simp only [dS]; exact ms_err
theorem sndS_b {n : Nat} (ih : SndS C n) (okS : OkS C S X) (tk : Takes X W) (po : PassesOwn (model X.prog X.w) X.A X.env X.xe) (sts : List Stmt) : MB X W sts (dB C S (n + 1) sts) := by
  cases sts with
  | nil => simp only [dB]; exact mb_nil
  | cons st sts => simp only [dB]; exact mb_cons (ih.s okS tk po st) (ih.b okS tk po sts)
theorem sndS (C : Ctx) : ∀ n, SndS C n
  | 0 => ⟨fun _ _ _ _ => by simp only [dS]; exact ms_err, fun _ _ _ _ => by simp only [dB]; exact mb_err⟩
  | n + 1 => ⟨fun ok tk po => sndS_s (sndS C n) ok tk po, fun ok tk po => sndS_b (sndS C n) ok tk po⟩
end

/-! ### what a call leaves behind is let go -/
mutual
def D.beq : D → D → Bool
  | .non, .non => true
  | .bl a, .bl b => a == b
  | .int a, .int b => a == b
  | .str a, .str b => decide (a = b)
  | .tup a, .tup b => D.beqL a b
  | .ro a, .ro b => D.beqL a b
  | .loc a, .loc b => a == b
  | .gl a, .gl b => decide (a = b)
  | .ty a, .ty b => a == b
  | _, _ => false
def D.beqL : List D → List D → Bool
  | [], [] => true
  | a :: as, b :: bs => D.beq a b && D.beqL as bs
  | _, _ => false
end
mutual
theorem D.beq_refl : ∀ d : D, D.beq d d = true
  | .non => by simp [D.beq]
  | .bl a => by simp [D.beq]
  | .int a => by simp [D.beq]
  | .str a => by simp [D.beq]
  | .tup a => by simp only [D.beq]; exact D.beqL_refl a
  | .ro a => by simp only [D.beq]; exact D.beqL_refl a
  | .loc a => by simp [D.beq]
  | .gl a => by simp [D.beq]
  | .ty a => by simp [D.beq]
theorem D.beqL_refl : ∀ ds : List D, D.beqL ds ds = true
  | [] => by simp [D.beqL]
  | a :: as => by simp only [D.beqL, D.beq_refl a, D.beqL_refl as]; rfl
end
mutual
theorem D.beq_eq : ∀ (a b : D), D.beq a b = true → a = b
  | .non, b, h => by cases b <;> simp [D.beq] at h <;> rfl
  | .bl a, b, h => by cases b <;> simp [D.beq] at h; rw [h]
  | .int a, b, h => by cases b <;> simp [D.beq] at h; rw [h]
  | .str a, b, h => by cases b <;> simp [D.beq] at h; rw [h]
  | .tup a, b, h => by
    cases b with
    | tup b => simp only [D.beq] at h; rw [D.beqL_eq a b h]
    | _ => simp [D.beq] at h
  | .ro a, b, h => by
    cases b with
    | ro b => simp only [D.beq] at h; rw [D.beqL_eq a b h]
    | _ => simp [D.beq] at h
  | .loc a, b, h => by cases b <;> simp [D.beq] at h; rw [h]
  | .gl a, b, h => by cases b <;> simp [D.beq] at h; rw [h]
  | .ty a, b, h => by cases b <;> simp [D.beq] at h; rw [h]
theorem D.beqL_eq : ∀ (a b : List D), D.beqL a b = true → a = b
  | [], b, h => by cases b <;> simp [D.beqL] at h <;> rfl
  | a :: as, b, h => by
    cases b with
    | nil => simp [D.beqL] at h
    | cons b bs =>
      simp only [D.beqL, Bool.and_eq_true] at h
      rw [D.beq_eq a b h.1, D.beqL_eq as bs h.2]
end
def beqA {κ : Type} [DecidableEq κ] : List (κ × D) → List (κ × D) → Bool
  | [], [] => true
  | (k, a) :: as, (j, b) :: bs => decide (k = j) && D.beq a b && beqA as bs
  | _, _ => false
theorem beqA_refl {κ : Type} [DecidableEq κ] : ∀ as : List (κ × D), beqA as as = true
  | [] => rfl
  | (k, a) :: as => by simp only [beqA, D.beq_refl, beqA_refl as, decide_true]; rfl
theorem beqA_eq {κ : Type} [DecidableEq κ] : ∀ (a b : List (κ × D)), beqA a b = true → a = b
  | [], b, h => by cases b <;> simp [beqA] at h <;> rfl
  | (k, a) :: as, b, h => by
    cases b with
    | nil => simp [beqA] at h
    | cons q bs =>
      obtain ⟨j, b⟩ := q
      simp only [beqA, Bool.and_eq_true, decide_eq_true_eq] at h
      rw [h.1.1, D.beq_eq a b h.1.2, beqA_eq as bs h.2]
def O.beq : O → O → Bool
  | .lst a, .lst b => D.beqL a b
  | .dic a, .dic b => beqA a b
  | .ins c a, .ins e b => decide (c = e) && beqA a b
  | _, _ => false
theorem O.beq_refl (o : O) : O.beq o o = true := by
  cases o with
  | lst a => exact D.beqL_refl a
  | dic a => exact beqA_refl a
  | ins c a => simp [O.beq, beqA_refl]
theorem O.beq_eq {a b : O} (h : O.beq a b = true) : a = b := by
  cases a with
  | lst a => cases b <;> simp [O.beq] at h; rw [D.beqL_eq _ _ h]
  | dic a => cases b <;> simp [O.beq] at h; rw [beqA_eq _ _ h]
  | ins c a => cases b <;> simp [O.beq] at h; rw [h.1, beqA_eq _ _ h.2]
mutual
def D.cl (n : Nat) : D → Bool
  | .tup a => D.clL n a
  | .ro a => D.clL n a
  | .loc k => decide (k < n)
  | _ => true
def D.clL (n : Nat) : List D → Bool
  | [] => true
  | a :: as => D.cl n a && D.clL n as
end
def clA {κ : Type} (n : Nat) : List (κ × D) → Bool
  | [] => true
  | (_, a) :: as => D.cl n a && clA n as
def O.cl (n : Nat) : O → Bool
  | .lst a => D.clL n a
  | .dic a => clA n a
  | .ins _ a => clA n a
section
variable {w : Wd} {ρ ρ' : Nat → Addr} {n n' : Nat} {H H' : Hp}
mutual
theorem Rp.cl : ∀ {v : V} (d : D), Rp w ρ n H v d → D.cl n d = true
  | v, .non, h => by simp [D.cl]
  | v, .bl _, h => by simp [D.cl]
  | v, .int _, h => by simp [D.cl]
  | v, .str _, h => by simp [D.cl]
  | v, .tup xs, h => by obtain ⟨a, vs, _, _, r⟩ := h.tup_; simp only [D.cl]; exact RpL.cl xs r
  | v, .ro xs, h => by obtain ⟨a, vs, _, _, r⟩ := h.ro_; simp only [D.cl]; exact RpL.cl xs r
  | v, .loc k, h => by simp only [D.cl]; exact decide_eq_true h.loc_.1
  | v, .gl _, h => by simp [D.cl]
  | v, .ty _, h => by simp [D.cl]
theorem RpL.cl : ∀ {vs : List V} (ds : List D), RpL w ρ n H vs ds → D.clL n ds = true
  | vs, [], h => by simp [D.clL]
  | vs, d :: ds, h => by
    obtain ⟨v, r, rfl, h1, h2⟩ := h.inv
    simp only [D.clL, Rp.cl d h1, RpL.cl ds h2]; rfl
end
theorem RpA.cl {κ : Type} : ∀ {vs : List (κ × V)} (ds : List (κ × D)), RpA w ρ n H vs ds → clA n ds = true
  | vs, [], h => rfl
  | vs, (k, d) :: ds, h => by
    obtain ⟨v, r, rfl, h1, h2⟩ := h.inv
    simp only [clA, Rp.cl d h1, RpA.cl ds h2]; rfl
theorem RO.cl {ho : HO} {o : O} (h : RO w ρ n H ho o) : O.cl n o = true := by
  cases o with
  | lst xs => obtain ⟨vs, _, r⟩ := h; exact RpL.cl _ r
  | dic kvs => obtain ⟨vs, _, r⟩ := h; exact RpA.cl _ r
  | ins c fs => obtain ⟨Cc, dx, vs, _, _, r⟩ := h; exact RpA.cl _ r
mutual
theorem Rp.down : ∀ {v : V} (d : D), D.cl n d = true → Rp w ρ n' H v d → Rp w ρ n H v d
  | v, .non, _, h => by unfold Rp at h ⊢; exact h
  | v, .bl _, _, h => by unfold Rp at h ⊢; exact h
  | v, .int _, _, h => by unfold Rp at h ⊢; exact h
  | v, .str _, _, h => by unfold Rp at h ⊢; exact h
  | v, .tup xs, c, h => by
    obtain ⟨a, vs, e, q, r⟩ := h.tup_
    simp only [D.cl] at c
    unfold Rp
    exact ⟨a, vs, e, q, RpL.down xs c r⟩
  | v, .ro xs, c, h => by
    obtain ⟨a, vs, e, q, r⟩ := h.ro_
    simp only [D.cl] at c
    unfold Rp
    exact ⟨a, vs, e, q, RpL.down xs c r⟩
  | v, .loc k, c, h => by
    simp only [D.cl, decide_eq_true_eq] at c
    unfold Rp
    exact ⟨c, h.loc_.2⟩
  | v, .gl _, _, h => by unfold Rp at h ⊢; exact h
  | v, .ty _, _, h => by unfold Rp at h ⊢; exact h
theorem RpL.down : ∀ {vs : List V} (ds : List D), D.clL n ds = true → RpL w ρ n' H vs ds → RpL w ρ n H vs ds
  | vs, [], _, h => by unfold RpL at h ⊢; exact h
  | vs, d :: ds, c, h => by
    simp only [D.clL, Bool.and_eq_true] at c
    obtain ⟨v, r, rfl, h1, h2⟩ := h.inv
    exact RpL.cons (Rp.down d c.1 h1) (RpL.down ds c.2 h2)
end
theorem RpA.down {κ : Type} : ∀ {vs : List (κ × V)} (ds : List (κ × D)), clA n ds = true → RpA w ρ n' H vs ds → RpA w ρ n H vs ds
  | vs, [], _, h => by rw [h.inv0]; exact RpA.nil
  | vs, (k, d) :: ds, c, h => by
    simp only [clA, Bool.and_eq_true] at c
    obtain ⟨v, r, rfl, h1, h2⟩ := h.inv
    exact RpA.cons (Rp.down d c.1 h1) (RpA.down ds c.2 h2)
theorem RO.down {ho : HO} {o : O} (c : O.cl n o = true) (h : RO w ρ n' H ho o) : RO w ρ n H ho o := by
  cases o with
  | lst xs => obtain ⟨vs, e, r⟩ := h; exact ⟨vs, e, RpL.down _ c r⟩
  | dic kvs => obtain ⟨vs, e, r⟩ := h; exact ⟨vs, e, RpA.down _ c r⟩
  | ins cc fs => obtain ⟨Cc, dx, vs, m, e, r⟩ := h; exact ⟨Cc, dx, vs, m, e, RpA.down _ c r⟩
end
/-- the objects that stood are as they were, or speak of what stood alone -/
def keepB (n : Nat) : Sto → Sto → Bool
  | [], _ => true
  | _ :: _, [] => false
  | a :: as, b :: bs => (O.beq b a || O.cl n b) && keepB n as bs
theorem keepB_at {n : Nat} : ∀ {s s' : Sto}, keepB n s s' = true → ∀ (i : Nat) (o : O), i < s.length → s'[i]? = some o → (s[i]? = some o ∨ O.cl n o = true)
  | [], _, _, i, o, hi, _ => absurd hi (by simp)
  | _ :: _, [], h, _, _, _, _ => by cases h
  | a :: as, b :: bs, h, i, o, hi, e => by
    simp only [keepB, Bool.and_eq_true, Bool.or_eq_true] at h
    cases i with
    | zero =>
      simp at e; subst e
      rcases h.1 with z | z
      · left; simp [O.beq_eq z]
      · exact .inr z
    | succ i => exact keepB_at h.2 i o (by simpa using hi) (by simpa using e)
def gc (s : Sto) (r : Res D) : Res D := match r with
  | .ok d s' => if (D.cl s.length d && keepB s.length s s') = true then .ok d (s'.take s.length) else .ok d s'
  | r => r
theorem gc_ok {w : Wd} {W : XK} {ρ : Nat → Addr} {H : Hp} {s : Sto} {r : Res D} {Q : VK} (hs : RS w ρ H s) (h : RQ w (Rp w) W ρ s.length H (gc s r) Q) : RQ w (Rp w) W ρ s.length H r Q := by
  cases r with
  | exc x s' => exact h
  | err => exact h
  | ok d s' =>
    unfold gc at h
    simp only at h
    split at h
    · rename_i hc
      rw [Bool.and_eq_true] at hc
      intro ρ' H' v L hs' hr
      have hl : (s'.take s.length).length = s.length := by rw [List.length_take]; have := L.le; omega
      refine h ρ' H' v ?_ ⟨fun k o e => ?_, fun i j hi hj e => hs'.inj i j (by have := L.le; omega) (by have := L.le; omega) e⟩ (by rw [hl]; exact Rp.down d hc.1 hr)
      · rw [hl]
        exact ⟨Nat.le_refl _, L.agree, L.keep, L.froz, L.dom, fun k h1 h2 => absurd (Nat.lt_of_lt_of_le h2 h1) (Nat.lt_irrefl _)⟩
      · have hk : k < s.length := by have := (List.getElem?_eq_some_iff.mp e).1; omega
        rw [List.getElem?_take_of_lt hk] at e
        obtain ⟨ho, h1, ro⟩ := hs'.obj k o e
        rw [hl]
        refine ⟨ho, h1, RO.down ?_ ro⟩
        rcases keepB_at hc.2 k o hk e with z | z
        · obtain ⟨ho0, _, ro0⟩ := hs.obj k o z
          exact ro0.cl
        · exact z
    · exact h
theorem keepB_same {n : Nat} : ∀ (s t : Sto), keepB n s (s ++ t) = true
  | [], _ => rfl
  | a :: as, t => by
    show ((O.beq a a || O.cl n a) && keepB n as (as ++ t)) = true
    rw [O.beq_refl, keepB_same as t]; rfl
theorem gc_same {s t : Sto} {d : D} (hd : D.cl s.length d = true) : gc s (.ok d (s ++ t)) = .ok d s := by
  unfold gc
  simp only [hd, keepB_same, Bool.and_self, if_true, List.take_left]
theorem gc_self {s : Sto} {d : D} (hd : D.cl s.length d = true) : gc s (.ok d s) = .ok d s := by
  have := gc_same (s := s) (t := []) hd
  rw [List.append_nil] at this
  exact this
theorem keepB_set {n : Nat} {o : O} (ho : O.cl n o = true) : ∀ (s t : Sto) (k : Nat), keepB n s (s.set k o ++ t) = true
  | [], _, _ => rfl
  | a :: as, t, 0 => by
    show ((O.beq o a || O.cl n o) && keepB n as (as ++ t)) = true
    rw [ho, keepB_same as t, Bool.or_true]; rfl
  | a :: as, t, k + 1 => by
    show ((O.beq a a || O.cl n a) && keepB n as (as.set k o ++ t)) = true
    rw [O.beq_refl, keepB_set ho as t k]; rfl
theorem gc_set {s t : Sto} {d : D} {k : Nat} {o : O} (hd : D.cl s.length d = true) (ho : O.cl s.length o = true) : gc s (.ok d (s.set k o ++ t)) = .ok d (s.set k o) := by
  have hl : s.length = (s.set k o).length := by rw [List.length_set]
  unfold gc
  simp only [hd, keepB_set ho, Bool.and_self, if_true]
  rw [hl, List.take_left]

/-! ### defs -/
structure Df where
  ps : List Str
  N : List Str
  st : Stmt
def Df.sx (d : Df) : Sx := ⟨d.N, defScope d.st, fun _ => true⟩
def startE (N : List Str) (ds : List D) : Ev := ds.map some ++ List.replicate (N.length - ds.length) none
def resS (r : SR) : Res D := match r with
  | .nx _ s => .ok .non s
  | .rt d s => .ok d s
  | .exc x _ s => .exc x s
  | _ => .err
def fuelD : Nat := 200
def runB (C : Ctx) (d : Df) (args : List D) (s : Sto) : Res D := resS (dB C d.sx fuelD (defBody d.st) (startE d.N args) s)
/-- defs: the functions; mds: the methods' bodies by key; mth c m n: class, method, number of written arguments -> key, defaults that fill up -/
structure Pg where
  blt : Str → Bool
  cst : Str → Option D
  defs : Str → Option Df
  exs : Str → Bool
  sub : Str → Str → Option Bool
  fld : Str → Str → Bool
  isM : Str → Bool
  mds : Str → Option Df
  mth : Str → Str → Nat → Option (Str × List D)
def Pg.look (T : Pg) (x : Str) : Option Df := match T.defs x with
  | some d => some d
  | none => T.mds x
abbrev CallT := Str → List D → Sto → Res D
def mthO (mth : Str → Str → Nat → Option (Str × List D)) (f : CallT) : MthT := fun c m n => if m = "__init__" then none else match mth c m n with
  | some (key, dd) => some (dd, f key)
  | none => none
def makO (mth : Str → Str → Nat → Option (Str × List D)) (g : Option CallT) : Str → Nat → Option (List D × (List D → Sto → Res D)) := fun c n => match g with
  | some g => match mth c "__init__" n with
    | some (key, dd) => some (dd, g key)
    | none => none
  | none => none
def Pg.cx (T : Pg) (f : CallT) (g : Option CallT) : Ctx := ⟨T.blt, T.cst, fun y => (T.defs y).map fun e => (e.ps.length, f y), T.exs, T.sub, T.fld, T.isM, mthO T.mth f, makO T.mth g⟩
/-- the calls at a level, and those one level down (for what is made) -/
def callQ (T : Pg) : Nat → CallT × Option CallT
  | 0 => (fun _ _ _ => .err, none)
  | k + 1 => (fun x args s => match T.look x with
    | some d => gc s (runB (T.cx (callQ T k).1 (callQ T k).2) d args s)
    | none => .err, some (callQ T k).1)
def callP (T : Pg) (k : Nat) : CallT := (callQ T k).1
def Pg.ctx (T : Pg) (k : Nat) : Ctx := T.cx (callP T k) (callQ T k).2
theorem callQ_succ {T : Pg} {k : Nat} : callQ T (k + 1) = (fun x args s => match T.look x with
    | some d => gc s (runB (T.cx (callQ T k).1 (callQ T k).2) d args s)
    | none => .err, some (callQ T k).1) := by rw [callQ]
theorem callQ_pred {T : Pg} {k : Nat} : (callQ T (k + 1)).2 = some (callP T k) := by rw [callQ_succ]; rfl
theorem callQ_zero {T : Pg} : (callQ T 0).2 = none := by rw [callQ]
theorem callP_zero {T : Pg} {x : Str} {args : List D} {s : Sto} : callP T 0 x args s = .err := by unfold callP; rw [callQ]
theorem callP_eq {T : Pg} {k : Nat} {x : Str} {args : List D} {s : Sto} : callP T (k + 1) x args s = match T.look x with
    | some d => gc s (runB (T.ctx k) d args s)
    | none => .err := by
  unfold callP
  rw [callQ_succ]
  rfl
theorem callP_succ' {T : Pg} {k : Nat} {x : Str} {d : Df} {args : List D} {s : Sto} (h : T.look x = some d) : callP T (k + 1) x args s = gc s (runB (T.ctx k) d args s) := by
  rw [callP_eq, h]
theorem look_def {T : Pg} {x : Str} {d : Df} (h : T.defs x = some d) : T.look x = some d := by unfold Pg.look; rw [h]
theorem callP_succ {T : Pg} {k : Nat} {x : Str} {d : Df} {args : List D} {s : Sto} (h : T.defs x = some d) : callP T (k + 1) x args s = gc s (runB (T.ctx k) d args s) := callP_succ' (look_def h)
/-- a def with defaults, or a method -/
structure MFun (K : PySem.W.Frag) (x qual : Str) (st : Stmt) (f : Addr) (fd : FuncData) : Prop where
  ex : ∃ (oc : Value) (od : Option Addr) (dV kV doc pm : Value) (an : Option Addr) (cdv ct : Value) (osl : Array (Option Value)),
    fd = PySem.W.fnOf x qual (defArgs st) (defBody st) (defScope st) dV kV doc pm an cdv ct ∧ K.lookup f = some ⟨oc, od, .func fd, osl⟩ ∧ PySem.W.codeIn K cdv qual = true
theorem Fun.toM {K : PySem.W.Frag} {x qual : Str} {st : Stmt} {f : Addr} {fd : FuncData} (F : Fun K x qual st f fd) : MFun K x qual st f fd := by
  obtain ⟨oc, od, kV, doc, pm, an, cdv, ct, osl, rfl, lk, hcd⟩ := F.ex
  exact ⟨oc, od, .none, kV, doc, pm, an, cdv, ct, osl, rfl, lk, hcd⟩
structure MOk (K : PySem.W.Frag) (mg : Str → Option Value) (c m : Str) (n : Nat) (d : Df) (dd : List D) : Prop where
  ex : ∃ (C f : Addr) (q : Str) (fd : FuncData) (dvs : List V) (ds : List Value), mg c = some (.ref C) ∧ (m = "__init__" → Mk K C f) ∧ (m ≠ "__init__" → Cls K C ∧ Meth K C m f) ∧ MFun K m q d.st f fd ∧ Binds K fd d.ps ds ∧ Vals dvs ds ∧
    (∀ ρ n H, RpL ⟨K, mg⟩ ρ n H dvs dd) ∧ d.ps.length = n + 1 + dd.length ∧ FnScope d.N d.ps (defScope d.st)
structure PgOk (T : Pg) (K : PySem.W.Frag) (mg : Str → Option Value) : Prop where
  blt : ∀ x, T.blt x = true → mg x = none
  cst : ∀ x d, T.cst x = some d → ∃ u v, mg x = some u ∧ RelV v u ∧ ∀ ρ n H, Rp ⟨K, mg⟩ ρ n H v d
  exs : ∀ x, T.exs x = true → ExOk K mg x
  sub : ∀ x y b, T.sub x y = some b → SubOk K mg x y b
  fld : ∀ c f, T.fld c f = true → FldOk K mg c f
  mth : ∀ c m n key dd, T.mth c m n = some (key, dd) → ∃ d, T.look key = some d ∧ MOk K mg c m n d dd
  df : ∀ x d, T.defs x = some d → ∃ f fd, mg x = some (.ref f) ∧ Fun K x x d.st f fd ∧ Binds K fd d.ps [] ∧ FnScope d.N d.ps (defScope d.st)
section
variable {P : Program} {wo : World} {K : PySem.W.Frag} {mg : Str → Option Value} {base : Heap} {T : Pg}
theorem RE.start {w : Wd} {ρ : Nat → Addr} {n : Nat} {H : Hp} {N : List Str} {vs : List V} {ds : List D} (r : RpL w ρ n H vs ds) : RE w ρ n H (L2.start N vs) (startE N ds) := by
  have hl := RpL.length r
  refine ⟨by unfold L2.start startE; simp [hl], fun i d e => ?_⟩
  unfold startE at e
  by_cases hi : i < ds.length
  · rw [List.getElem?_append_left (by simpa using hi), List.getElem?_map] at e
    cases z : ds[i]? with
    | none => rw [z] at e; cases e
    | some d' =>
      rw [z] at e; cases e
      obtain ⟨v, e1, rv⟩ := r.get z
      refine ⟨v, ?_, rv⟩
      unfold L2.start
      rw [List.getElem?_append_left (by rw [List.length_map, hl]; exact hi), List.getElem?_map, e1]
      rfl
  · rw [List.getElem?_append_right (by simpa using hi), List.getElem?_replicate] at e
    split at e <;> cases e
open PySem.Spec PyProof.Rows in
theorem MFun.okX {x qual : Str} {st : Stmt} {f : Addr} {fd : FuncData} {N ps : List Str} {k : Nat} {sp : Sp} (F : MFun K x qual st f fd) (S : FnScope N ps (defScope st)) (len : ∀ vs H Q E, sp vs H Q E → vs.length = ps.length)
    (hbody : ∀ (cdv : Value) (A : Around) (outer : List Env) (s : Shared) (H : Hp) (vs : List V) (Q : VK) (E : XK), Room k (A.deeper (envOfC qual (defScope st) s.heap.objs.size f cdv)) → sp vs H Q E →
      ∃ t, PSs (cxOf (L2.CX P wo) P wo K mg base N qual (defScope st) f cdv A outer s H E) (defBody st) t ∧ t { nx := fun _ H' => Q .non H', rt := Q } (L2.start N vs) H) : FnOk P wo K mg base (L2.CX P wo) (k + 1) f fd ps sp := by
  obtain ⟨oc, od, dV, kV, doc, pm, an, cdv, ct, osl, rfl, lk, hcd⟩ := F.ex
  exact fn_of lk hcd S len fun A outer s H vs Q E hr hsp => hbody cdv A outer s H vs Q E hr hsp
theorem fn_okF (G : PgOk T K mg) : ∀ k key d, T.look key = some d → ∀ {x q : Str} {f : Addr} {fd : FuncData}, MFun K x q d.st f fd → FnScope d.N d.ps (defScope d.st) → FnOk P wo K mg base (L2.CX P wo) k f fd d.ps (spM ⟨K, mg⟩ d.ps.length (callP T k key))
  | 0, key, d, h, x, q, f, fd, F, S => by
    refine ⟨fun vs H Q E z => ?_, fun A outer s H args us vs Q E _ _ _ _ z => ?_⟩
    · obtain ⟨ρ, st, ds, _, r, hl, _⟩ := z
      rw [RpL.length r, hl]
    · obtain ⟨ρ, st, ds, _, r, hl, z⟩ := z
      rw [callP_zero] at z
      exact z.elim
  | k + 1, key, d, h, x, q, f, fd, F, S => by
    refine F.okX S (fun vs H Q E z => ?_) (fun cdv A outer s H vs Q E hr hsp => ?_)
    · obtain ⟨ρ, st, ds, _, r, hl, _⟩ := z
      rw [RpL.length r, hl]
    · obtain ⟨ρ, st, ds, hs, r, hl, z⟩ := hsp
      rw [callP_succ' h] at z
      have z := gc_ok hs z
      have ok : OkS (T.ctx k) d.sx (cxOf (L2.CX P wo) P wo K mg base d.N q (defScope d.st) f cdv A outer s H E) :=
        { hN := rfl, hsc := rfl, hfn := rfl, calm := rfl, nd := S.nd, room := hr.mono (Nat.zero_le k), blt := G.blt, cst := G.cst, kind := S.kind, exs := G.exs, sub := G.sub, stk := rfl, frm := rfl,
          fns := fun y m Fy hy => by
            simp only [Pg.ctx, Pg.cx] at hy
            cases e : T.defs y with
            | none => rw [e] at hy; cases hy
            | some d' =>
              rw [e] at hy
              cases hy
              obtain ⟨f', fd', hm', F', b', S'⟩ := G.df y d' e
              exact ⟨k, f', fd', d'.ps, hm', F'.kp, b', rfl, hr, fn_okF G k y d' (look_def e) (Fun.toM F') S'⟩,
          fld := G.fld,
          mth := fun c m n dd Fy hy => by
            simp only [Pg.ctx, Pg.cx, mthO] at hy
            split at hy
            · cases hy
            · rename_i hne
              split at hy
              · rename_i key' dd' e
                cases hy
                obtain ⟨d', e', M⟩ := G.mth c m n key' dd e
                obtain ⟨C, f', q', fd', dvs, ds, gc, _, hc, F', b', v', r', l', S'⟩ := M.ex
                obtain ⟨cl, mt⟩ := hc hne
                refine ⟨C, k, f', fd', d'.ps, dvs, ds, gc, cl, mt, b', v', r', hr, ?_⟩
                have := fn_okF G k key' d' e' F' S'
                rw [l'] at this
                exact this
              · (cases hy),
          mak := fun c n dd Fy hy => by
            cases k with
            | zero => simp only [Pg.ctx, Pg.cx, makO, callQ_zero] at hy; cases hy
            | succ j =>
              simp only [Pg.ctx, Pg.cx, makO, callQ_pred] at hy
              split at hy
              · rename_i key' dd' e
                cases hy
                obtain ⟨d', e', M⟩ := G.mth c "__init__" n key' dd e
                obtain ⟨C, f', q', fd', dvs, ds, gc, hc, _, F', b', v', r', l', S'⟩ := M.ex
                refine ⟨C, j, f', fd', d'.ps, dvs, ds, gc, hc rfl, b', v', r', hr, ?_⟩
                have := fn_okF G j key' d' e' F' S'
                rw [l'] at this
                exact this
              · cases hy }
      have tk : Takes (cxOf (L2.CX P wo) P wo K mg base d.N q (defScope d.st) f cdv A outer s H E) (fun cls dd _ H' => E cls dd H') := takes_of rfl rfl rfl rfl
      refine ⟨_, (sndS (T.ctx k) fuelD).b ok tk (passes_of rfl) (defBody d.st), ρ, startE d.N ds, st, hs, RE.start r, ?_⟩
      unfold runB at z
      cases q : dB (T.ctx k) d.sx fuelD (defBody d.st) (startE d.N ds) st with
      | nx E' s' => rw [q] at z; exact fun ρ' σ' H' L a _ => z ρ' H' .non L a Rp.non
      | rt d' s' => rw [q] at z; exact z
      | bk E' s' => rw [q] at z; exact z.elim
      | ct E' s' => rw [q] at z; exact z.elim
      | exc y E' s' => rw [q] at z; exact fun ρ' σ' H' c L a _ e => z ρ' H' c L a e
      | err => rw [q] at z; exact z.elim
/-- what law(script) promises -/
def spLaw (K : PySem.W.Frag) : Sp := fun vs H Q _ => ∃ (a : Addr) (ns : List Int), vs = [.ref a] ∧ SqR K H a (ns.map V.int) ∧ ns.length ≤ 63 ∧ (∀ z ∈ ns, Builtin.Int.intBits z ≤ 1048576) ∧ ∀ H', Q (.bl true) H'
theorem law_ok (G : PgOk T K mg) {k : Nat} {d : Df} (h : T.defs "law" = some d) (hp : d.ps = (["script"] : List Str)) {f : Addr} {fd : FuncData} (F : Fun K "law" "law" d.st f fd) (S : FnScope d.N d.ps (defScope d.st))
    (hl : ∀ ns : List Int, ns.length ≤ 63 → (∀ z ∈ ns, Builtin.Int.intBits z ≤ 1048576) → ∃ s, callP T k "law" [.ro (ns.map D.int)] [] = .ok (.bl true) s) :
    FnOk P wo K mg base (L2.CX P wo) k f fd (["script"] : List Str) (spLaw K) := by
  have FO := fn_okF (P := P) (wo := wo) (base := base) G k "law" d (look_def h) (Fun.toM F) S
  rw [hp] at FO
  refine FO.imp ?_
  rintro vs H Q E ⟨a, ns, rfl, sq, h63, hb, q⟩
  obtain ⟨s, e⟩ := hl ns h63 hb
  refine ⟨fun _ => 0, [], [.ro (ns.map D.int)], ⟨fun k o z => by simp at z, fun i j hi => absurd hi (by simp)⟩, RpL.one ?_, rfl, ?_⟩
  · unfold Rp; exact ⟨a, _, rfl, sq, RpL.ints ns⟩
  · rw [e]
    intro ρ' H' v _ _ r
    rw [r.bl_]
    exact q H'
end
/-- a def of the program, as the top has left it -/
def DOk (K : PySem.W.Frag) (mg : Str → Option Value) (x : Str) (d : Df) : Prop := ∃ f fd, mg x = some (.ref f) ∧ Fun K x x d.st f fd ∧ Binds K fd d.ps [] ∧ FnScope d.N d.ps (defScope d.st)
theorem MOk.plain {K : PySem.W.Frag} {mg : Str → Option Value} {c m q : Str} {n : Nat} {d : Df} {C f : Addr} {fd : FuncData} (h : mg c = some (.ref C)) (hn : m ≠ "__init__") (cl : Cls K C) (mt : Meth K C m f) (F : MFun K m q d.st f fd) (b : Binds K fd d.ps []) (hl : d.ps.length = n + 1) (S : FnScope d.N d.ps (defScope d.st)) : MOk K mg c m n d [] :=
  ⟨C, f, q, fd, [], [], h, fun e => absurd e hn, fun _ => ⟨cl, mt⟩, F, b, .nil, fun _ _ _ => RpL.nil, hl, S⟩
theorem MOk.init {K : PySem.W.Frag} {mg : Str → Option Value} {c q : Str} {n : Nat} {d : Df} {C f : Addr} {fd : FuncData} (h : mg c = some (.ref C)) (M : Mk K C f) (F : MFun K "__init__" q d.st f fd) (b : Binds K fd d.ps []) (hl : d.ps.length = n + 1) (S : FnScope d.N d.ps (defScope d.st)) : MOk K mg c "__init__" n d [] :=
  ⟨C, f, q, fd, [], [], h, fun _ => M, fun e => absurd rfl e, F, b, .nil, fun _ _ _ => RpL.nil, hl, S⟩
def COk (K : PySem.W.Frag) (mg : Str → Option Value) (x : Str) (d : D) : Prop := ∃ u v, mg x = some u ∧ RelV v u ∧ ∀ ρ n H, Rp ⟨K, mg⟩ ρ n H v d
theorem lookup_mem {β : Type} : ∀ {l : List (Str × β)} {x : Str} {b : β}, List.lookup x l = some b → (x, b) ∈ l
  | [], _, _, h => by cases h
  | (y, c) :: l, x, b, h => by
    rw [List.lookup_cons] at h
    split at h
    · rename_i e; cases h; rw [beq_iff_eq.mp e]; exact List.mem_cons_self
    · exact List.mem_cons_of_mem _ (lookup_mem h)
theorem lookup_mem2 {β : Type} : ∀ {l : List ((Str × Str) × β)} {x : Str × Str} {b : β}, List.lookup x l = some b → (x, b) ∈ l
  | [], _, _, h => by cases h
  | (y, c) :: l, x, b, h => by
    rw [List.lookup_cons] at h
    split at h
    · rename_i e; cases h; rw [beq_iff_eq.mp e]; exact List.mem_cons_self
    · exact List.mem_cons_of_mem _ (lookup_mem2 h)
theorem lookup_mem3 {β : Type} : ∀ {l : List ((Str × Str × Nat) × β)} {x : Str × Str × Nat} {b : β}, List.lookup x l = some b → (x, b) ∈ l
  | [], _, _, h => by cases h
  | (y, c) :: l, x, b, h => by
    rw [List.lookup_cons] at h
    split at h
    · rename_i e; cases h; rw [beq_iff_eq.mp e]; exact List.mem_cons_self
    · exact List.mem_cons_of_mem _ (lookup_mem3 h)
theorem pg_mk {K : PySem.W.Frag} {mg : Str → Option Value} {bls : List Str} {csts : List (Str × D)} {tbl : List (Str × Df)} {exl : List Str} {subl : List ((Str × Str) × Bool)} {fldl : List (Str × Str)} {isml : List Str} {mtbl : List (Str × Df)} {mthl : List ((Str × Str × Nat) × (Str × List D))} (hb : ∀ x ∈ bls, mg x = none) (hc : ∀ p ∈ csts, COk K mg p.1 p.2) (hd : ∀ p ∈ tbl, DOk K mg p.1 p.2)
    (he : ∀ x ∈ exl, ExOk K mg x) (hs : ∀ p ∈ subl, SubOk K mg p.1.1 p.1.2 p.2) (hf : ∀ p ∈ fldl, FldOk K mg p.1 p.2)
    (hm : ∀ p ∈ mthl, ∃ d, (match List.lookup p.2.1 tbl with | some d => some d | none => List.lookup p.2.1 mtbl) = some d ∧ MOk K mg p.1.1 p.1.2.1 p.1.2.2 d p.2.2) :
    PgOk ⟨fun x => bls.contains x, fun x => List.lookup x csts, fun x => List.lookup x tbl, fun x => exl.contains x, fun x y => List.lookup (x, y) subl, fun c f => fldl.contains (c, f), fun m => isml.contains m, fun x => List.lookup x mtbl, fun c m n => List.lookup (c, m, n) mthl⟩ K mg :=
  ⟨fun x h => hb x (List.contains_iff_mem.mp h), fun x d h => hc _ (lookup_mem h), fun x h => he x (List.contains_iff_mem.mp h), fun x y b h => hs ((x, y), b) (lookup_mem2 h), fun c f h => hf (c, f) (List.contains_iff_mem.mp h), fun c m n key dd h => hm ((c, m, n), (key, dd)) (lookup_mem3 h), fun x d h => hd _ (lookup_mem h)⟩
theorem walkY {l : PySem.W.OpenLaw} {q : Program} {loose : List Str} {XP : (Str → Option Value) → Heap → Prop} {YP : World → Heap → Prop} {d : DefRec} {K : Params → PySem.W.Frag} {T : Pg} {k : Nat} {dl : Df} (hk : Room k callerA)
    (hn : l.most = some 63) (hdf : d.params.defaults = []) (hY : ∀ (w : World) (h : Heap), YP w h → (K w.params).In h)
    (hT : T.defs "law" = some dl) (hp : dl.ps = (["script"] : List Str))
    (hl : ∀ ns : List Int, ns.length ≤ 63 → (∀ z ∈ ns, Builtin.Int.intBits z ≤ 1048576) → ∃ s, callP T k "law" [.ro (ns.map D.int)] [] = .ok (.bl true) s)
    (F : ∀ (w : World) (mg : Str → Option Value) (fa : Addr) (h : Heap), (K w.params).In h → h.Ns mainGlobals mg → mg d.name = some (.ref fa) →
      ∃ fd : FuncData, (∀ (s : Shared) (u : Value), BindsTo s fd ⟨[u], []⟩ [("script", u)]) ∧ PgOk T (K w.params) mg ∧ Fun (K w.params) "law" "law" dl.st fa fd ∧ FnScope dl.N dl.ps (defScope dl.st)) :
    PySem.W.WalkO q loose XP YP l.row.toRowW d [] (fun f vs => PySem.call f vs) :=
  L2.walk_ofB (n := 63) (k := k) (x := "script") (CX := fun w => L2.CX l.prog w) (sp := fun w => spLaw (K w.params)) hn (by decide) hdf hk hY
    (fun w mg fa h KX N hm => by
      obtain ⟨fd, hb, G, F1, S⟩ := F w mg fa h KX N hm
      exact ⟨fd, hb, fun base _ _ => law_ok G hT hp F1 S hl⟩)
    (fun w H a ns h1 h2 hO hS => ⟨a, ns, rfl, by
      rcases hS with (hS | ⟨o, hS⟩) | hS
      · rcases hO a with z | ⟨o, xs, z⟩
        · rw [z] at hS; cases hS
        · rw [z] at hS; cases hS
      · exact .inl ⟨o, hS⟩
      · exact .inr hS, h1, h2, fun _ => rfl⟩)
    fun w H s e s' z => by
      unfold L2.CX at z
      obtain ⟨_, _, _, _, _, _, _, _, _, _, _, _, z⟩ := z
      exact z
end Y

set_option Elab.async false
set_option linter.all false
set_option maxRecDepth 100000
set_option maxHeartbeats 4000000
/-! Y15: constants of the top. -/
namespace Y
open PySem L2
section
variable {K : PySem.W.Frag} {mg : Str → Option Value}
/-- a value of the written part -/
def VOk (K : PySem.W.Frag) (mg : Str → Option Value) (u : Value) (d : D) : Prop := ∃ v, RelV v u ∧ ∀ ρ n H, Rp ⟨K, mg⟩ ρ n H v d
def VsOk (K : PySem.W.Frag) (mg : Str → Option Value) : List Value → List D → Prop
  | [], [] => True
  | u :: us, d :: ds => VOk K mg u d ∧ VsOk K mg us ds
  | _, _ => False
theorem vok_non : VOk K mg .none .non := ⟨.non, rfl, fun _ _ _ => Rp.non⟩
theorem vok_bl {b : Bool} : VOk K mg (.bool b) (.bl b) := ⟨.bl b, rfl, fun _ _ _ => Rp.bl b⟩
theorem vok_int {i : Int} {t : Nat} : VOk K mg (.int i t) (.int i) := ⟨.int i, ⟨t, rfl⟩, fun _ _ _ => Rp.int i⟩
theorem vok_str {x : Str} {t : Nat} : VOk K mg (.str x t) (.str x) := ⟨.str x, ⟨t, rfl⟩, fun _ _ _ => by unfold Rp; rfl⟩
theorem vsOk_vals : ∀ {us : List Value} {ds : List D}, VsOk K mg us ds → ∃ vs, Vals vs us ∧ ∀ ρ n H, RpL ⟨K, mg⟩ ρ n H vs ds
  | [], [], _ => ⟨[], .nil, fun _ _ _ => by unfold RpL; rfl⟩
  | [], _ :: _, h => h.elim
  | _ :: _, [], h => h.elim
  | u :: us, d :: ds, ⟨⟨v, r, rp⟩, h⟩ => by
    obtain ⟨vs, rs, rps⟩ := vsOk_vals h
    exact ⟨v :: vs, .cons r rs, fun ρ n H => by unfold RpL; exact ⟨v, vs, rfl, rp ρ n H, rps ρ n H⟩⟩
theorem vok_tup {a : Addr} {od : Option Addr} {its : Array Value} {n : Nat} {sl : Array (Option Value)} {ds : List D} (l : K.lookup a = some ⟨.type "tuple", od, .seq its n, sl⟩) (hz : its.size ≤ sizeLine) (h : VsOk K mg its.toList ds) : VOk K mg (.ref a) (.tup ds) := by
  obtain ⟨vs, rs, rps⟩ := vsOk_vals h
  refine ⟨.ref a, rfl, fun ρ m H => ?_⟩
  unfold Rp
  exact ⟨a, vs, rfl, .inr ⟨_, its, n, l, rfl, rfl, hz, rs⟩, rps ρ m H⟩
theorem cok_of {x : Str} {u : Value} {d : D} (hm : mg x = some u) (h : VOk K mg u d) : COk K mg x d := by
  obtain ⟨v, r, rp⟩ := h
  exact ⟨u, v, hm, r, rp⟩
end
end Y

set_option Elab.async false
set_option linter.all false
set_option maxRecDepth 100000
set_option maxHeartbeats 4000000
/-! Y16: the weakest condition of the pure meanings. -/
namespace Y
open PySem L2

def Res.to {α : Type} (r : Res α) (Q : α → Sto → Prop) (X : Str → Sto → Prop) : Prop := match r with
  | .ok a s => Q a s
  | .exc x s => X x s
  | .err => False
abbrev NoX : Str → Sto → Prop := fun _ _ => False
structure Post where
  nx : Ev → Sto → Prop := fun _ _ => False
  rt : D → Sto → Prop := fun _ _ => False
  bk : Ev → Sto → Prop := fun _ _ => False
  ct : Ev → Sto → Prop := fun _ _ => False
  exc : Str → Ev → Sto → Prop := fun _ _ _ => False
def SR.to (r : SR) (P : Post) : Prop := match r with
  | .nx E s => P.nx E s
  | .rt d s => P.rt d s
  | .bk E s => P.bk E s
  | .ct E s => P.ct E s
  | .exc x E s => P.exc x E s
  | .err => False
section
variable {α β : Type} {Q : α → Sto → Prop} {X : Str → Sto → Prop}
@[simp] theorem to_ok {a : α} {s : Sto} : (Res.ok a s).to Q X = Q a s := rfl
@[simp] theorem to_exc {x : Str} {s : Sto} : (Res.exc x s : Res α).to Q X = X x s := rfl
@[simp] theorem to_err : (Res.err : Res α).to Q X = False := rfl
@[simp] theorem to_bind {r : Res β} {f : β → Sto → Res α} : (r.bind f).to Q X = r.to (fun a s => (f a s).to Q X) X := by cases r <;> rfl
@[simp] theorem to_some {a : α} {s : Sto} : (Res.ofO (some (a, s))).to Q X = Q a s := rfl
@[simp] theorem to_none : (Res.ofO (none : Option (α × Sto))).to Q X = False := rfl
@[simp] theorem to_ite {c : Prop} [Decidable c] {a : α} {s : Sto} : (Res.ofO (if c then some (a, s) else none)).to Q X = (c ∧ Q a s) := by
  by_cases h : c <;> simp [h]
@[simp] theorem to_map {β : Type} {o : Option β} {f : β → α × Sto} : (Res.ofO (o.map f)).to Q X = (∃ b, o = some b ∧ Q (f b).1 (f b).2) := by
  cases o with
  | none => simp
  | some b => simp; rfl
@[simp] theorem to_if {c : Prop} [Decidable c] {r r' : Res α} : (if c then r else r').to Q X = ((c → r.to Q X) ∧ (¬ c → r'.to Q X)) := by
  by_cases h : c <;> simp [h]
@[simp] theorem to_noX {r : Res α} : (noX r).to Q X = r.to Q NoX := by cases r <;> rfl
theorem Res.to_mono {r : Res α} {Q' : α → Sto → Prop} {X' : Str → Sto → Prop} (h : r.to Q X) (hq : ∀ a s, Q a s → Q' a s) (hx : ∀ x s, X x s → X' x s) : r.to Q' X' := by
  cases r with
  | ok a s => exact hq _ _ h
  | exc x s => exact hx _ _ h
  | err => exact h.elim
theorem Res.to_imp {r : Res α} {Q' : α → Sto → Prop} (h : r.to Q NoX) (hq : ∀ a s, Q a s → Q' a s) : r.to Q' X := Res.to_mono h hq fun _ _ z => z.elim
theorem Res.to_ex {r : Res α} (h : r.to Q NoX) : ∃ a s, r = .ok a s ∧ Q a s := by
  cases r with
  | ok a s => exact ⟨a, s, rfl, h⟩
  | exc x s => exact h.elim
  | err => exact h.elim
end
section
variable {P : Post} {E : Ev} {s : Sto}
@[simp] theorem st_nx : (SR.nx E s).to P = P.nx E s := rfl
@[simp] theorem st_rt {d : D} : (SR.rt d s).to P = P.rt d s := rfl
@[simp] theorem st_bk : (SR.bk E s).to P = P.bk E s := rfl
@[simp] theorem st_ct : (SR.ct E s).to P = P.ct E s := rfl
@[simp] theorem st_exc {x : Str} : (SR.exc x E s).to P = P.exc x E s := rfl
@[simp] theorem st_err : SR.err.to P = False := rfl
theorem st_exprS {α : Type} {m : EM α} {k : α → SM} : (exprS m k E s).to P = (m E s).to (fun a s1 => (k a E s1).to P) (fun x s1 => P.exc x E s1) := by
  unfold exprS
  cases m E s <;> rfl
@[simp] theorem st_nil : (sNil E s).to P = P.nx E s := rfl
@[simp] theorem st_cons {a b : SM} : (sCons a b E s).to P = (a E s).to { P with nx := fun E1 s1 => (b E1 s1).to P } := by
  unfold sCons
  cases a E s <;> rfl
@[simp] theorem st_break : (sBreak E s).to P = P.bk E s := rfl
@[simp] theorem st_cont : (sCont E s).to P = P.ct E s := rfl
@[simp] theorem st_ret {m : EM D} : (sRet m E s).to P = (m E s).to (fun d s1 => P.rt d s1) (fun x s1 => P.exc x E s1) := st_exprS
@[simp] theorem st_retN : (sRetN E s).to P = P.rt .non s := rfl
@[simp] theorem st_expr {m : EM D} : (sExpr m E s).to P = (m E s).to (fun _ s1 => P.nx E s1) (fun x s1 => P.exc x E s1) := st_exprS
@[simp] theorem st_if {c : EM Bool} {a b : SM} : (sIf c a b E s).to P = (c E s).to (fun k s1 => (k = true → (a E s1).to P) ∧ (¬ k = true → (b E s1).to P)) (fun x s1 => P.exc x E s1) := by
  unfold sIf
  rw [st_exprS]
  congr 1
  funext k s1
  cases k <;> simp
@[simp] theorem st_set {i : Nat} {m : EM D} : (sSet i m E s).to P = (m E s).to (fun d s1 => P.nx (E.set i (some d)) s1) (fun x s1 => P.exc x E s1) := st_exprS
@[simp] theorem st_asg {g : GM} {m : EM D} : (sAsg g m E s).to P = (m E s).to (fun d s1 => (g d E s1).to (fun E' s' => P.nx E' s') NoX) (fun x s1 => P.exc x E s1) := by
  unfold sAsg
  rw [st_exprS]
  congr 1
  funext d s1
  cases g d E s1 <;> rfl
@[simp] theorem st_aug {i : Nat} {op : Operator} {m : EM D} : (sAug i op m E s).to P = (∃ x, E[i]? = some (some x) ∧ (m E s).to (fun y s1 => (Res.ofO (pInp op x y s1)).to (fun d s2 => P.nx (E.set i (some d)) s2) (fun x s1 => P.exc x E s1)) (fun x s1 => P.exc x E s1)) := by
  unfold sAug
  cases h : E[i]? with
  | none => simp
  | some o =>
    cases o with
    | none => simp
    | some x => simp [st_exprS]
@[simp] theorem st_for {it : EM Src} {g : GM} {b : SM} : (sFor it g b E s).to P = (it E s).to (fun src s1 => (forS g b src E s1).to P) (fun x s1 => P.exc x E s1) := st_exprS
@[simp] theorem st_raise {x : Str} : (sRaise x E s).to P = P.exc x E s := rfl
def tryP (i : Nat) (y z : Str) (sub : Str → Str → Option Bool) (P : Post) (x : Str) (E' : Ev) (s' : Sto) : Prop := match sub x y with
  | some true => ∃ r, sub x z = some r ∧ i < E'.length ∧ P.rt (.bl r) s'
  | some false => P.exc x E' s'
  | none => False
@[simp] theorem st_tryI {i : Nat} {b : SM} {y z : Str} {sub : Str → Str → Option Bool} : (sTryI i b y z sub E s).to P = (b E s).to { P with exc := tryP i y z sub P } := by
  unfold sTryI
  cases b E s with
  | exc x E' s' =>
    simp only [st_exc, tryP]
    cases sub x y with
    | none => rfl
    | some c =>
      cases c with
      | false => rfl
      | true =>
        simp only
        cases sub x z with
        | none => simp
        | some r =>
          simp only [Option.some.injEq, exists_eq_left']
          by_cases h : i < E'.length <;> simp [h]
  | _ => rfl
theorem SR.to_mono {r : SR} {P' : Post} (h : r.to P) (h1 : ∀ E s, P.nx E s → P'.nx E s) (h2 : ∀ d s, P.rt d s → P'.rt d s) (h3 : ∀ E s, P.bk E s → P'.bk E s) (h4 : ∀ E s, P.ct E s → P'.ct E s) (h5 : ∀ x E s, P.exc x E s → P'.exc x E s) : r.to P' := by
  cases r with
  | nx E s => exact h1 _ _ h
  | rt d s => exact h2 _ _ h
  | bk E s => exact h3 _ _ h
  | ct E s => exact h4 _ _ h
  | exc x E s => exact h5 _ _ _ h
  | err => exact h.elim
theorem turn_to {g : GM} {b : SM} {d : D} {k : SM} : (turnL g b d k E s).to P = (g d E s).to (fun E1 s1 => (b E1 s1).to { P with nx := fun E2 s2 => (k E2 s2).to P, ct := fun E2 s2 => (k E2 s2).to P, bk := P.nx }) NoX := by
  unfold turnL
  cases g d E s with
  | ok E1 s1 => simp only [to_ok]; cases b E1 s1 <;> rfl
  | exc x s1 => rfl
  | err => rfl
/-- a loop over a fixed list: I i holds ahead of turn i -/
theorem forL_to {g : GM} {b : SM} (I : Nat → Ev → Sto → Prop) : ∀ (xs : List D) (i : Nat) {E : Ev} {s : Sto}, I i E s →
    (∀ j d E s, xs[j]? = some d → I (i + j) E s → (g d E s).to (fun E1 s1 => (b E1 s1).to { P with nx := I (i + j + 1), ct := I (i + j + 1), bk := P.nx }) NoX) →
    (∀ E s, I (i + xs.length) E s → P.nx E s) → (forL g b xs E s).to P
  | [], i, E, s, h0, _, hz => hz E s h0
  | d :: ds, i, E, s, h0, ht, hz => by
    show (turnL g b d (forL g b ds) E s).to P
    rw [turn_to]
    refine Res.to_mono (ht 0 d E s rfl h0) (fun E1 s1 z => ?_) fun _ _ z => z
    have go : ∀ E2 s2, I (i + 0 + 1) E2 s2 → (forL g b ds E2 s2).to P := fun E2 s2 z2 => forL_to I ds (i + 1) z2 (fun j d' E s e z => by
      have := ht (j + 1) d' E s (by simpa using e) (by rw [show i + (j + 1) = i + 1 + j by omega]; exact z)
      rw [show i + (j + 1) = i + 1 + j by omega] at this
      exact this) (fun E s z => hz E s (by rw [List.length_cons, show i + (ds.length + 1) = i + 1 + ds.length by omega]; exact z))
    exact SR.to_mono z go (fun _ _ z => z) (fun _ _ z => z) go (fun _ _ _ z => z)
theorem forK_to {g : GM} {b : SM} {k : Nat} {xs : List D} (I : Nat → Ev → Sto → Prop) (hk : ∀ i E s, I i E s → s[k]? = some (.lst xs))
    (ht : ∀ j d E s, xs[j]? = some d → I j E s → (g d E s).to (fun E1 s1 => (b E1 s1).to { P with nx := I (j + 1), ct := I (j + 1), bk := P.nx }) NoX)
    (hz : ∀ E s, I xs.length E s → P.nx E s) : ∀ (n i : Nat) {E : Ev} {s : Sto}, xs.length < i + n → i ≤ xs.length → I i E s → (forK g b k n i E s).to P
  | 0, i, E, s, h1, h2, _ => absurd h1 (by omega)
  | n + 1, i, E, s, h1, h2, h0 => by
    unfold forK
    rw [hk i E s h0]
    simp only
    cases e : xs[i]? with
    | none =>
      have : i = xs.length := by
        have := List.getElem?_eq_none_iff.mp e
        omega
      subst this
      exact hz E s h0
    | some d =>
      simp only
      rw [turn_to]
      refine Res.to_mono (ht i d E s e h0) (fun E1 s1 z => ?_) fun _ _ z => z
      have hi : i < xs.length := (List.getElem?_eq_some_iff.mp e).1
      have go : ∀ E2 s2, I (i + 1) E2 s2 → (forK g b k n (i + 1) E2 s2).to P := fun E2 s2 z2 => forK_to I hk ht hz n (i + 1) (by omega) (by omega) z2
      exact SR.to_mono z go (fun _ _ z => z) (fun _ _ z => z) go (fun _ _ _ z => z)
/-- a loop over a fixed list, from the start -/
theorem forFix {g : GM} {b : SM} {xs : List D} (I : Nat → Ev → Sto → Prop) (h0 : I 0 E s)
    (ht : ∀ j d E s, xs[j]? = some d → I j E s → (g d E s).to (fun E1 s1 => (b E1 s1).to { P with nx := I (j + 1), ct := I (j + 1), bk := P.nx }) NoX)
    (hz : ∀ E s, I xs.length E s → P.nx E s) : (forS g b (.fix xs) E s).to P := by
  refine forL_to I xs 0 h0 (fun j d E s e z => ?_) (fun E s z => hz E s (by simpa using z))
  rw [Nat.zero_add] at z ⊢
  exact ht j d E s e z
theorem forLst {g : GM} {b : SM} {k : Nat} {xs : List D} (I : Nat → Ev → Sto → Prop) (hl : xs.length < fuelMax) (hk : ∀ i E s, I i E s → s[k]? = some (.lst xs)) (h0 : I 0 E s)
    (ht : ∀ j d E s, xs[j]? = some d → I j E s → (g d E s).to (fun E1 s1 => (b E1 s1).to { P with nx := I (j + 1), ct := I (j + 1), bk := P.nx }) NoX)
    (hz : ∀ E s, I xs.length E s → P.nx E s) : (forS g b (.lst k) E s).to P :=
  forK_to I hk ht hz fuelMax 0 (by omega) (Nat.zero_le _) h0
/-- a while loop: the measure goes down -/
theorem while_to {c : EM Bool} {b : SM} (I : Ev → Sto → Prop) (μ : Ev → Sto → Nat)
    (ht : ∀ E s, I E s → (c E s).to (fun k s1 => (k = true → (b E s1).to { P with nx := fun E2 s2 => I E2 s2 ∧ μ E2 s2 < μ E s, ct := fun E2 s2 => I E2 s2 ∧ μ E2 s2 < μ E s, bk := P.nx }) ∧ (¬ k = true → P.nx E s1)) (fun x s1 => P.exc x E s1)) :
    ∀ (n : Nat) {E : Ev} {s : Sto}, I E s → μ E s < n → (whileL c b n E s).to P
  | 0, E, s, _, h => absurd h (by omega)
  | n + 1, E, s, h0, h => by
    have z := ht E s h0
    unfold whileL
    cases e : c E s with
    | err => rw [e] at z; exact z
    | exc x s1 => rw [e] at z; exact z
    | ok k s1 =>
      rw [e] at z
      cases k with
      | false => exact z.2 (by simp)
      | true =>
        have z := z.1 rfl
        simp only
        have go : ∀ E2 s2, I E2 s2 ∧ μ E2 s2 < μ E s → (whileL c b n E2 s2).to P := fun E2 s2 q => while_to I μ ht n q.1 (by omega)
        cases e2 : b E s1 with
        | nx E2 s2 => rw [e2] at z; exact go E2 s2 z
        | ct E2 s2 => rw [e2] at z; exact go E2 s2 z
        | bk E2 s2 => rw [e2] at z; exact z
        | rt d s2 => rw [e2] at z; exact z
        | exc x E2 s2 => rw [e2] at z; exact z
        | err => rw [e2] at z; exact z
theorem sWhile_to {c : EM Bool} {b : SM} (I : Ev → Sto → Prop) (μ : Ev → Sto → Nat) (h0 : I E s) (hm : μ E s < fuelMax)
    (ht : ∀ E s, I E s → (c E s).to (fun k s1 => (k = true → (b E s1).to { P with nx := fun E2 s2 => I E2 s2 ∧ μ E2 s2 < μ E s, ct := fun E2 s2 => I E2 s2 ∧ μ E2 s2 < μ E s, bk := P.nx }) ∧ (¬ k = true → P.nx E s1)) (fun x s1 => P.exc x E s1)) : (sWhile c b E s).to P :=
  while_to I μ ht fuelMax h0 hm
end
/-! ### comprehensions -/
section
variable {g : GM} {t : EM Bool} {e : EM D} {E0 : Ev} {Q : List D → Sto → Prop} {X : Str → Sto → Prop}
theorem turnC_to {d : D} {s : Sto} {Q : Option D → Sto → Prop} : (turnC g t e E0 d s).to Q X = (g d E0 s).to (fun E1 s1 => (t E1 s1).to (fun b s2 => (b = true → (e E1 s2).to (fun y s3 => Q (some y) s3) NoX) ∧ (¬ b = true → Q none s2)) NoX) NoX := by
  unfold turnC
  cases g d E0 s with
  | ok E1 s1 => simp
  | exc x s1 => rfl
  | err => rfl
theorem compL_to (I : Nat → List D → Sto → Prop) : ∀ (xs : List D) (i : Nat) (acc : List D) {s : Sto} {Q : List D → Sto → Prop}, I i acc s →
    (∀ j d acc s, xs[j]? = some d → I (i + j) acc s → (turnC g t e E0 d s).to (fun o s1 => I (i + j + 1) (acc ++ o.toList) s1) X) →
    (∀ ys s, I (i + xs.length) (acc ++ ys) s → Q ys s) → (compL g t e E0 xs s).to Q X
  | [], i, acc, s, _, h0, _, hz => hz [] s (by simpa using h0)
  | d :: ds, i, acc, s, Q, h0, ht, hz => by
    unfold compL
    rw [to_bind]
    refine Res.to_mono (ht 0 d acc s rfl h0) (fun o s1 z => ?_) fun _ _ z => z
    rw [to_bind]
    simp only [to_ok]
    refine compL_to (Q := fun a s => Q (consO o a) s) I ds (i + 1) (acc ++ o.toList) z (fun j d' a s' e' z' => ?_) fun ys s' z' => ?_
    · have := ht (j + 1) d' a s' (by simpa using e') (by rw [show i + (j + 1) = i + 1 + j by omega]; exact z')
      rw [show i + (j + 1) = i + 1 + j by omega] at this
      exact this
    · refine hz _ _ ?_
      rw [List.length_cons, show i + (ds.length + 1) = i + 1 + ds.length by omega]
      cases o <;> simpa [consO] using z'
theorem compK_to {k : Nat} {xs : List D} (I : Nat → List D → Sto → Prop) (hk : ∀ i acc s, I i acc s → s[k]? = some (.lst xs))
    (ht : ∀ j d acc s, xs[j]? = some d → I j acc s → (turnC g t e E0 d s).to (fun o s1 => I (j + 1) (acc ++ o.toList) s1) X) :
    ∀ (n i : Nat) (acc : List D) {s : Sto} {Q : List D → Sto → Prop}, xs.length < i + n → i ≤ xs.length → I i acc s → (∀ ys s, I xs.length (acc ++ ys) s → Q ys s) → (compK g t e E0 k n i s).to Q X
  | 0, i, acc, s, _, h1, h2, _, _ => absurd h1 (by omega)
  | n + 1, i, acc, s, Q, h1, h2, h0, hz => by
    unfold compK
    rw [hk i acc s h0]
    simp only
    cases e' : xs[i]? with
    | none =>
      have : i = xs.length := by have := List.getElem?_eq_none_iff.mp e'; omega
      subst this
      exact hz [] s (by simpa using h0)
    | some d =>
      simp only
      rw [to_bind]
      refine Res.to_mono (ht i d acc s e' h0) (fun o s1 z => ?_) fun _ _ z => z
      have hi : i < xs.length := (List.getElem?_eq_some_iff.mp e').1
      rw [to_bind]
      simp only [to_ok]
      refine compK_to (Q := fun a s => Q (consO o a) s) I hk ht n (i + 1) (acc ++ o.toList) (by omega) (by omega) z fun ys s' z' => ?_
      refine hz _ _ ?_
      cases o <;> simpa [consO] using z'
theorem compFix {xs : List D} {s : Sto} (I : Nat → List D → Sto → Prop) (hl : xs.length ≤ sizeLine) (h0 : I 0 [] s)
    (ht : ∀ j d acc s, xs[j]? = some d → I j acc s → (turnC g t e E0 d s).to (fun o s1 => I (j + 1) (acc ++ o.toList) s1) X)
    (hz : ∀ ys s, I xs.length ys s → Q ys s) : (compS g t e E0 (.fix xs) s).to Q X := by
  unfold compS
  simp only [if_pos hl]
  refine compL_to I xs 0 [] h0 (fun j d a s e z => ?_) fun ys s z => hz ys s (by simpa using z)
  rw [Nat.zero_add] at z ⊢
  exact ht j d a s e z
theorem compLst {xs : List D} {s : Sto} {k : Nat} (I : Nat → List D → Sto → Prop) (hl : xs.length < sizeLine) (hk : ∀ i acc s, I i acc s → s[k]? = some (.lst xs)) (h0 : I 0 [] s)
    (ht : ∀ j d acc s, xs[j]? = some d → I j acc s → (turnC g t e E0 d s).to (fun o s1 => I (j + 1) (acc ++ o.toList) s1) X)
    (hz : ∀ ys s, I xs.length ys s → Q ys s) : (compS g t e E0 (.lst k) s).to Q X :=
  compK_to I hk ht sizeLine 0 [] (by omega) (Nat.zero_le _) h0 fun ys s z => hz ys s (by simpa using z)
/-- a comprehension that touches nothing -/
theorem compFix_map {xs : List D} {s : Sto} {f : D → Option D} (hl : xs.length ≤ sizeLine) (h : ∀ d ∈ xs, turnC g t e E0 d s = .ok (f d) s) : compS g t e E0 (.fix xs) s = .ok (xs.filterMap f) s := by
  unfold compS
  simp only [if_pos hl]
  clear hl
  induction xs with
  | nil => rfl
  | cons d ds ih =>
    unfold compL
    rw [h d (by simp), Res.bind_ok, ih (fun d hd => h d (by simp [hd])), Res.bind_ok]
    rw [List.filterMap_cons]
    cases f d <;> rfl
theorem compK_map {k : Nat} {xs : List D} {s : Sto} {f : D → Option D} (hk : s[k]? = some (.lst xs)) (h : ∀ d ∈ xs, turnC g t e E0 d s = .ok (f d) s) : ∀ (n i : Nat), xs.length < i + n → i ≤ xs.length → compK g t e E0 k n i s = .ok ((xs.drop i).filterMap f) s
  | 0, i, h1, h2 => absurd h1 (by omega)
  | n + 1, i, h1, h2 => by
    unfold compK
    rw [hk]
    simp only
    cases e' : xs[i]? with
    | none =>
      have : i = xs.length := by have := List.getElem?_eq_none_iff.mp e'; omega
      subst this
      simp
    | some d =>
      obtain ⟨hi, ed⟩ := List.getElem?_eq_some_iff.mp e'
      simp only
      rw [h d (by rw [← ed]; exact List.getElem_mem hi), Res.bind_ok, compK_map hk h n (i + 1) (by omega) (by omega), Res.bind_ok, List.drop_eq_getElem_cons hi, List.filterMap_cons, ed]
      cases f d <;> rfl
theorem compLst_map {k : Nat} {xs : List D} {s : Sto} {f : D → Option D} (hk : s[k]? = some (.lst xs)) (hl : xs.length < sizeLine) (h : ∀ d ∈ xs, turnC g t e E0 d s = .ok (f d) s) : compS g t e E0 (.lst k) s = .ok (xs.filterMap f) s := by
  have := compK_map (g := g) (t := t) (e := e) (E0 := E0) hk h sizeLine 0 (by omega) (Nat.zero_le _)
  rw [List.drop_zero] at this
  exact this
end
end Y

set_option Elab.async false
set_option linter.all false
set_option maxRecDepth 100000
set_option maxHeartbeats 4000000
/-! Y17: how the pure meanings run. -/
namespace Y
open PySem L2

def Res.ofV : Option (Option D) → Sto → Res D
  | some (some d), s => .ok d s
  | _, _ => .err
@[simp] theorem ofV_some {d : D} {s : Sto} : Res.ofV (some (some d)) s = .ok d s := rfl
section
variable {E : Ev} {s : Sto}
@[simp] theorem eVar_ap {i : Nat} : eVar i E s = Res.ofV E[i]? s := by
  unfold eVar
  cases E[i]? with
  | none => rfl
  | some o => cases o <;> rfl
@[simp] theorem eC_ap {d : D} : eC d E s = .ok d s := rfl
@[simp] theorem eBin_ap {p : P2} {a b : EM D} : eBin p a b E s = (a E s).bind fun x s1 => (b E s1).bind fun y s2 => .ofO (p x y s2) := rfl
@[simp] theorem eUn_ap {p : P1} {a : EM D} : eUn p a E s = (a E s).bind fun x s1 => .ofO (p x s1) := rfl
def Res.ofB : D → Sto → Res Bool
  | .bl b, s => .ok b s
  | _, _ => .err
@[simp] theorem ofB_bl {b : Bool} : Res.ofB (.bl b) s = .ok b s := rfl
@[simp] theorem tOfB_ap {m : EM D} : tOfB m E s = (m E s).bind Res.ofB := by
  unfold tOfB
  congr 1
  funext d s1
  cases d <;> rfl
def Res.ofT : Option Bool → Sto → Res Bool
  | some b, s => .ok b s
  | _, _ => .err
@[simp] theorem ofT_some {b : Bool} : Res.ofT (some b) s = .ok b s := rfl
@[simp] theorem tOfT_ap {m : EM D} : tOfT m E s = (m E s).bind fun d s1 => Res.ofT (truD d s1) s1 := by
  unfold tOfT
  congr 1
  funext d s1
  cases truD d s1 <;> rfl
@[simp] theorem tNt_ap {a : EM Bool} : tNt a E s = (a E s).bind fun b s1 => .ok (!b) s1 := rfl
@[simp] theorem tAn_ap {a b : EM Bool} : tAn a b E s = (a E s).bind fun c s1 => if c = true then b E s1 else .ok false s1 := rfl
@[simp] theorem tOr_ap {a b : EM Bool} : tOr' a b E s = (a E s).bind fun c s1 => if c = true then .ok true s1 else b E s1 := rfl
def Res.an (o : Option Bool) (t f : Res D) : Res D := match o with
  | some true => t
  | some false => f
  | none => .err
@[simp] theorem an_t {t f : Res D} : Res.an (some true) t f = t := rfl
@[simp] theorem an_f {t f : Res D} : Res.an (some false) t f = f := rfl
theorem an_some {b : Bool} {t f : Res D} : Res.an (some b) t f = if b = true then t else f := by cases b <;> rfl
@[simp] theorem eAn_ap {a b : EM D} : eAn a b E s = (a E s).bind fun d s1 => Res.an (truD d s1) (b E s1) (.ok d s1) := by
  unfold eAn
  rfl
@[simp] theorem eOr_ap {a b : EM D} : eOr a b E s = (a E s).bind fun d s1 => Res.an (truD d s1) (.ok d s1) (b E s1) := by
  unfold eOr
  rfl
@[simp] theorem eNt_ap {a : EM D} : eNt a E s = (a E s).bind fun d s1 => (Res.ofT (truD d s1) s1).bind fun b s2 => .ok (.bl (!b)) s2 := by
  unfold eNt
  cases a E s with
  | ok d s1 => simp only [Res.bind_ok]; cases truD d s1 <;> rfl
  | _ => rfl
@[simp] theorem eIf_ap {c : EM Bool} {a b : EM D} : eIf c a b E s = (c E s).bind fun k s1 => if k = true then a E s1 else b E s1 := rfl
@[simp] theorem aNil_ap : aNil E s = .ok [] s := rfl
@[simp] theorem aCons_ap {a : EM D} {b : EM (List D)} : aCons a b E s = (a E s).bind fun d s1 => (b E s1).bind fun ds s2 => .ok (d :: ds) s2 := rfl
@[simp] theorem eA_ap {p : PL} {a : EM (List D)} : eA p a E s = (a E s).bind fun ds s1 => .ofO (p ds s1) := rfl
@[simp] theorem eCall_ap {n : Nat} {F : List D → Sto → Res D} {a : EM (List D)} : eCall n F a E s = (a E s).bind fun ds s1 => if ds.length = n then F ds s1 else .err := rfl
def Res.ofL {α : Type} : Option α → Sto → Res α
  | some b, s => .ok b s
  | _, _ => .err
@[simp] theorem ofL_some {α : Type} {b : α} : Res.ofL (some b) s = .ok b s := rfl
@[simp] theorem lOfE_ap {m : EM D} : lOfE m E s = (m E s).bind fun d s1 => Res.ofL (seqD d s1) s1 := by
  unfold lOfE
  congr 1
  funext d s1
  cases seqD d s1 <;> rfl
@[simp] theorem lOfL_ap {m : EM D} : lOfL m E s = (m E s).bind fun d s1 => Res.ofL (lstD d s1) s1 := by
  unfold lOfL
  congr 1
  funext d s1
  cases lstD d s1 <;> rfl
@[simp] theorem eAlloc_ap {m : EM (List D)} : eAlloc m E s = (m E s).bind fun ds s1 => .ok (.loc s1.length) (s1 ++ [.lst ds]) := rfl
@[simp] theorem eAllocD_ap {m : EM (List (Key × D))} : eAllocD m E s = (m E s).bind fun ds s1 => .ok (.loc s1.length) (s1 ++ [.dic ds]) := rfl
@[simp] theorem dictNew_ap : dictNew E s = .ok (.loc s.length) (s ++ [.dic []]) := rfl
@[simp] theorem tYes_ap : tYesM E s = .ok true s := rfl
def Res.ofI : D → Sto → Res (Option Int)
  | .int i, s => .ok (some i) s
  | _, _ => .err
@[simp] theorem ofI_int {i : Int} : Res.ofI (.int i) s = .ok (some i) s := rfl
@[simp] theorem oSome_ap {m : EM D} : oSome m E s = (m E s).bind Res.ofI := by
  unfold oSome
  congr 1
  funext d s1
  cases d <;> rfl
@[simp] theorem pSl_tup {xs : List D} {lo hi : Option Int} : pSl (.tup xs) lo hi s = some (.tup (cutA xs lo hi), s) := rfl
theorem pSl_str {z : Str} {lo hi : Option Int} : pSl (.str z) lo hi s = if z.length ≤ sizeLine then some (.str (cutS z lo hi), s) else none := rfl
theorem pSl_loc {k : Nat} {xs : List D} {lo hi : Option Int} (h : s[k]? = some (.lst xs)) : pSl (.loc k) lo hi s = some (.loc s.length, s ++ [.lst (cutA xs lo hi)]) := by
  unfold pSl; simp only [h]
theorem sIx_nat {n d : Nat} {i : Nat} : HT.sIx n d (some (i : Int)) = min i n := by
  unfold HT.sIx
  simp
  omega
theorem cut_from {α : Type} {xs : List α} {i : Nat} : cutA xs (some (i : Int)) none = xs.drop i := by
  unfold cutA
  rw [sIx_nat, HT.sIx_none]
  by_cases h : i ≤ xs.length
  · rw [Nat.min_eq_left h, List.take_of_length_le (by rw [List.length_drop]; omega)]
  · rw [Nat.min_eq_right (by omega), List.drop_of_length_le (Nat.le_refl _), List.drop_of_length_le (by omega)]; simp
theorem cut_to {α : Type} {xs : List α} {i : Nat} : cutA xs none (some (i : Int)) = xs.take i := by
  unfold cutA
  rw [sIx_nat, HT.sIx_none, List.drop_zero, Nat.sub_zero]
  by_cases h : i ≤ xs.length
  · rw [Nat.min_eq_left h]
  · rw [Nat.min_eq_right (by omega), List.take_length, List.take_of_length_le (by omega)]
@[simp] theorem cut_1 {α : Type} {xs : List α} : cutA xs (some 1) none = xs.drop 1 := cut_from (i := 1)
@[simp] theorem cut_2 {α : Type} {xs : List α} : cutA xs (some 2) none = xs.drop 2 := cut_from (i := 2)
@[simp] theorem oNone_ap : oNone E s = .ok none s := rfl
@[simp] theorem eSl_ap {a : EM D} {lo hi : EM (Option Int)} : eSl a lo hi E s = (a E s).bind fun x s1 => (lo E s1).bind fun l s2 => (hi E s2).bind fun h s3 => .ofO (pSl x l h s3) := rfl
@[simp] theorem fRev_ap {m : EM D} : fRev m E s = (m E s).bind fun d s1 => (Res.ofL (lstD d s1) s1).bind fun xs s2 => .ok xs.reverse s2 := by
  unfold fRev
  congr 1
  funext d s1
  cases d with
  | loc k =>
    simp only [lstD]
    cases s1[k]? with
    | none => rfl
    | some o => cases o <;> rfl
  | _ => rfl
@[simp] theorem eL_ap {p : List D → Option D} {m : EM (List D)} : eL p m E s = (m E s).bind fun ds s1 => Res.ofL (p ds) s1 := by
  unfold eL
  congr 1
  funext d s1
  cases p d <;> rfl
@[simp] theorem fSortedL_ap {m : EM (List D)} : fSortedL m E s = (m E s).bind fun ds s1 => Res.ofL (srtD ds) s1 := by
  unfold fSortedL
  congr 1
  funext d s1
  cases srtD d <;> rfl
def srtDS (d : D) (s : Sto) : Option (List D) := match lstD d s with
  | some ds => srtD ds
  | none => match d with
    | .loc k => match s[k]? with
      | some (.dic kvs) => match keysS kvs with
        | some ks => if ks.length < 64 then some ((srtS ks).map D.str) else none
        | none => none
      | _ => none
    | _ => none
@[simp] theorem fSorted_ap {m : EM D} : fSorted m E s = (m E s).bind fun d s1 => Res.ofL (srtDS d s1) s1 := by
  unfold fSorted
  congr 1
  funext d s1
  unfold srtDS
  cases lstD d s1 with
  | some ds => simp only; cases srtD ds <;> rfl
  | none =>
    simp only
    cases d with
    | loc k =>
      simp only
      cases s1[k]? with
      | none => rfl
      | some o =>
        cases o with
        | dic kvs =>
          simp only
          cases keysS kvs with
          | none => rfl
          | some ks => simp only; split <;> rfl
        | _ => rfl
    | _ => rfl
@[simp] theorem fList_ap {m : EM (List D)} : fList m E s = m E s := rfl
def Res.meth (name : Str) (d : D) (s1 : Sto) (a : Sto → Res (List D)) : Res D := match tyD d s1 with
  | some T => match pMeth T name with
    | some p => (a s1).bind fun ds s2 => .ofO (p d ds s2)
    | none => .err
  | none => .err
@[simp] theorem eMeth_ap {name : Str} {o : EM D} {a : EM (List D)} : eMeth name o a E s = (o E s).bind fun d s1 => Res.meth name d s1 (fun s2 => a E s2) := rfl
@[simp] theorem gNm_ap {i : Nat} {d : D} : gNm i d E s = .ok (E.set i (some d)) s := rfl
@[simp] theorem gsNil_ap : gsNil [] E s = .ok E s := rfl
@[simp] theorem gsCons_ap {a : GM} {b : GMs} {d : D} {r : List D} : gsCons a b (d :: r) E s = (a d E s).bind fun E1 s1 => b r E1 s1 := rfl
def Res.gtp (n : Nat) (gs : List D → Res Ev) : Option (List D) → Res Ev
  | some xs => if xs.length = n then gs xs else .err
  | none => .err
@[simp] theorem gtp_some {n : Nat} {gs : List D → Res Ev} {xs : List D} : Res.gtp n gs (some xs) = if xs.length = n then gs xs else .err := rfl
@[simp] theorem gTp_ap {n : Nat} {gs : GMs} {d : D} : gTp n gs d E s = Res.gtp n (fun xs => gs xs E s) (seqD d s) := by
  unfold gTp
  cases seqD d s <;> rfl
def Res.ofS (E : Ev) : Option Sto → Res Ev
  | some s => .ok E s
  | none => .err
@[simp] theorem ofS_some : Res.ofS E (some s) = .ok E s := rfl
@[simp] theorem gSb_ap {o i : EM D} {v : D} : gSb o i v E s = (o E s).bind fun dO s1 => (i E s1).bind fun dI s2 => Res.ofS E (pSet dO dI v s2) := by
  unfold gSb
  rfl
@[simp] theorem iVal_ap {m : EM D} : iVal m E s = (m E s).bind fun d s1 => Res.ofL (srcD d s1) s1 := by
  unfold iVal
  congr 1
  funext d s1
  cases srcD d s1 <;> rfl
@[simp] theorem iFix_ap {m : EM (List D)} : iFix m E s = (m E s).bind fun ds s1 => .ok (.fix ds) s1 := rfl
def rng1 : List D → Option Src
  | [.int j] => if fitI j = true then some (.fix (rngD 0 j)) else none
  | _ => none
def rng2 : List D → Option Src
  | [.int i, .int j] => if fitI i = true ∧ fitI j = true then some (.fix (rngD i j)) else none
  | _ => none
@[simp] theorem fitI_lit {n : Nat} : fitI (no_index (OfNat.ofNat n : Int)) = decide (n ≤ 1152921504606846975) := by
  have e : fitI (OfNat.ofNat n : Int) = Nat.ble n 1152921504606846975 := rfl
  rw [e, Bool.eq_iff_iff, Nat.ble_eq, decide_eq_true_eq]
@[simp] theorem rng1_int {j : Int} : rng1 [.int j] = if fitI j = true then some (.fix (rngD 0 j)) else none := rfl
@[simp] theorem rng2_int {i j : Int} : rng2 [.int i, .int j] = if fitI i = true ∧ fitI j = true then some (.fix (rngD i j)) else none := rfl
@[simp] theorem iRng1_ap {m : EM (List D)} : iRng1' m E s = (m E s).bind fun ds s1 => Res.ofL (rng1 ds) s1 := by
  unfold iRng1'
  congr 1
  funext ds s1
  rcases ds with _ | ⟨a, _ | ⟨b, _ | ⟨c, r⟩⟩⟩
  · rfl
  · cases a <;> first | rfl | (show (if _ then _ else _) = Res.ofL (if _ then _ else _) s1; split <;> rfl)
  · cases a <;> first | rfl | (cases b <;> first | rfl | (show (if _ then _ else _) = Res.ofL (if _ then _ else _) s1; split <;> rfl))
  · cases a <;> first | rfl | (cases b <;> rfl)
@[simp] theorem iRng2_ap {m : EM (List D)} : iRng2' m E s = (m E s).bind fun ds s1 => Res.ofL (rng2 ds) s1 := by
  unfold iRng2'
  congr 1
  funext ds s1
  rcases ds with _ | ⟨a, _ | ⟨b, _ | ⟨c, r⟩⟩⟩
  · rfl
  · cases a <;> first | rfl | (show (if _ then _ else _) = Res.ofL (if _ then _ else _) s1; split <;> rfl)
  · cases a <;> first | rfl | (cases b <;> first | rfl | (show (if _ then _ else _) = Res.ofL (if _ then _ else _) s1; split <;> rfl))
  · cases a <;> first | rfl | (cases b <;> rfl)
@[simp] theorem iRng3_ap {m : EM (List D)} : iRng3' m E s = (m E s).bind fun ds s1 => match ds with
  | [.int i, .int j, .int c] => if (c ≠ 0 ∧ c.natAbs < 1073741824 ∧ Builtin.Range.small i j c = true) ∧ 0 ≤ Builtin.Range.rangeSize i j c then .ok (.fix (rng3D i c (Builtin.Range.rangeSize i j c).toNat)) s1 else .err
  | _ => .err := rfl
@[simp] theorem fLc_ap {it : EM Src} {g : GM} {t : EM Bool} {e : EM D} {vs : List Nat} : fLc it g t e vs E s = (it E s).bind fun src s1 => compS g t e (wipeE E vs) src s1 := rfl
@[simp] theorem wipe_nil : wipeE E [] = E := rfl
@[simp] theorem wipe_cons {v : Nat} {vs : List Nat} : wipeE E (v :: vs) = (wipeE E vs).set v none := rfl
@[simp] theorem to_ofL {α : Type} {c : Prop} [Decidable c] {a : α} {Q : α → Sto → Prop} {X : Str → Sto → Prop} : (Res.ofL (if c then some a else none) s).to Q X = (c ∧ Q a s) := by
  by_cases h : c <;> simp [h, Res.ofL]
end
/-! ### operators -/
section
variable {s : Sto}
@[simp] theorem pBin_Add : pBin .Add = pAdd := rfl
@[simp] theorem pBin_Sub : pBin .Sub = pSub := rfl
@[simp] theorem pBin_Mult : pBin .Mult = pMul := rfl
@[simp] theorem pBin_FloorDiv : pBin .FloorDiv = pDiv := rfl
@[simp] theorem pBin_Mod : pBin .Mod = pMod := rfl
@[simp] theorem pBin_Pow : pBin .Pow = pPow := rfl
@[simp] theorem pAdd_int {i j : Int} : pAdd (.int i) (.int j) s = some (.int (i + j), s) := rfl
@[simp] theorem pAdd_tup {a b : List D} : pAdd (.tup a) (.tup b) s = if a.length + b.length ≤ sizeLine then some (.tup (a ++ b), s) else none := rfl
@[simp] theorem pAdd_str {a b : Str} : pAdd (.str a) (.str b) s = if a.length + b.length ≤ sizeLine then some (.str (a ++ b), s) else none := rfl
@[simp] theorem pSub_int {i j : Int} : pSub (.int i) (.int j) s = some (.int (i - j), s) := rfl
@[simp] theorem pMul_int {i j : Int} : pMul (.int i) (.int j) s = if i.natAbs.log2 + j.natAbs.log2 < 1000000 then some (.int (i * j), s) else none := rfl
@[simp] theorem pDiv_int {i j : Int} : pDiv (.int i) (.int j) s = if 0 < j ∧ j.natAbs.log2 < 9000 then some (.int (i / j), s) else none := rfl
@[simp] theorem pMod_int {i j : Int} : pMod (.int i) (.int j) s = if 0 < j then some (.int (i % j), s) else none := rfl
@[simp] theorem pPow_int {i j : Int} : pPow (.int i) (.int j) s = if 0 ≤ j ∧ j ≤ 1000000 ∧ fitI i = true then some (.int (i ^ j.toNat), s) else none := rfl
@[simp] theorem pInp_int {i j : Int} : pInp .Add (.int i) (.int j) s = some (.int (i + j), s) := rfl
@[simp] theorem pNeg_int {i : Int} : pNeg (.int i) s = some (.int (-i), s) := rfl
@[simp] theorem pIx_tup {xs : List D} {i : Int} : pIx (.tup xs) (.int i) s = (atI xs i).map fun d => (d, s) := rfl
@[simp] theorem pIx_ro {xs : List D} {i : Int} : pIx (.ro xs) (.int i) s = (atI xs i).map fun d => (d, s) := rfl
def ixO (o : Option O) (y : D) : Option D := match o with
  | some (.lst xs) => match y with
    | .int i => atI xs i
    | _ => none
  | some (.dic kvs) => match keyD y with
    | some q => getA kvs q
    | none => none
  | _ => none
@[simp] theorem pIx_loc {k : Nat} {y : D} : pIx (.loc k) y s = (ixO s[k]? y).map fun d => (d, s) := by
  have e : pIx (.loc k) y s = match s[k]? with
    | some (.lst xs) => (match y with
      | .int i => (atI xs i).map fun d => (d, s)
      | _ => none)
    | some (.dic kvs) => (match keyD y with
      | some q => (getA kvs q).map fun d => (d, s)
      | none => none)
    | _ => none := by cases y <;> rfl
  rw [e]
  unfold ixO
  cases s[k]? with
  | none => rfl
  | some o =>
    cases o with
    | lst xs => cases y <;> rfl
    | dic kvs => simp only; cases keyD y <;> rfl
    | ins c fs => rfl
@[simp] theorem ixO_lst {xs : List D} {i : Int} : ixO (some (.lst xs)) (.int i) = atI xs i := rfl
@[simp] theorem ixO_str {kvs : List (Key × D)} {x : Str} : ixO (some (.dic kvs)) (.str x) = getA kvs (.inr x) := rfl
@[simp] theorem ixO_int {kvs : List (Key × D)} {x : Int} : ixO (some (.dic kvs)) (.int x) = getA kvs (.inl x) := rfl
theorem atI_nat {α : Type} {xs : List α} {n : Nat} : atI xs (n : Int) = xs[n]? := by
  unfold atI ixN
  have h : ¬ ((n : Int) < 0) := by omega
  by_cases hn : n < xs.length
  · simp [h, hn]
  · simp [h, hn]
@[simp] theorem atI_0 {α : Type} {xs : List α} : atI xs 0 = xs[0]? := atI_nat (n := 0)
@[simp] theorem atI_1 {α : Type} {xs : List α} : atI xs 1 = xs[1]? := atI_nat (n := 1)
@[simp] theorem atI_2 {α : Type} {xs : List α} : atI xs 2 = xs[2]? := atI_nat (n := 2)
@[simp] theorem atI_3 {α : Type} {xs : List α} : atI xs 3 = xs[3]? := atI_nat (n := 3)
@[simp] theorem atI_4 {α : Type} {xs : List α} : atI xs 4 = xs[4]? := atI_nat (n := 4)
@[simp] theorem atI_5 {α : Type} {xs : List α} : atI xs 5 = xs[5]? := atI_nat (n := 5)
@[simp] theorem atI_6 {α : Type} {xs : List α} : atI xs 6 = xs[6]? := atI_nat (n := 6)
theorem atI_mod {α : Type} {xs : List α} {z : Int} (h : 0 ≤ z) : atI xs z = xs[z.toNat]? := by
  obtain ⟨n, rfl⟩ : ∃ n : Nat, z = n := ⟨z.toNat, by omega⟩
  rw [atI_nat]; rfl
def setO (o : Option O) (i v : D) : Option O := match o with
  | some (.lst xs) => match i with
    | .int z => match ixN xs.length z with
      | some j => some (.lst (xs.set j v))
      | none => none
    | _ => none
  | some (.dic kvs) => match keyD i with
    | some q => if kvs.length < sizeLine then some (.dic (putA kvs q v)) else none
    | none => none
  | _ => none
@[simp] theorem pSet_loc {k : Nat} {i v : D} : pSet (.loc k) i v s = (setO s[k]? i v).map fun o => s.set k o := by
  unfold pSet setO
  simp only
  cases s[k]? with
  | none => rfl
  | some o =>
    cases o with
    | lst xs =>
      simp only
      cases i <;> try rfl
      simp only
      cases ixN xs.length _ <;> rfl
    | dic kvs =>
      simp only
      cases keyD i <;> try rfl
      simp only
      split <;> rfl
    | ins c fs => rfl
@[simp] theorem setO_lst {xs : List D} {z : Int} {v : D} : setO (some (.lst xs)) (.int z) v = (ixN xs.length z).map fun j => .lst (xs.set j v) := by
  unfold setO
  simp only
  cases ixN xs.length z <;> rfl
@[simp] theorem setO_str {kvs : List (Key × D)} {x : Str} {v : D} : setO (some (.dic kvs)) (.str x) v = if kvs.length < sizeLine then some (.dic (putA kvs (.inr x) v)) else none := rfl
@[simp] theorem setO_int {kvs : List (Key × D)} {x : Int} {v : D} : setO (some (.dic kvs)) (.int x) v = if kvs.length < sizeLine then some (.dic (putA kvs (.inl x) v)) else none := rfl
theorem ixN_nat {n j : Nat} (h : j < n) : ixN n (j : Int) = some j := by
  unfold ixN
  have h1 : ¬ ((j : Int) < 0) := by omega
  simp [h1, h]
@[simp] theorem to_ofS {E : Ev} {c : Option O} {f : O → Sto} {Q : Ev → Sto → Prop} {X : Str → Sto → Prop} : (Res.ofS E (c.map f)).to Q X = (∃ o, c = some o ∧ Q E (f o)) := by
  cases c with
  | none => simp [Res.ofS]
  | some o => simp
@[simp] theorem pCmp_Eq : pCmp .Eq = pEq := rfl
@[simp] theorem pCmp_Ne : pCmp .NotEq = pNe := rfl
@[simp] theorem pCmp_Lt : pCmp .Lt = pLt := rfl
@[simp] theorem pCmp_Le : pCmp .LtE = pLe := rfl
@[simp] theorem pCmp_Gt : pCmp .Gt = pGt := rfl
@[simp] theorem pCmp_Ge : pCmp .GtE = pGe := rfl
@[simp] theorem pCmp_In : pCmp .In = pIn := rfl
@[simp] theorem pCmp_NotIn : pCmp .NotIn = pNotIn := rfl
@[simp] theorem pCmp_Is : pCmp .Is = pIs := rfl
@[simp] theorem pCmp_IsNot : pCmp .IsNot = pIsNot := rfl
@[simp] theorem pEq_int {i j : Int} : pEq (.int i) (.int j) s = some (.bl (decide (i = j)), s) := rfl
@[simp] theorem pEq_str {i j : Str} : pEq (.str i) (.str j) s = some (.bl (decide (i = j)), s) := rfl
@[simp] theorem pNe_int {i j : Int} : pNe (.int i) (.int j) s = some (.bl (!decide (i = j)), s) := rfl
@[simp] theorem pNe_str {i j : Str} : pNe (.str i) (.str j) s = some (.bl (!decide (i = j)), s) := rfl
@[simp] theorem pLt_int {i j : Int} : pLt (.int i) (.int j) s = some (.bl (decide (i < j)), s) := rfl
@[simp] theorem pLe_int {i j : Int} : pLe (.int i) (.int j) s = some (.bl (decide (i ≤ j)), s) := rfl
@[simp] theorem pGt_int {i j : Int} : pGt (.int i) (.int j) s = some (.bl (decide (j < i)), s) := rfl
@[simp] theorem pGe_int {i j : Int} : pGe (.int i) (.int j) s = some (.bl (decide (j ≤ i)), s) := rfl
@[simp] theorem pIn_loc {x : Str} {k : Nat} {kvs : List (Key × D)} (h : s[k]? = some (.dic kvs)) : pIn (.str x) (.loc k) s = some (.bl (getA kvs (.inr x)).isSome, s) := by
  unfold pIn inP
  simp only [h]
  rfl
@[simp] theorem tru_bl {b : Bool} : truD (.bl b) s = some b := rfl
@[simp] theorem tru_int {i : Int} : truD (.int i) s = some (i != 0) := rfl
@[simp] theorem tru_tup {xs : List D} : truD (.tup xs) s = some (!xs.isEmpty) := rfl
@[simp] theorem tru_ro {xs : List D} : truD (.ro xs) s = some (!xs.isEmpty) := rfl
@[simp] theorem tru_non : truD .non s = some false := rfl
@[simp] theorem mkTup_ap {ds : List D} : mkTup ds s = if ds.length ≤ sizeLine then some (.tup ds, s) else none := rfl
@[simp] theorem mkLst_ap {ds : List D} : mkLst ds s = if ds.length ≤ sizeLine then some (.loc s.length, s ++ [.lst ds]) else none := rfl
@[simp] theorem lTup_ap {ds : List D} : lTup ds = some (.tup ds) := rfl
@[simp] theorem seq_tup {xs : List D} : seqD (.tup xs) s = some xs := rfl
@[simp] theorem seq_ro {xs : List D} : seqD (.ro xs) s = some xs := rfl
def lstO : Option O → Option (List D)
  | some (.lst xs) => some xs
  | _ => none
@[simp] theorem lstO_lst {xs : List D} : lstO (some (.lst xs)) = some xs := rfl
@[simp] theorem seq_loc {k : Nat} : seqD (.loc k) s = lstO s[k]? := by
  cases h : s[k]? with
  | none => simp [seqD, lstO, h]
  | some o => cases o <;> simp [seqD, lstO, h]
@[simp] theorem lst_ro {xs : List D} : lstD (.ro xs) s = some xs := rfl
@[simp] theorem lst_loc {k : Nat} : lstD (.loc k) s = lstO s[k]? := by
  cases h : s[k]? with
  | none => simp [lstD, lstO, h]
  | some o => cases o <;> simp [lstD, lstO, h]
@[simp] theorem src_tup {xs : List D} : srcD (.tup xs) s = some (.fix xs) := rfl
@[simp] theorem src_ro {xs : List D} : srcD (.ro xs) s = some (.fix xs) := rfl
@[simp] theorem src_str {z : Str} : srcD (.str z) s = some (.fix (charsD z)) := rfl
def srcO (k : Nat) : Option O → Option Src
  | some (.lst _) => some (.lst k)
  | _ => none
@[simp] theorem srcO_lst {k : Nat} {xs : List D} : srcO k (some (.lst xs)) = some (.lst k) := rfl
@[simp] theorem src_loc {k : Nat} : srcD (.loc k) s = srcO k s[k]? := by
  cases h : s[k]? with
  | none => simp [srcD, srcO, h]
  | some o => cases o <;> simp [srcD, srcO, h]
@[simp] theorem pLen_tup {xs : List D} : pLen [.tup xs] s = some (.int xs.length, s) := rfl
@[simp] theorem pLen_ro {xs : List D} : pLen [.ro xs] s = some (.int xs.length, s) := rfl
def lenO : Option O → Option Int
  | some (.lst xs) => some xs.length
  | some (.dic xs) => some xs.length
  | _ => none
@[simp] theorem lenO_lst {xs : List D} : lenO (some (.lst xs)) = some (xs.length : Int) := rfl
@[simp] theorem lenO_dic {xs : List (Key × D)} : lenO (some (.dic xs)) = some (xs.length : Int) := rfl
@[simp] theorem pLen_loc {k : Nat} : pLen [.loc k] s = (lenO s[k]?).map fun n => (.int n, s) := by
  have e : pLen [.loc k] s = match s[k]? with
    | some (.lst xs) => some (.int xs.length, s)
    | some (.dic kvs) => some (.int kvs.length, s)
    | _ => none := rfl
  rw [e]
  unfold lenO
  cases s[k]? with
  | none => rfl
  | some o => cases o <;> rfl
@[simp] theorem pAbs_int {i : Int} : pAbs [.int i] s = some (.int (if i < 0 then -i else i), s) := rfl
@[simp] theorem pIntC_int {i : Int} : pIntC [.int i] s = some (.int i, s) := rfl
@[simp] theorem pIntC_bl {b : Bool} : pIntC [.bl b] s = some (.int (if b = true then 1 else 0), s) := rfl
@[simp] theorem pIntC_str {x : Str} : pIntC [.str x] s = if x.length ≤ 640 then (PySem.intText? x).map fun n => (.int n, s) else none := rfl
@[simp] theorem pStr_int {i : Int} : pStr [.int i] s = if i.natAbs.log2 < 1900 then some (.str (Str.ofString (toString i)), s) else none := rfl
@[simp] theorem pOrd_str {x : Str} : pOrd [.str x] s = if x.length = 1 then some (.int (x.cps.getD 0 0 : Nat), s) else none := rfl
@[simp] theorem pDivmod_int {i j : Int} : pDivmod [.int i, .int j] s = if 0 < j ∧ j.natAbs.log2 < 9000 then some (.tup [.int (i / j), .int (i % j)], s) else none := rfl
@[simp] theorem pLt_str {x y : Str} : pLt (.str x) (.str y) s = some (.bl (decide (x.cps.toList < y.cps.toList)), s) := rfl
@[simp] theorem pGt_str {x y : Str} : pGt (.str x) (.str y) s = some (.bl (decide (y.cps.toList < x.cps.toList)), s) := rfl
@[simp] theorem ty_non : tyD .non s = some "NoneType" := rfl
@[simp] theorem ty_bl {b : Bool} : tyD (.bl b) s = some "bool" := rfl
@[simp] theorem ty_int {b : Int} : tyD (.int b) s = some "int" := rfl
@[simp] theorem ty_str {b : Str} : tyD (.str b) s = some "str" := rfl
@[simp] theorem ty_tup {b : List D} : tyD (.tup b) s = some "tuple" := rfl
@[simp] theorem ty_ro {b : List D} : tyD (.ro b) s = some "list" := rfl
theorem isi_of {d : D} {n t : String} {b : Bool} (h : tyD d s = some t) (e : isiB t n = some b) : pIsi [d, .ty n] s = some (.bl b, s) := by
  unfold pIsi
  simp only [h, e, Option.map_some]
section
variable {d : D} {ds : List D} {a : Sto → Res (List D)} {k : Nat} {xs : List D} {kvs : List (Key × D)}
theorem meth_append (h : s[k]? = some (.lst xs)) : Res.meth "append" (.loc k) s a = (a s).bind fun ds s2 => .ofO (mAppend (.loc k) ds s2) := by
  unfold Res.meth tyD; simp only [h]; rfl
theorem meth_extend (h : s[k]? = some (.lst xs)) : Res.meth "extend" (.loc k) s a = (a s).bind fun ds s2 => .ofO (mExtend (.loc k) ds s2) := by
  unfold Res.meth tyD; simp only [h]; rfl
theorem meth_insert (h : s[k]? = some (.lst xs)) : Res.meth "insert" (.loc k) s a = (a s).bind fun ds s2 => .ofO (mInsert (.loc k) ds s2) := by
  unfold Res.meth tyD; simp only [h]; rfl
theorem meth_pop (h : s[k]? = some (.lst xs)) : Res.meth "pop" (.loc k) s a = (a s).bind fun ds s2 => .ofO (mPop (.loc k) ds s2) := by
  unfold Res.meth tyD; simp only [h]; rfl
theorem meth_get (h : s[k]? = some (.dic kvs)) : Res.meth "get" (.loc k) s a = (a s).bind fun ds s2 => .ofO (mGet (.loc k) ds s2) := by
  unfold Res.meth tyD; simp only [h]; rfl
theorem meth_find {a : Str} {f : Sto → Res (List D)} : Res.meth "find" (.str a) s f = (f s).bind fun ds s2 => .ofO (mFind (.str a) ds s2) := rfl
theorem meth_zfill {a : Str} {f : Sto → Res (List D)} : Res.meth "zfill" (.str a) s f = (f s).bind fun ds s2 => .ofO (mZfill (.str a) ds s2) := rfl
theorem meth_join {a : Str} {f : Sto → Res (List D)} : Res.meth "join" (.str a) s f = (f s).bind fun ds s2 => .ofO (mJoin (.str a) ds s2) := rfl
theorem mAppend_ap (h : s[k]? = some (.lst xs)) : mAppend (.loc k) [d] s = if xs.length < sizeLine then some (.non, s.set k (.lst (xs ++ [d]))) else none := by
  unfold mAppend; simp only [h]
theorem mExtend_ap {j : Nat} {ys : List D} (h : s[k]? = some (.lst xs)) (h2 : s[j]? = some (.lst ys)) : mExtend (.loc k) [.loc j] s = if xs.length + ys.length ≤ sizeLine then some (.non, s.set k (.lst (xs ++ ys))) else none := by
  unfold mExtend; simp only [h, h2]
theorem mInsert_ap {i : Int} (h : s[k]? = some (.lst xs)) : mInsert (.loc k) [.int i, d] s = if xs.length < sizeLine ∧ 0 ≤ i ∧ fitI i = true then some (.non, s.set k (.lst (xs.take i.toNat ++ [d] ++ xs.drop i.toNat))) else none := by
  unfold mInsert; simp only [h]
theorem mGet2_str {x : Str} (h : s[k]? = some (.dic kvs)) : mGet (.loc k) [.str x, d] s = some ((getA kvs (.inr x)).getD d, s) := by
  unfold mGet; simp only [h]; rfl
end
end
/-! ### the store -/
section
variable {α : Type} {s t : List α} {n : Nat} {o : α}
@[simp] theorem get_len : (s ++ t)[s.length]? = t[0]? := by rw [List.getElem?_append_right (Nat.le_refl _), Nat.sub_self]
@[simp] theorem get_len_add : (s ++ t)[s.length + n]? = t[n]? := by rw [List.getElem?_append_right (Nat.le_add_right _ _), Nat.add_sub_cancel_left]
@[simp] theorem set_len : (s ++ t).set s.length o = s ++ t.set 0 o := by rw [List.set_append_right _ _ (Nat.le_refl _), Nat.sub_self]
@[simp] theorem set_len_add : (s ++ t).set (s.length + n) o = s ++ t.set n o := by rw [List.set_append_right _ _ (Nat.le_add_right _ _), Nat.add_sub_cancel_left]
theorem get_lt (h : n < s.length) : (s ++ t)[n]? = s[n]? := List.getElem?_append_left h
theorem set_lt (h : n < s.length) : (s ++ t).set n o = s.set n o ++ t := List.set_append_left _ _ h
end
end Y

set_option Elab.async false
set_option linter.all false
set_option maxRecDepth 100000
set_option maxHeartbeats 4000000
/-! Y18: the helpers that all laws share: the draws. -/
namespace Y
open PySem L2

def mDraw : SM :=
  (sCons (sAsg (gSb (eVar 0) (eC (.int 3))) (eBin (pBin .Add) (eBin pIx (eVar 0) (eC (.int 3))) (eC (.int 1))))
  (sCons (sIf (tOfB (eBin (pCmp .Gt) (eBin pIx (eVar 0) (eC (.int 2))) (eC (.int 0)))) (sCons (sSet 2 (eBin (pBin .Mod) (eA pIntC (aCons (eBin pIx (eVar 0) (eC (.int 2))) aNil)) (eVar 1)))
  (sCons (sAsg (gSb (eVar 0) (eC (.int 2))) (eBin (pBin .FloorDiv) (eBin pIx (eVar 0) (eC (.int 2))) (eVar 1)))
  (sCons (sRet (eVar 2))
  sNil))) sNil)
  (sCons (sSet 3 (eC (.int 0)))
  (sCons (sIf (tOfB (eBin (pCmp .Gt) (eA pLen (aCons (eBin pIx (eVar 0) (eC (.int 0))) aNil)) (eC (.int 0)))) (sCons (sSet 3 (eA pAbs (aCons (eBin pIx (eBin pIx (eVar 0) (eC (.int 0))) (eBin (pBin .Mod) (eA pIntC (aCons (eBin pIx (eVar 0) (eC (.int 1))) aNil)) (eA pLen (aCons (eBin pIx (eVar 0) (eC (.int 0))) aNil)))) aNil)))
  sNil) sNil)
  (sCons (sAsg (gSb (eVar 0) (eC (.int 1))) (eBin (pBin .Add) (eBin pIx (eVar 0) (eC (.int 1))) (eC (.int 1))))
  (sCons (sIf (tOfB (eBin (pCmp .GtE) (eVar 3) (eBin (pBin .Pow) (eC (.int 10)) (eC (.int 18))))) (sCons (sAsg (gSb (eVar 0) (eC (.int 2))) (eBin (pBin .FloorDiv) (eVar 3) (eVar 1)))
  (sCons (sRet (eBin (pBin .Mod) (eA pIntC (aCons (eVar 3) aNil)) (eVar 1)))
  sNil)) sNil)
  (sCons (sSet 4 (eBin (pBin .Mod) (eA pIntC (aCons (eBin (pBin .Add) (eBin (pBin .Mult) (eBin (pBin .Add) (eVar 3) (eC (.int 1))) (eC (.int 48271))) (eBin (pBin .Mult) (eBin pIx (eVar 0) (eC (.int 3))) (eC (.int 69621)))) aNil)) (eC (.int 2147483647))))
  (sCons (sSet 4 (eBin (pBin .Mod) (eA pIntC (aCons (eBin (pBin .Add) (eBin (pBin .Add) (eBin (pBin .Mult) (eVar 4) (eC (.int 16807))) (eBin (pBin .FloorDiv) (eVar 3) (eC (.int 97)))) (eBin pIx (eVar 0) (eC (.int 3)))) aNil)) (eC (.int 2147483629))))
  (sCons (sRet (eBin (pBin .Mod) (eBin (pBin .FloorDiv) (eVar 4) (eC (.int 11))) (eVar 1)))
  sNil)))))))))
def SV (ns : List Int) (i j : Nat) (C : Nat) (s : Sto) : Prop := ∃ p q c : Int, 0 ≤ p ∧ 0 ≤ q ∧ 0 ≤ c ∧ c ≤ C ∧ s[i]? = some (.lst [.loc j, .int p, .int q, .int c]) ∧ s[j]? = some (.lst (ns.map .int))
/-- nothing but i of what stood has changed -/
def Up (i : Nat) (s s' : Sto) : Prop := s.length ≤ s'.length ∧ ∀ k, k < s.length → k ≠ i → s'[k]? = s[k]?
theorem small_log {n m : Nat} (h : n < 2 ^ m) : n.log2 ≤ m := by
  by_cases h0 : n = 0
  · subst h0; simp
  · exact Nat.le_of_lt ((Nat.log2_lt h0).mpr h)
theorem draw_run {ns : List Int} {i j C : Nat} {s : Sto} {m : Int} (h : SV ns i j C s) (hm : 0 < m) (hl : m.natAbs.log2 < 9000) (hC : C < 2 ^ 60) :
    (mDraw [some (.loc i), some (.int m), none, none, none] s).to { rt := fun d s' => ∃ r p q c, d = .int r ∧ 0 ≤ r ∧ r < m ∧ 0 ≤ p ∧ 0 ≤ q ∧ 0 ≤ c ∧ c ≤ (C : Int) + 1 ∧ s' = s.set i (.lst [.loc j, .int p, .int q, .int c]) } := by
  obtain ⟨p, q, c, hp, hq, hc, hcC, h1, h2⟩ := h
  have hi : i < s.length := (List.getElem?_eq_some_iff.mp h1).1
  have hij : j ≠ i := fun e => by
    subst e
    rw [h1] at h2
    simp at h2
    cases ns with
    | nil => simp at h2
    | cons a b => simp at h2
  unfold mDraw
  have e0 : ixN 4 0 = some 0 := rfl
  have e1 : ixN 4 1 = some 1 := rfl
  have e2 : ixN 4 2 = some 2 := rfl
  have e3 : ixN 4 3 = some 3 := rfl
  have g : ∀ o, (s.set i o)[i]? = some o := fun o => by rw [List.getElem?_set_self hi]
  have gj : ∀ o, (s.set i o)[j]? = some (.lst (ns.map .int)) := fun o => by rw [List.getElem?_set_ne (Ne.symm hij)]; exact h2
  simp [h1, h2, e0, e1, e2, e3, g, gj]
  refine ⟨fun h => ⟨hm, ⟨hm, hl⟩, Int.emod_nonneg _ (by omega), Int.emod_lt_of_pos _ hm, p, hp, q / m, Int.ediv_nonneg hq (by omega), c + 1, by omega, by omega, rfl⟩, fun hq0 => ⟨fun hn => ⟨hn, ?_⟩, fun hn => ?_⟩⟩
  · have hz : 0 ≤ p % (ns.length : Int) := Int.emod_nonneg _ (by omega)
    have hz2 : p % (ns.length : Int) < ns.length := Int.emod_lt_of_pos _ (by omega)
    have hlt : (p % (ns.length : Int)).toNat < ns.length := by omega
    refine ⟨.int ns[(p % (ns.length : Int)).toNat], ?_, ?_⟩
    · rw [atI_mod hz, List.getElem?_map, List.getElem?_eq_getElem hlt]; rfl
    · generalize ns[(p % (ns.length : Int)).toNat] = z
      have hcell : 0 ≤ (if z < 0 then -z else z) := by split <;> omega
      simp [g, gj, e0, e1, e2, e3]
      generalize (if z < 0 then -z else z) = cell at hcell ⊢
      refine ⟨fun h => ⟨⟨hm, hl⟩, hm, Int.emod_nonneg _ (by omega), Int.emod_lt_of_pos _ hm, p + 1, by omega, cell / m, Int.ediv_nonneg hcell (by omega), c + 1, by omega, by omega, rfl⟩, fun h => ?_⟩
      have hm1 := Int.emod_lt_of_pos ((cell + 1) * 48271 + (c + 1) * 69621) (show (0 : Int) < 2147483647 by decide)
      have hm0 := Int.emod_nonneg ((cell + 1) * 48271 + (c + 1) * 69621) (show (2147483647 : Int) ≠ 0 by decide)
      generalize ((cell + 1) * 48271 + (c + 1) * 69621) % 2147483647 = y at hm1 hm0 ⊢
      have l1 : (cell + 1).natAbs.log2 ≤ 60 := small_log (by omega)
      have l2 : (c + 1).natAbs.log2 ≤ 61 := small_log (by omega)
      have l3 : y.natAbs.log2 ≤ 60 := small_log (by omega)
      have k1 : Nat.log2 48271 ≤ 20 := by decide +kernel
      have k2 : Nat.log2 69621 ≤ 20 := by decide +kernel
      have k3 : Nat.log2 16807 ≤ 20 := by decide +kernel
      have k4 : Nat.log2 97 ≤ 20 := by decide +kernel
      have k5 : Nat.log2 11 ≤ 20 := by decide +kernel
      refine ⟨by omega, by omega, by omega, by omega, by omega, hm, Int.emod_nonneg _ (by omega), Int.emod_lt_of_pos _ hm, p + 1, by omega, q, by omega, c + 1, by omega, by omega, rfl⟩
  · have hm1 := Int.emod_lt_of_pos (48271 + (c + 1) * 69621) (show (0 : Int) < 2147483647 by decide)
    have hm0 := Int.emod_nonneg (48271 + (c + 1) * 69621) (show (2147483647 : Int) ≠ 0 by decide)
    generalize (48271 + (c + 1) * 69621) % 2147483647 = y at hm1 hm0 ⊢
    have l2 : (c + 1).natAbs.log2 ≤ 61 := small_log (by omega)
    have l3 : y.natAbs.log2 ≤ 60 := small_log (by omega)
    have k0 : Nat.log2 1 ≤ 20 := by decide +kernel
    have k1 : Nat.log2 48271 ≤ 20 := by decide +kernel
    have k2 : Nat.log2 69621 ≤ 20 := by decide +kernel
    have k3 : Nat.log2 16807 ≤ 20 := by decide +kernel
    have k4 : Nat.log2 97 ≤ 20 := by decide +kernel
    have k5 : Nat.log2 11 ≤ 20 := by decide +kernel
    exact ⟨by omega, by omega, by omega, by omega, by omega, hm, Int.emod_nonneg _ (by omega), Int.emod_lt_of_pos _ hm, p + 1, by omega, q, by omega, c + 1, by omega, by omega, rfl⟩

/-! ### a call by its mirror -/
theorem callM {T : Pg} {k : Nat} {x : Str} {d : Df} {args : List D} {s : Sto} {m : SM} (h : T.defs x = some d) (hb : dB (T.ctx k) d.sx fuelD (defBody d.st) = m) : callP T (k + 1) x args s = gc s (resS (m (startE d.N args) s)) := by
  rw [callP_succ h]; unfold runB; rw [hb]
section
variable {s s' : Sto} {d : D} {Q : D → Sto → Prop} {X : Str → Sto → Prop}
theorem gc_both (h1 : Q d s') (h2 : D.cl s.length d = true → Q d (s'.take s.length)) : (gc s (.ok d s')).to Q X := by
  unfold gc
  simp only
  split
  · rename_i h
    rw [Bool.and_eq_true] at h
    exact h2 h.1
  · exact h1
theorem gc_to {r : SR} (h : r.to { nx := fun _ s' => (gc s (.ok .non s')).to Q X, rt := fun d s' => (gc s (.ok d s')).to Q X, exc := fun x _ s' => X x s' }) : (gc s (resS r)).to Q X := by
  cases r <;> first | exact h | exact h.elim
theorem gc_pure {r : SR} {d : D} (hd : D.cl s.length d = true) (h : r.to { rt := fun d' s' => d' = d ∧ ∃ t, s' = s ++ t }) : gc s (resS r) = .ok d s := by
  cases r with
  | rt d' s' =>
    obtain ⟨rfl, t, rfl⟩ := h
    exact gc_same hd
  | _ => exact h.elim
theorem eq_of_to {r : Res D} (h : r.to (fun d' s' => d' = d ∧ s' = s) NoX) : r = .ok d s := by
  cases r with
  | ok a b => obtain ⟨rfl, rfl⟩ := h; rfl
  | _ => exact h.elim
end
theorem Up.refl {i : Nat} {s : Sto} : Up i s s := ⟨Nat.le_refl _, fun _ _ _ => rfl⟩
theorem Up.trans {i : Nat} {s s' s'' : Sto} (h : Up i s s') (h' : Up i s' s'') : Up i s s'' := ⟨Nat.le_trans h.1 h'.1, fun k hk hi => (h'.2 k (Nat.lt_of_lt_of_le hk h.1) hi).trans (h.2 k hk hi)⟩
theorem Up.app {i : Nat} {s t : Sto} : Up i s (s ++ t) := ⟨by simp, fun k hk _ => get_lt hk⟩
theorem Up.set {i : Nat} {s : Sto} {o : O} : Up i s (s.set i o) := ⟨by simp, fun k _ hi => List.getElem?_set_ne (Ne.symm hi)⟩
theorem Up.setGe {i l : Nat} {s s' : Sto} {o : O} (h : Up i s s') (hl : s.length ≤ l) : Up i s (s'.set l o) := ⟨by simpa using h.1, fun k hk hi => by rw [List.getElem?_set_ne (by omega)]; exact h.2 k hk hi⟩
theorem Up.take {i : Nat} {s s' : Sto} (h : Up i s s') : Up i s (s'.take s.length) := ⟨by rw [List.length_take]; have := h.1; omega, fun k hk hi => by rw [List.getElem?_take_of_lt hk]; exact h.2 k hk hi⟩
theorem Up.get {i k : Nat} {s s' : Sto} {o : O} (h : Up i s s') (e : s[k]? = some o) (hi : k ≠ i) : s'[k]? = some o := (h.2 k (List.getElem?_eq_some_iff.mp e).1 hi).trans e
section
variable {ns : List Int} {i j C : Nat} {s s' : Sto}
theorem SV.lt (h : SV ns i j C s) : i < s.length ∧ j < s.length := by
  obtain ⟨p, q, c, _, _, _, _, h1, h2⟩ := h
  exact ⟨(List.getElem?_eq_some_iff.mp h1).1, (List.getElem?_eq_some_iff.mp h2).1⟩
theorem SV.ne (h : SV ns i j C s) : j ≠ i := by
  obtain ⟨p, q, c, _, _, _, _, h1, h2⟩ := h
  intro e
  subst e
  rw [h1] at h2
  cases ns <;> simp at h2
theorem SV.mono {C' : Nat} (h : SV ns i j C s) (hc : C ≤ C') : SV ns i j C' s := by
  obtain ⟨p, q, c, h1, h2, h3, h4, h5, h6⟩ := h
  exact ⟨p, q, c, h1, h2, h3, by omega, h5, h6⟩
theorem SV.app {t : Sto} (h : SV ns i j C s) : SV ns i j C (s ++ t) := by
  have hl := h.lt
  obtain ⟨p, q, c, h1, h2, h3, h4, h5, h6⟩ := h
  exact ⟨p, q, c, h1, h2, h3, h4, by rw [get_lt hl.1]; exact h5, by rw [get_lt hl.2]; exact h6⟩
theorem SV.set {l : Nat} {o : O} (h : SV ns i j C s) (hi : l ≠ i) (hj : l ≠ j) : SV ns i j C (s.set l o) := by
  obtain ⟨p, q, c, h1, h2, h3, h4, h5, h6⟩ := h
  exact ⟨p, q, c, h1, h2, h3, h4, by rw [List.getElem?_set_ne hi]; exact h5, by rw [List.getElem?_set_ne hj]; exact h6⟩
theorem SV.take {n : Nat} (h : SV ns i j C s) (hi : i < n) (hj : j < n) : SV ns i j C (s.take n) := by
  obtain ⟨p, q, c, h1, h2, h3, h4, h5, h6⟩ := h
  exact ⟨p, q, c, h1, h2, h3, h4, by rw [List.getElem?_take_of_lt hi]; exact h5, by rw [List.getElem?_take_of_lt hj]; exact h6⟩
end
/-! ### the helpers -/
def mStart : SM :=
  (sCons (sRet (eA mkLst (aCons (eAlloc (fList (lOfE (eVar 0)))) (aCons (eC (.int 0)) (aCons (eC (.int 0)) (aCons (eC (.int 0)) aNil))))))
  sNil)
def mOneOf (T : Pg) (k : Nat) : SM :=
  (sCons (sRet (eBin pIx (eVar 1) (eCall 2 (callP T k "_law_draw") (aCons (eVar 0) (aCons (eA pLen (aCons (eVar 1) aNil)) aNil)))))
  sNil)
def mShuf (T : Pg) (k : Nat) : SM :=
  (sCons (sSet 2 (eA mkLst aNil))
  (sCons (sFor (iVal (eVar 1)) (gNm 3) (sCons (sExpr (eMeth "insert" (eVar 2) (aCons (eCall 2 (callP T k "_law_draw") (aCons (eVar 0) (aCons (eBin (pBin .Add) (eA pLen (aCons (eVar 2) aNil)) (eC (.int 1))) aNil))) (aCons (eVar 3) aNil))))
  sNil))
  (sCons (sRet (eVar 2))
  sNil)))
def mIsInt : SM :=
  (sCons (sRet (eAn (eA pIsi (aCons (eVar 0) (aCons (eC (.ty "int")) aNil))) (eNt (eA pIsi (aCons (eVar 0) (aCons (eC (.ty "bool")) aNil))))))
  sNil)
def mSame (T : Pg) (k : Nat) : SM :=
  (sCons (sIf (tOfT (eA pIsi (aCons (eVar 1) (aCons (eC (.ty "tuple")) aNil)))) (sCons (sIf (tOr' (tNt (tOfT (eA pIsi (aCons (eVar 0) (aCons (eC (.ty "tuple")) aNil))))) (tOfB (eBin (pCmp .NotEq) (eA pLen (aCons (eVar 0) aNil)) (eA pLen (aCons (eVar 1) aNil))))) (sCons (sRet (eC (.bl false)))
  sNil) sNil)
  (sCons (sRet (eL lAll (fLc (iRng1' (aCons (eA pLen (aCons (eVar 1) aNil)) aNil)) (gNm 2) tYesM (eCall 2 (callP T k "_law_same") (aCons (eBin pIx (eVar 0) (eVar 2)) (aCons (eBin pIx (eVar 1) (eVar 2)) aNil))) [2])))
  sNil)) sNil)
  (sCons (sIf (tOfT (eA pIsi (aCons (eVar 1) (aCons (eC (.ty "str")) aNil)))) (sCons (sRet (eAn (eA pIsi (aCons (eVar 0) (aCons (eC (.ty "str")) aNil))) (eBin (pCmp .Eq) (eVar 0) (eVar 1))))
  sNil) sNil)
  (sCons (sRet (eAn (eCall 1 (callP T k "_law_is_int") (aCons (eVar 0) aNil)) (eBin (pCmp .Eq) (eVar 0) (eVar 1))))
  sNil)))
structure Hlp (T : Pg) : Prop where
  start : ∀ k a s, callP T (k + 1) "_law_start" [a] s = gc s (resS (mStart [some a] s))
  draw : ∀ k a b s, callP T (k + 1) "_law_draw" [a, b] s = gc s (resS (mDraw [some a, some b, none, none, none] s))
  isInt : ∀ k a s, callP T (k + 1) "_law_is_int" [a] s = gc s (resS (mIsInt [some a] s))
  same : ∀ k a b s, callP T (k + 1) "_law_same" [a, b] s = gc s (resS (mSame T k [some a, some b, none] s))
def OneOf (T : Pg) : Prop := ∀ k a b s, callP T (k + 1) "_law_one_of" [a, b] s = gc s (resS (mOneOf T k [some a, some b] s))
def Shuf (T : Pg) : Prop := ∀ k a b s, callP T (k + 1) "_law_shuffled" [a, b] s = gc s (resS (mShuf T k [some a, some b, none, none] s))
section
variable {T : Pg} (G : Hlp T) {ns : List Int} {i j C : Nat} {s : Sto} {k : Nat}
include G
theorem Hlp.start_ok (ds : List D) (hl : ds.length ≤ sizeLine) : callP T (k + 1) "_law_start" [.ro ds] [] = .ok (.loc 1) [.lst ds, .lst [.loc 0, .int 0, .int 0, .int 0]] := by
  rw [G.start]
  apply eq_of_to
  apply gc_to
  unfold mStart
  simp [gc, D.cl]
  decide
theorem Hlp.draw_ok {m : Int} (h : SV ns i j C s) (hm : 0 < m) (hl : m.natAbs.log2 < 9000) (hC : C < 2 ^ 60) :
    (callP T (k + 1) "_law_draw" [.loc i, .int m] s).to (fun d s' => ∃ r, d = .int r ∧ 0 ≤ r ∧ r < m ∧ SV ns i j (C + 1) s' ∧ Up i s s' ∧ s'.length = s.length) NoX := by
  rw [G.draw]
  apply gc_to
  have hlt := h.lt
  have hne := h.ne
  refine SR.to_mono (draw_run h hm hl hC) (fun _ _ z => z.elim) (fun d s' z => ?_) (fun _ _ z => z.elim) (fun _ _ z => z.elim) (fun _ _ _ z => z.elim)
  obtain ⟨r, p, q, c, rfl, h1, h2, h3, h4, h5, h6, rfl⟩ := z
  obtain ⟨_, _, _, _, _, _, _, _, e2⟩ := h
  have := gc_set (s := s) (t := []) (d := .int r) (k := i) (o := .lst [.loc j, .int p, .int q, .int c]) rfl (by simp [O.cl, D.clL, D.cl, hlt.2])
  rw [List.append_nil] at this
  show (gc s (.ok (.int r) (s.set i (.lst [.loc j, .int p, .int q, .int c])))).to _ _
  rw [this]
  refine ⟨r, rfl, h1, h2, ⟨p, q, c, h3, h4, h5, by omega, List.getElem?_set_self hlt.1, ?_⟩, Up.set, by simp⟩
  rw [List.getElem?_set_ne (Ne.symm hne)]; exact e2
/-- a draw ahead of what follows -/
theorem Hlp.draw_then {m : Int} {Q : D → Sto → Prop} {X : Str → Sto → Prop} (h : SV ns i j C s) (hm : 0 < m) (hl : m.natAbs.log2 < 9000) (hC : C < 2 ^ 60)
    (q : ∀ r s', 0 ≤ r → r < m → SV ns i j (C + 1) s' → Up i s s' → s'.length = s.length → Q (.int r) s') : (callP T (k + 1) "_law_draw" [.loc i, .int m] s).to Q X :=
  Res.to_imp (G.draw_ok h hm hl hC) fun d s' ⟨r, e, h1, h2, h3, h4, h5⟩ => e ▸ q r s' h1 h2 h3 h4 h5
theorem Hlp.one_of (O : OneOf T) {l : Nat} {xs : List D} {Q : D → Sto → Prop} {X : Str → Sto → Prop} (h : SV ns i j C s) (hl : s[l]? = some (.lst xs)) (hli : l ≠ i) (h0 : 0 < xs.length) (hz : xs.length < 2 ^ 60) (hC : C < 2 ^ 60)
    (q : ∀ (n : Nat) (d : D) (s' : Sto), xs[n]? = some d → SV ns i j (C + 1) s' → Up i s s' → s'.length = s.length → Q d s') : (callP T (k + 2) "_law_one_of" [.loc i, .loc l] s).to Q X := by
  rw [O]
  apply gc_to
  unfold mOneOf
  simp [hl]
  refine G.draw_then h (by omega) (Nat.lt_of_le_of_lt (small_log (m := 60) (by omega)) (by decide)) hC fun r s' h1 h2 h3 h4 h5 => ?_
  have hl' := h4.get hl hli
  simp [hl', atI_mod h1]
  have hr : r.toNat < xs.length := by omega
  refine ⟨xs[r.toNat], List.getElem?_eq_getElem hr, ?_⟩
  refine gc_both (q r.toNat _ _ (List.getElem?_eq_getElem hr) h3 h4 h5) fun _ => ?_
  rw [← h5, List.take_length]
  exact q r.toNat _ _ (List.getElem?_eq_getElem hr) h3 h4 h5
theorem Hlp.isInt_ok {z : Int} : callP T (k + 1) "_law_is_int" [.int z] s = .ok (.bl true) s := by
  rw [G.isInt]
  refine gc_pure rfl ?_
  unfold mIsInt
  have e1 : pIsi [.int z, .ty "int"] s = some (.bl true, s) := isi_of rfl (by decide +kernel)
  have e2 : pIsi [.int z, .ty "bool"] s = some (.bl false, s) := isi_of rfl (by decide +kernel)
  simp [e1, e2]
end
def datB : Nat → D → Bool
  | _, .int _ => true
  | _, .str _ => true
  | n + 1, .tup xs => decide (xs.length ≤ sizeLine) && xs.all (datB n)
  | _, _ => false
theorem atI_get {α : Type} {xs : List α} {j : Nat} {i : Int} (h : i = j) : atI xs i = xs[j]? := by subst h; exact atI_nat
theorem blsD_true {α : Type} : ∀ l : List α, blsD (l.map fun _ => .bl true) = some (l.map fun _ => true)
  | [] => rfl
  | a :: l => by rw [List.map_cons, blsD, blsD_true l]; rfl
theorem szEq : sizeLine = 16777216 := by decide +kernel
section
variable {T : Pg} (G : Hlp T)
include G
theorem Hlp.same_ok : ∀ (n k : Nat) (d : D) (s : Sto), datB n d = true → callP T (n + k + 2) "_law_same" [d, d] s = .ok (.bl true) s := by
  intro n
  induction n with
  | zero =>
    intro k d s h
    rw [show 0 + k + 2 = (k + 1) + 1 by omega, G.same]
    refine gc_pure rfl ?_
    unfold mSame
    cases d with
    | int z =>
      have e1 : pIsi [.int z, .ty "tuple"] s = some (.bl false, s) := isi_of rfl (by decide +kernel)
      have e2 : pIsi [.int z, .ty "str"] s = some (.bl false, s) := isi_of rfl (by decide +kernel)
      simp [e1, e2, G.isInt_ok]
    | str z =>
      have e1 : pIsi [.str z, .ty "tuple"] s = some (.bl false, s) := isi_of rfl (by decide +kernel)
      have e2 : pIsi [.str z, .ty "str"] s = some (.bl true, s) := isi_of rfl (by decide +kernel)
      simp [e1, e2]
    | _ => simp [datB] at h
  | succ n ih =>
    intro k d s h
    rw [show n + 1 + k + 2 = (n + k + 2) + 1 by omega, G.same]
    refine gc_pure rfl ?_
    unfold mSame
    cases d with
    | int z =>
      have e1 : pIsi [.int z, .ty "tuple"] s = some (.bl false, s) := isi_of rfl (by decide +kernel)
      have e2 : pIsi [.int z, .ty "str"] s = some (.bl false, s) := isi_of rfl (by decide +kernel)
      simp [e1, e2, G.isInt_ok]
    | str z =>
      have e1 : pIsi [.str z, .ty "tuple"] s = some (.bl false, s) := isi_of rfl (by decide +kernel)
      have e2 : pIsi [.str z, .ty "str"] s = some (.bl true, s) := isi_of rfl (by decide +kernel)
      simp [e1, e2]
    | tup xs =>
      have e1 : pIsi [.tup xs, .ty "tuple"] s = some (.bl true, s) := isi_of rfl (by decide +kernel)
      simp only [datB, Bool.and_eq_true, decide_eq_true_eq, List.all_eq_true] at h
      obtain ⟨hz, ha⟩ := h
      have hz' : xs.length ≤ 16777216 := by rw [szEq] at hz; exact hz
      simp [e1]
      refine ⟨fitI_iff.mpr (by omega), ?_⟩
      rw [compFix_map (f := fun _ => some (.bl true)) (by simpa [rngD] using hz)]
      · simp [rngD, lAll, Function.comp_def, blsD_true, Res.ofL]
      · intro d hd
        simp [rngD] at hd
        obtain ⟨a, ha1, rfl⟩ := hd
        unfold turnC
        have hm := List.getElem_mem ha1
        simp [noX, atI_nat, ha1, Res.ofO, ih k _ s (ha _ hm)]
    | _ => simp [datB] at h
end
end Y

set_option Elab.async false
set_option linter.all false
set_option maxRecDepth 100000
set_option maxHeartbeats 4000000
/-! Y19: shuffled. -/
namespace Y
open PySem L2
section
variable {T : Pg} (G : Hlp T) {ns : List Int} {i j C : Nat} {s : Sto} {k : Nat}
include G
theorem Hlp.shuf (O : Shuf T) {l : Nat} {xs : List D} {Q : D → Sto → Prop} {X : Str → Sto → Prop} (h : SV ns i j C s) (hl : s[l]? = some (.lst xs)) (hli : l ≠ i) (hz : xs.length < 1000) (hC : C < 2 ^ 50)
    (q : ∀ (m : Nat) (ys : List D) (s' : Sto), s'[m]? = some (.lst ys) → ys.Perm xs → s.length ≤ m → SV ns i j (C + xs.length) s' → Up i s s' → Q (.loc m) s') : (callP T (k + 2) "_law_shuffled" [.loc i, .loc l] s).to Q X := by
  rw [O]
  apply gc_to
  unfold mShuf
  have hlt := h.lt
  have hll := (List.getElem?_eq_some_iff.mp hl).1
  simp [get_lt hll, hl]
  refine forLst (xs := xs) (fun n E s1 => ∃ o ys, E = [some (.loc i), some (.loc l), some (.loc s.length), o] ∧ s1[s.length]? = some (.lst ys) ∧ ys.Perm (xs.take n) ∧ SV ns i j (C + n) s1 ∧ Up i s s1 ∧ s1.length = s.length + 1) (by unfold fuelMax; omega) ?_ ?_ ?_ ?_
  · rintro n E s1 ⟨o, ys, rfl, h1, h2, h3, h4, h5⟩
    exact h4.get hl hli
  · exact ⟨_, [], rfl, by simp, by simp, h.app, Up.app, by simp⟩
  · rintro n d E s1 hd ⟨o, ys, rfl, h1, h2, h3, h4, h5⟩
    have hn : n < xs.length := (List.getElem?_eq_some_iff.mp hd).1
    have hyl : ys.length = n := by rw [h2.length_eq, List.length_take]; omega
    simp [meth_insert h1, h1]
    refine G.draw_then h3 (by omega) (Nat.lt_of_le_of_lt (small_log (m := 60) (by omega)) (by decide)) (by omega) fun r s2 r1 r2 r3 r4 r5 => ?_
    have hne : s.length ≠ i := by omega
    have g := r4.get h1 hne
    have hr : r ≤ ys.length := by omega
    simp [mInsert_ap g]
    have hz2 : ys.length < sizeLine := by rw [szEq]; omega
    refine ⟨⟨hz2, r1, fitI_iff.mpr (by omega)⟩, ?_⟩
    have hs2 : s.length < s2.length := by omega
    refine ⟨_, List.getElem?_set_self hs2, ?_, ?_, ?_, by simp [r5, h5]⟩
    · have p1 : (ys.take r.toNat ++ d :: ys.drop r.toNat).Perm (d :: ys) := by
        have := List.perm_middle (a := d) (l₁ := ys.take r.toNat) (l₂ := ys.drop r.toNat)
        rw [List.take_append_drop] at this
        exact this
      rw [List.take_add_one, hd]
      refine p1.trans ?_
      exact ((h2.cons d).trans (List.perm_append_singleton d _).symm)
    · exact (r3.set (by omega) (by omega))
    · exact (h4.trans r4).setGe (Nat.le_refl _)
  · rintro E s1 ⟨o, ys, rfl, h1, h2, h3, h4, h5⟩
    simp
    rw [List.take_length] at h2
    exact gc_both (q _ ys _ h1 h2 (Nat.le_refl _) h3 h4) fun hc => by simp [D.cl] at hc
end
end Y

set_option Elab.async false
set_option linter.all false
set_option maxRecDepth 100000
set_option maxHeartbeats 4000000
/-! Y20: dicts as lists, sorted texts, loops over sequences. -/
namespace Y
open PySem L2
section
variable {κ α : Type} [DecidableEq κ]
@[simp] theorem getA_nil {k : κ} : getA ([] : List (κ × α)) k = none := rfl
theorem getA_cons {k k' : κ} {v : α} {r : List (κ × α)} : getA ((k', v) :: r) k = if k' = k then some v else getA r k := by
  unfold getA
  rw [List.find?_cons]
  by_cases h : k' = k
  · simp [h]
  · simp [h]
theorem getA_append {a b : List (κ × α)} {k : κ} : getA (a ++ b) k = (getA a k).or (getA b k) := by
  induction a with
  | nil => simp
  | cons p r ih =>
    obtain ⟨k', v⟩ := p
    rw [List.cons_append, getA_cons, getA_cons, ih]
    by_cases h : k' = k <;> simp [h]
theorem getA_none {a : List (κ × α)} {k : κ} : getA a k = none ↔ k ∉ a.map (·.1) := by
  induction a with
  | nil => simp
  | cons p r ih =>
    obtain ⟨k', v⟩ := p
    rw [getA_cons]
    by_cases h : k' = k
    · simp [h]
    · simp only [h, if_false, ih, List.map_cons, List.mem_cons, not_or]
      exact ⟨fun z => ⟨fun e => h e.symm, z⟩, fun z => z.2⟩
theorem any_key {a : List (κ × α)} {k : κ} : (a.any fun kv => decide (kv.1 = k)) = true ↔ k ∈ a.map (·.1) := by
  simp only [List.any_eq_true, decide_eq_true_eq, List.mem_map]
theorem getA_map {a : List (κ × α)} {k k' : κ} {v : α} : getA (a.map fun kv => if kv.1 = k then (kv.1, v) else kv) k' = if k = k' ∧ k ∈ a.map (·.1) then some v else getA a k' := by
  induction a with
  | nil => simp
  | cons p r ih =>
    obtain ⟨j, u⟩ := p
    simp only [List.map_cons]
    by_cases h : j = k
    · subst h
      simp only [if_true]
      rw [getA_cons, getA_cons, ih]
      by_cases h2 : j = k'
      · simp [h2]
      · simp [h2]
    · simp only [h, if_false]
      rw [getA_cons, getA_cons, ih]
      by_cases h2 : j = k'
      · subst h2
        simp [Ne.symm h]
      · by_cases h3 : k = k'
        · subst h3
          rw [if_neg h, if_neg h]
          by_cases hk : k ∈ r.map (·.1)
          · rw [if_pos ⟨rfl, hk⟩, if_pos ⟨rfl, List.mem_cons_of_mem _ hk⟩]
          · rw [if_neg (fun z => hk z.2), if_neg (fun z => (List.mem_cons.mp z.2).elim (fun e => h e.symm) hk)]
        · simp [h2, h3]
theorem getA_putA {a : List (κ × α)} {k k' : κ} {v : α} : getA (putA a k v) k' = if k = k' then some v else getA a k' := by
  unfold putA
  by_cases h : k ∈ a.map (·.1)
  · rw [if_pos (any_key.mpr h), getA_map]
    by_cases h2 : k = k' <;> simp [h2] 
    · intro h3; subst h2; simp at h; exact absurd h (by simpa using h3)
  · rw [if_neg (fun z => h (any_key.mp z)), getA_append, getA_cons]
    by_cases h2 : k = k'
    · subst h2
      rw [getA_none.mpr h]; simp
    · simp [h2]
theorem keys_putA {a : List (κ × α)} {k : κ} {v : α} : (putA a k v).map (·.1) = if k ∈ a.map (·.1) then a.map (·.1) else a.map (·.1) ++ [k] := by
  unfold putA
  by_cases h : k ∈ a.map (·.1)
  · rw [if_pos (any_key.mpr h), if_pos h, List.map_map]
    apply List.map_congr_left
    intro p _
    simp only [Function.comp]
    split <;> rfl
  · rw [if_neg (fun z => h (any_key.mp z)), if_neg h]; simp
theorem nodup_putA {a : List (κ × α)} {k : κ} {v : α} (h : (a.map (·.1)).Nodup) : ((putA a k v).map (·.1)).Nodup := by
  rw [keys_putA]
  split
  · exact h
  · rename_i hk
    rw [List.nodup_append]
    exact ⟨h, by simp, fun x hx y hy => by simp at hy; subst hy; exact fun e => hk (e ▸ hx)⟩
theorem mem_getA {a : List (κ × α)} (h : (a.map (·.1)).Nodup) {k : κ} {v : α} : (k, v) ∈ a ↔ getA a k = some v := by
  induction a with
  | nil => simp
  | cons p r ih =>
    obtain ⟨j, u⟩ := p
    rw [List.map_cons, List.nodup_cons] at h
    rw [getA_cons, List.mem_cons]
    by_cases e : j = k
    · subst e
      simp only [if_true, Option.some.injEq, Prod.mk.injEq, true_and]
      constructor
      · rintro (z | z)
        · exact z.symm
        · exact absurd (List.mem_map.mpr ⟨_, z, rfl⟩) h.1
      · exact fun z => .inl z.symm
    · simp only [e, if_false, Prod.mk.injEq, ih h.2]
      constructor
      · rintro (z | z)
        · exact absurd z.1.symm e
        · exact z
      · exact .inr
end
/-! ### dicts with texts as keys -/
def encS {α : Type} (f : α → D) (kvs : List (Str × α)) : List (Key × D) := kvs.map fun p => (.inr p.1, f p.2)
section
variable {α : Type} {f : α → D} {kvs : List (Str × α)} {x : Str}
theorem getA_enc : getA (encS f kvs) (.inr x) = (getA kvs x).map f := by
  induction kvs with
  | nil => rfl
  | cons p r ih =>
    obtain ⟨y, v⟩ := p
    unfold encS at ih ⊢
    rw [List.map_cons, getA_cons, getA_cons, ih]
    by_cases h : y = x <;> simp [h]
theorem putA_enc {v : α} : putA (encS f kvs) (.inr x) (f v) = encS f (putA kvs x v) := by
  unfold putA
  have e1 : ((encS f kvs).any fun kv => decide (kv.1 = (.inr x : Key))) = kvs.any fun kv => decide (kv.1 = x) := by
    unfold encS
    rw [List.any_map]
    congr 1
    funext p
    simp
  rw [e1]
  split
  · unfold encS
    rw [List.map_map, List.map_map]
    apply List.map_congr_left
    intro p _
    simp only [Function.comp]
    by_cases h : p.1 = x <;> simp [h]
  · unfold encS; simp
theorem encS_len : (encS f kvs).length = kvs.length := by unfold encS; simp
theorem keysS_enc : keysS (encS f kvs) = some (kvs.map (·.1)) := by
  unfold keysS encS
  induction kvs with
  | nil => rfl
  | cons p r ih => rw [List.map_cons, List.mapM_cons, ih]; rfl
end
/-! ### texts in order -/
def ltS (x y : Str) : Prop := x.cps.toList < y.cps.toList
theorem srtS_pw (l : List Str) : (srtS l).Pairwise (fun x y => x.cps.toList ≤ y.cps.toList) :=
  (List.pairwise_mergeSort (le := leS) (fun a b c h1 h2 => by simp only [leS, decide_eq_true_eq] at *; exact List.le_trans h1 h2) (fun a b => by simp only [leS, Bool.or_eq_true, decide_eq_true_eq]; exact List.le_total _ _) l).imp fun {a b} h => by simpa [leS] using h
theorem srtS_perm (l : List Str) : (srtS l).Perm l := List.mergeSort_perm l leS
theorem srtS_lt {l : List Str} (h : l.Nodup) : (srtS l).Pairwise ltS := by
  have h1 := srtS_pw l
  have h2 : (srtS l).Nodup := (srtS_perm l).nodup_iff.mpr h
  refine (h1.and h2).imp fun {a b} z => ?_
  unfold ltS
  refine Classical.byContradiction fun q => z.2 (str_eq (List.le_antisymm z.1 ?_))
  exact List.not_lt.mp q
theorem ltS_irrefl (x : Str) : ¬ ltS x x := List.lt_irrefl _
theorem ltS_asymm {x y : Str} (h : ltS x y) (h' : ltS y x) : False := List.lt_irrefl _ (List.lt_trans h h')
/-! ### sequences that are walked -/
theorem seqD_app {d : D} {s t : Sto} {xs : List D} (h : seqD d s = some xs) : seqD d (s ++ t) = some xs := by
  cases d with
  | loc k =>
    rw [seq_loc] at h ⊢
    have hk : k < s.length := by
      by_cases hk : k < s.length
      · exact hk
      · rw [List.getElem?_eq_none (by omega)] at h; cases h
    rw [get_lt hk]; exact h
  | _ => exact h
theorem lstO_eq {o : Option O} {xs : List D} (h : lstO o = some xs) : o = some (.lst xs) := by
  unfold lstO at h
  split at h
  · cases h; rfl
  · cases h
theorem forSeq {d : D} {s : Sto} {xs : List D} (h : seqD d s = some xs) : ∃ src, srcD d s = some src ∧ ∀ {P : Post} {g : GM} {b : SM} {E : Ev} (I : Nat → Ev → Sto → Prop), xs.length < fuelMax → (∀ i E s, I i E s → seqD d s = some xs) → I 0 E s →
    (∀ j d E s, xs[j]? = some d → I j E s → (g d E s).to (fun E1 s1 => (b E1 s1).to { P with nx := I (j + 1), ct := I (j + 1), bk := P.nx }) NoX) →
    (∀ E s, I xs.length E s → P.nx E s) → (forS g b src E s).to P := by
  cases d with
  | tup ys => cases h; exact ⟨_, rfl, fun I _ _ h0 ht hz => forFix I h0 ht hz⟩
  | ro ys => cases h; exact ⟨_, rfl, fun I _ _ h0 ht hz => forFix I h0 ht hz⟩
  | loc k =>
    rw [seq_loc] at h
    refine ⟨.lst k, by rw [src_loc, lstO_eq h]; rfl, fun I hl hk h0 ht hz => forLst I hl (fun i E s z => ?_) h0 ht hz⟩
    have := hk i E s z
    rw [seq_loc] at this
    exact lstO_eq this
  | _ => cases h
theorem compSeq {d : D} {s : Sto} {xs : List D} (h : seqD d s = some xs) (hl : xs.length < sizeLine) : ∃ src, srcD d s = some src ∧ ∀ {g : GM} {t : EM Bool} {e : EM D} {E0 : Ev} {f : D → Option D}, (∀ d ∈ xs, turnC g t e E0 d s = .ok (f d) s) → compS g t e E0 src s = .ok (xs.filterMap f) s := by
  cases d with
  | tup ys => cases h; exact ⟨_, rfl, fun q => compFix_map (Nat.le_of_lt hl) q⟩
  | ro ys => cases h; exact ⟨_, rfl, fun q => compFix_map (Nat.le_of_lt hl) q⟩
  | loc k =>
    rw [seq_loc] at h
    exact ⟨.lst k, by rw [src_loc, lstO_eq h]; rfl, fun q => compLst_map (lstO_eq h) hl q⟩
  | _ => cases h
end Y

set_option Elab.async false
set_option linter.all false
set_option maxRecDepth 100000
set_option maxHeartbeats 4000000
/-! Y21: forms as lists of names with numbers: their sums by names. -/
namespace Y
open PySem L2
theorem nodup_le {α : Type} [DecidableEq α] : ∀ {l m : List α}, l.Nodup → (∀ x ∈ l, x ∈ m) → l.length ≤ m.length
  | [], _, _, _ => Nat.zero_le _
  | a :: l, m, h, hs => by
    rw [List.nodup_cons] at h
    have ha := hs a List.mem_cons_self
    have := nodup_le (m := m.erase a) h.2 fun x hx => (List.mem_erase_of_ne (fun (e : x = a) => h.1 (e ▸ hx))).mpr (hs x (List.mem_cons_of_mem _ hx))
    rw [List.length_erase_of_mem ha] at this
    have h0 : 0 < m.length := List.length_pos_of_mem ha
    rw [List.length_cons]
    omega
abbrev Ps := List (Str × Int)
def pD (p : Str × Int) : D := .tup [.str p.1, .int p.2]
def fD (c : Int) (ps : Ps) : D := .tup [.int c, .tup (ps.map pD)]
def co (ps : Ps) (x : Str) : Int := (ps.map fun p => if p.1 = x then p.2 else 0).sum
@[simp] theorem co_nil {x : Str} : co [] x = 0 := rfl
theorem co_cons {p : Str × Int} {ps : Ps} {x : Str} : co (p :: ps) x = (if p.1 = x then p.2 else 0) + co ps x := by
  unfold co; rw [List.map_cons, List.sum_cons]
theorem co_append {a b : Ps} {x : Str} : co (a ++ b) x = co a x + co b x := by
  unfold co; rw [List.map_append, List.sum_append]
theorem co_mul {k : Int} {ps : Ps} {x : Str} : co (ps.map fun p => (p.1, k * p.2)) x = k * co ps x := by
  induction ps with
  | nil => simp
  | cons p r ih =>
    rw [List.map_cons, co_cons, co_cons, ih, Int.mul_add]
    by_cases h : p.1 = x <;> simp [h]
theorem co_perm {a b : Ps} (h : a.Perm b) {x : Str} : co a x = co b x := by
  induction h with
  | nil => rfl
  | cons p _ ih => rw [co_cons, co_cons, ih]
  | swap p q l => simp only [co_cons]; omega
  | trans _ _ h1 h2 => exact h1.trans h2
theorem co_none {ps : Ps} {x : Str} (h : ∀ p ∈ ps, p.1 ≠ x) : co ps x = 0 := by
  induction ps with
  | nil => rfl
  | cons p r ih => rw [co_cons, ih fun q hq => h q (List.mem_cons_of_mem _ hq), if_neg (h p List.mem_cons_self)]; rfl
theorem co_bound {B : Int} (hB : 0 ≤ B) {ps : Ps} {x : Str} (h : ∀ p ∈ ps, -B ≤ p.2 ∧ p.2 ≤ B) : -(B * ps.length) ≤ co ps x ∧ co ps x ≤ B * ps.length := by
  induction ps with
  | nil => simp
  | cons p r ih =>
    have ih := ih fun q hq => h q (List.mem_cons_of_mem _ hq)
    have hp := h p List.mem_cons_self
    rw [co_cons, List.length_cons]
    have e : B * ((r.length + 1 : Nat) : Int) = B * r.length + B := by
      rw [Int.natCast_add, Int.mul_add]; simp
    rw [e]
    split <;> omega
def addP (acc : Ps) (p : Str × Int) : Ps := putA acc p.1 ((getA acc p.1).getD 0 + p.2)
def sumsP (ps : Ps) : Ps := ps.foldl addP []
theorem sumsP_snoc {ps : Ps} {p : Str × Int} : sumsP (ps ++ [p]) = addP (sumsP ps) p := by
  unfold sumsP; rw [List.foldl_append]; rfl
theorem sumsP_take {ps : Ps} {n : Nat} {p : Str × Int} (h : ps[n]? = some p) : sumsP (ps.take (n + 1)) = addP (sumsP (ps.take n)) p := by
  rw [List.take_add_one, h]; exact sumsP_snoc
theorem fold_inv (f : Ps → Prop) (h : ∀ acc p, f acc → f (addP acc p)) : ∀ (ps acc : Ps), f acc → f (ps.foldl addP acc)
  | [], _, z => z
  | p :: ps, acc, z => fold_inv f h ps _ (h acc p z)
theorem sumsP_nodup (ps : Ps) : ((sumsP ps).map (·.1)).Nodup := fold_inv (fun a => (a.map (·.1)).Nodup) (fun _ _ z => nodup_putA z) ps [] (by simp)
theorem sumsP_get : ∀ (ps acc : Ps) (x : Str), (getA (ps.foldl addP acc) x).getD 0 = (getA acc x).getD 0 + co ps x
  | [], acc, x => by simp
  | p :: ps, acc, x => by
    rw [List.foldl_cons, sumsP_get ps, co_cons]
    unfold addP
    rw [getA_putA]
    by_cases h : p.1 = x
    · subst h; simp; omega
    · simp [h]
theorem sumsP_co (ps : Ps) (x : Str) : (getA (sumsP ps) x).getD 0 = co ps x := by
  unfold sumsP; rw [sumsP_get]; simp
theorem sumsP_keys : ∀ (ps acc : Ps) (x : Str), x ∈ (ps.foldl addP acc).map (·.1) → x ∈ acc.map (·.1) ∨ ∃ p ∈ ps, p.1 = x
  | [], acc, x, h => .inl h
  | p :: ps, acc, x, h => by
    rcases sumsP_keys ps _ x h with z | ⟨q, hq, e⟩
    · unfold addP at z
      rw [keys_putA] at z
      split at z
      · exact .inl z
      · rcases List.mem_append.mp z with z | z
        · exact .inl z
        · exact .inr ⟨p, List.mem_cons_self, (List.mem_singleton.mp z).symm⟩
    · exact .inr ⟨q, List.mem_cons_of_mem _ hq, e⟩
theorem sumsP_len {ps : Ps} {NM : List Str} (h : ∀ p ∈ ps, p.1 ∈ NM) : (sumsP ps).length ≤ NM.length := by
  have := nodup_le (sumsP_nodup ps) (m := NM) fun x hx => by
    rcases sumsP_keys ps [] x hx with z | ⟨p, hp, e⟩
    · simp at z
    · exact e ▸ h p hp
  rwa [List.length_map] at this
def keepN (kvs : Ps) (x : Str) : Option (Str × Int) := (getA kvs x).bind fun n => if n = 0 then none else some (x, n)
def formL (ps : Ps) : Ps := (srtS ((sumsP ps).map (·.1))).filterMap (keepN (sumsP ps))
structure Canon (f : Str → Int) (l : Ps) : Prop where
  srt : l.Pairwise (fun a b => ltS a.1 b.1)
  mem : ∀ x n, (x, n) ∈ l ↔ n = f x ∧ n ≠ 0
theorem canon_uniq {f : Str → Int} {l m : Ps} (h : Canon f l) (h' : Canon f m) : l = m := by
  have nd : ∀ {l : Ps}, l.Pairwise (fun a b => ltS a.1 b.1) → l.Nodup := fun hl => hl.imp fun {a b} z e => by subst e; exact ltS_irrefl _ z
  have hp : l.Perm m := (List.perm_ext_iff_of_nodup (nd h.srt) (nd h'.srt)).mpr fun ⟨x, n⟩ => by rw [h.mem, h'.mem]
  exact List.Perm.eq_of_pairwise (le := fun a b => ltS a.1 b.1) (fun a b _ _ x y => (ltS_asymm x y).elim) h.srt h'.srt hp
theorem formL_canon (ps : Ps) : Canon (co ps) (formL ps) := by
  have key : ∀ x p, keepN (sumsP ps) x = some p ↔ getA (sumsP ps) x = some p.2 ∧ p.2 ≠ 0 ∧ p.1 = x := fun x p => by
    unfold keepN
    cases getA (sumsP ps) x with
    | none => simp
    | some n =>
      simp only [Option.bind_some]
      by_cases h : n = 0
      · subst h; simp; intro a b; exact absurd a.symm b
      · simp only [h, if_false, Option.some.injEq]
        constructor
        · rintro rfl; exact ⟨rfl, h, rfl⟩
        · rintro ⟨rfl, _, rfl⟩; rfl
  refine ⟨?_, fun x n => ?_⟩
  · unfold formL
    rw [List.pairwise_filterMap]
    refine (srtS_lt (sumsP_nodup ps)).imp fun {a b} hab p hp q hq => ?_
    rw [((key a p).mp hp).2.2, ((key b q).mp hq).2.2]
    exact hab
  · unfold formL
    rw [List.mem_filterMap]
    constructor
    · rintro ⟨y, _, hk⟩
      obtain ⟨h1, h2, h3⟩ := (key y (x, n)).mp hk
      simp only at h1 h2 h3
      subst h3
      rw [← sumsP_co, h1]
      exact ⟨rfl, h2⟩
    · rintro ⟨h1, h2⟩
      rw [← sumsP_co] at h1
      cases e : getA (sumsP ps) x with
      | none => rw [e] at h1; exact absurd h1 h2
      | some m =>
        rw [e] at h1
        simp at h1
        subst h1
        refine ⟨x, (srtS_perm _).mem_iff.mpr (List.mem_map.mpr ⟨(x, n), (mem_getA (sumsP_nodup ps)).mpr e, rfl⟩), (key x (x, n)).mpr ⟨e, h2, rfl⟩⟩
theorem formL_congr {a b : Ps} (h : ∀ x, co a x = co b x) : formL a = formL b :=
  canon_uniq (formL_canon a) ⟨(formL_canon b).srt, fun x n => by rw [(formL_canon b).mem, h]⟩
theorem co_canon {f : Str → Int} : ∀ {l : Ps}, Canon f l → ∀ x, co l x = f x := by
  intro l h x
  by_cases hx : f x = 0
  · rw [hx]
    refine co_none fun p hp e => ?_
    have := (h.mem p.1 p.2).mp hp
    rw [e, hx] at this
    exact this.2 this.1
  · have hm := (h.mem x (f x)).mpr ⟨rfl, hx⟩
    obtain ⟨a, b, rfl⟩ := List.append_of_mem hm
    rw [co_append, co_cons]
    have hs := h.srt
    rw [List.pairwise_append, List.pairwise_cons] at hs
    rw [co_none fun p hp e => ltS_irrefl x (by have := hs.2.2 p hp _ List.mem_cons_self; rwa [e] at this), co_none fun p hp e => ltS_irrefl x (by have := hs.2.1.1 p hp; rwa [e] at this)]
    simp
@[simp] theorem co_formL {ps : Ps} {x : Str} : co (formL ps) x = co ps x := co_canon (formL_canon ps) x
theorem formL_names {ps : Ps} {NM : List Str} (h : ∀ p ∈ ps, p.1 ∈ NM) : ∀ p ∈ formL ps, p.1 ∈ NM := fun p hp => by
  have := ((formL_canon ps).mem p.1 p.2).mp hp
  refine Classical.byContradiction fun z => this.2 (this.1.trans (co_none fun q hq e => z (e ▸ h q hq)))
theorem formL_len {ps : Ps} {NM : List Str} (h : ∀ p ∈ ps, p.1 ∈ NM) : (formL ps).length ≤ NM.length := by
  refine Nat.le_trans (List.length_filterMap_le _ _) ?_
  rw [srtS_len, List.length_map]
  exact sumsP_len h
theorem formL_bound {B : Int} (hB : 0 ≤ B) {ps : Ps} (h : ∀ p ∈ ps, -B ≤ p.2 ∧ p.2 ≤ B) : ∀ p ∈ formL ps, -(B * ps.length) ≤ p.2 ∧ p.2 ≤ B * ps.length := fun p hp => by
  rw [(((formL_canon ps).mem p.1 p.2).mp hp).1]
  exact co_bound hB h
theorem formL_mul {k : Int} (hk : k ≠ 0) (ps : Ps) : (formL ps).map (fun p => (p.1, k * p.2)) = formL (ps.map fun p => (p.1, k * p.2)) := by
  refine canon_uniq (f := fun x => k * co ps x) ⟨?_, fun x n => ?_⟩ ⟨(formL_canon _).srt, fun x n => by rw [(formL_canon _).mem, co_mul]⟩
  · rw [List.pairwise_map]; exact (formL_canon ps).srt
  · rw [List.mem_map]
    constructor
    · rintro ⟨⟨y, m⟩, hm, e⟩
      cases e
      have := ((formL_canon ps).mem _ _).mp hm
      rw [← this.1]
      exact ⟨rfl, Int.mul_ne_zero hk this.2⟩
    · rintro ⟨rfl, h2⟩
      exact ⟨(x, co ps x), ((formL_canon ps).mem _ _).mpr ⟨rfl, fun z => h2 (by rw [z]; simp)⟩, rfl⟩
theorem fD_cl {c : Int} {ps : Ps} {n : Nat} : D.cl n (fD c ps) = true := by
  unfold fD
  simp only [D.cl, D.clL, Bool.true_and, Bool.and_true]
  induction ps with
  | nil => rfl
  | cons p r ih => simp only [List.map_cons, D.clL, ih, Bool.and_true]; rfl
theorem fD_dat {c : Int} {ps : Ps} (h : ps.length ≤ sizeLine) : datB 3 (fD c ps) = true := by
  have hz : 2 ≤ sizeLine := by rw [szEq]; decide
  unfold fD
  simp [datB, h, hz, pD]
end Y

set_option Elab.async false
set_option linter.all false
set_option maxRecDepth 100000
set_option maxHeartbeats 4000000
/-! Y22: dict comprehensions that touch nothing; small numbers. -/
namespace Y
open PySem L2
def dcompS (g : GM) (t : EM Bool) (ek ev : EM D) (E0 : Ev) (src : Src) (s : Sto) : Res (List (Key × D)) := match src with
  | .fix ds => if ds.length ≤ sizeLine then dcompL g t ek ev E0 ds [] s else .err
  | .lst k => dcompK g t ek ev E0 k sizeLine 0 [] s
section
variable {g : GM} {t : EM Bool} {ek ev : EM D} {E0 E : Ev} {s : Sto}
@[simp] theorem fDc_ap {it : EM Src} {vs : List Nat} : fDc it g t ek ev vs E s = (it E s).bind fun src s1 => dcompS g t ek ev (wipeE E vs) src s1 := by
  rfl
theorem dcompL_map {f : D → Option (Key × D)} : ∀ (xs : List D) (acc : List (Key × D)), (∀ d ∈ xs, turnD g t ek ev E0 d s = .ok (f d) s) → dcompL g t ek ev E0 xs acc s = .ok (xs.foldl (fun a d => putO (f d) a) acc) s
  | [], acc, _ => rfl
  | d :: ds, acc, h => by
    unfold dcompL
    rw [h d List.mem_cons_self, Res.bind_ok, dcompL_map ds _ fun d hd => h d (List.mem_cons_of_mem _ hd)]
    rfl
theorem dcompFix_map {f : D → Option (Key × D)} {xs : List D} (hl : xs.length ≤ sizeLine) (h : ∀ d ∈ xs, turnD g t ek ev E0 d s = .ok (f d) s) : dcompS g t ek ev E0 (.fix xs) s = .ok (xs.foldl (fun a d => putO (f d) a) []) s := by
  unfold dcompS
  simp only [if_pos hl]
  exact dcompL_map xs [] h
end
theorem fold_enc {α : Type} {f : α → D} : ∀ (l : List (Str × α)) (acc : List (Str × α)), l.foldl (fun (a : List (Key × D)) p => putA a (.inr p.1) (f p.2)) (encS f acc) = encS f (l.foldl (fun a p => putA a p.1 p.2) acc)
  | [], acc => rfl
  | p :: l, acc => by
    rw [List.foldl_cons, List.foldl_cons, putA_enc]
    exact fold_enc l _
/-- a dict made of pairs with names that differ -/
theorem fold_put {κ α : Type} [DecidableEq κ] : ∀ (l acc : List (κ × α)), ((acc ++ l).map (·.1)).Nodup → l.foldl (fun a p => putA a p.1 p.2) acc = acc ++ l
  | [], acc, _ => by simp
  | p :: l, acc, h => by
    rw [List.foldl_cons]
    have hp : p.1 ∉ acc.map (·.1) := by
      rw [List.map_append, List.nodup_append] at h
      exact fun z => h.2.2 _ z p.1 (by simp) rfl
    have e : putA acc p.1 p.2 = acc ++ [p] := by
      unfold putA
      rw [if_neg (fun z => hp (any_key.mp z))]
    rw [e, fold_put l (acc ++ [p]) (by rw [List.append_assoc]; exact h), List.append_assoc]
    rfl
/-- what may be multiplied -/
def sm (z : Int) : Prop := z.natAbs.log2 ≤ 1000
theorem sm_of {z : Int} {B : Nat} (h : z.natAbs ≤ B) (hB : B < 2 ^ 1000 := by decide +kernel) : sm z := small_log (Nat.lt_of_le_of_lt h hB)
theorem sm_mul {a b : Int} (ha : sm a) (hb : sm b) : a.natAbs.log2 + b.natAbs.log2 < 1000000 := by
  unfold sm at ha hb; omega
end Y

set_option Elab.async false
set_option linter.all false
set_option maxRecDepth 100000
set_option maxHeartbeats 4000000
/-! Y23: the program's forms (form, plus, times, minus), over any program that has them. -/
namespace Y
open PySem L2
def zeroF : D := .tup [.int 0, .tup []]
def mForm : SM :=
  (sCons (sSet 2 dictNew)
  (sCons (sFor (iVal (eVar 1)) (gTp 2 (gsCons (gNm 3) (gsCons (gNm 4) gsNil))) (sCons (sAsg (gSb (eVar 2) (eVar 3)) (eBin (pBin .Add) (eMeth "get" (eVar 2) (aCons (eVar 3) (aCons (eC (.int 0)) aNil))) (eVar 4)))
  sNil))
  (sCons (sRet (eA mkTup (aCons (eVar 0) (aCons (eL lTup (fLc (iFix (fSorted (eVar 2))) (gNm 3) (tOfB (eBin (pCmp .NotEq) (eBin pIx (eVar 2) (eVar 3)) (eC (.int 0)))) (eA mkTup (aCons (eVar 3) (aCons (eBin pIx (eVar 2) (eVar 3)) aNil))) [3])) aNil))))
  sNil)))
def mPlus (T : Pg) (k : Nat) : SM :=
  (sCons (sIf (tNt (tOfT (eBin pIx (eVar 1) (eC (.int 1))))) (sCons (sRet (eA mkTup (aCons (eBin (pBin .Add) (eBin pIx (eVar 0) (eC (.int 0))) (eBin pIx (eVar 1) (eC (.int 0)))) (aCons (eBin pIx (eVar 0) (eC (.int 1))) aNil))))
  sNil) sNil)
  (sCons (sRet (eCall 2 (callP T k "form") (aCons (eBin (pBin .Add) (eBin pIx (eVar 0) (eC (.int 0))) (eBin pIx (eVar 1) (eC (.int 0)))) (aCons (eBin (pBin .Add) (eBin pIx (eVar 0) (eC (.int 1))) (eBin pIx (eVar 1) (eC (.int 1)))) aNil))))
  sNil))
def mTimes : SM :=
  (sCons (sIf (tOfB (eBin (pCmp .Eq) (eVar 0) (eC (.int 0)))) (sCons (sRet (eC zeroF))
  sNil) sNil)
  (sCons (sRet (eA mkTup (aCons (eBin (pBin .Mult) (eVar 0) (eBin pIx (eVar 1) (eC (.int 0)))) (aCons (eL lTup (fLc (iVal (eBin pIx (eVar 1) (eC (.int 1)))) (gTp 2 (gsCons (gNm 2) (gsCons (gNm 3) gsNil))) tYesM (eA mkTup (aCons (eVar 2) (aCons (eBin (pBin .Mult) (eVar 0) (eVar 3)) aNil))) [2, 3])) aNil))))
  sNil))
def mMinus (T : Pg) (k : Nat) : SM :=
  (sCons (sRet (eCall 2 (callP T k "plus") (aCons (eVar 0) (aCons (eCall 2 (callP T k "times") (aCons (eUn pNeg (eC (.int 1))) (aCons (eVar 1) aNil))) aNil))))
  sNil)
structure FormLib (T : Pg) : Prop where
  form : ∀ {k a b s}, callP T (k + 1) "form" [a, b] s = gc s (resS (mForm [some a, some b, none, none, none] s))
  plus : ∀ {k a b s}, callP T (k + 1) "plus" [a, b] s = gc s (resS (mPlus T k [some a, some b] s))
  times : ∀ {k a b s}, callP T (k + 1) "times" [a, b] s = gc s (resS (mTimes [some a, some b, none, none] s))
  minus : ∀ {k a b s}, callP T (k + 1) "minus" [a, b] s = gc s (resS (mMinus T k [some a, some b] s))
def LForm (T : Pg) : Prop := ∀ {k a b s}, callP T (k + 1) "_law_form" [a, b] s = gc s (resS (mForm [some a, some b, none, none, none] s))
theorem pD_at {ps : Ps} {n : Nat} {d : D} (h : (ps.map pD)[n]? = some d) : ∃ x z, ps[n]? = some (x, z) ∧ d = .tup [.str x, .int z] := by
  rw [List.getElem?_map] at h
  cases e : ps[n]? with
  | none => rw [e] at h; cases h
  | some p => rw [e] at h; cases h; exact ⟨p.1, p.2, rfl, rfl⟩
theorem sz {n : Nat} (h : n < 1000) : n < sizeLine := by rw [szEq]; omega
theorem sz' {n : Nat} (h : n < 1000) : n ≤ sizeLine := Nat.le_of_lt (sz h)
/-- the tuple of the names with sums that are not zero, in order -/
theorem sorted_run {s : Sto} {kvs : Ps} {E0 : Ev} {E : Ev} {i l : Nat} (hl : kvs.length < 64) (hk : s[l]? = some (.dic (encS D.int kvs))) :
    srtDS (.loc l) s = some ((srtS (kvs.map (·.1))).map D.str) := by
  unfold srtDS
  rw [lst_loc, hk]
  simp only [lstO, hk, keysS_enc]
  rw [List.length_map, if_pos hl]
theorem keep_turn {s : Sto} {kvs : Ps} {E0 : Ev} {i j l : Nat} {x : Str} (hk : s[l]? = some (.dic (encS D.int kvs))) (hx : x ∈ kvs.map (·.1)) (hi : i < E0.length) (hj : E0[j]? = some (some (.loc l))) (hij : i ≠ j) :
    turnC (gNm i) (tOfB (eBin pNe (eBin pIx (eVar j) (eVar i)) (eC (.int 0)))) (eA mkTup (aCons (eVar i) (aCons (eBin pIx (eVar j) (eVar i)) aNil))) E0 (.str x) s = .ok ((keepN kvs x).map pD) s := by
  have g1 : (E0.set i (some (.str x)))[i]? = some (some (.str x)) := List.getElem?_set_self hi
  have g2 : (E0.set i (some (.str x)))[j]? = some (some (.loc l)) := by rw [List.getElem?_set_ne hij]; exact hj
  obtain ⟨n, hn⟩ : ∃ n, getA kvs x = some n := by
    cases e : getA kvs x with
    | none => exact absurd hx (getA_none.mp e)
    | some n => exact ⟨n, rfl⟩
  have hz : 2 ≤ sizeLine := sz' (by decide)
  unfold turnC keepN
  simp [g1, g2, hk, getA_enc, hn, noX, Res.ofO]
  by_cases h0 : n = 0
  · simp [h0]
  · simp [h0, hz, pD]
theorem keep_comp {s : Sto} {kvs : Ps} {E0 : Ev} {i j l : Nat} (hl : kvs.length < 64) (hk : s[l]? = some (.dic (encS D.int kvs))) (hi : i < E0.length) (hj : E0[j]? = some (some (.loc l))) (hij : i ≠ j) :
    compS (gNm i) (tOfB (eBin pNe (eBin pIx (eVar j) (eVar i)) (eC (.int 0)))) (eA mkTup (aCons (eVar i) (aCons (eBin pIx (eVar j) (eVar i)) aNil))) E0 (.fix ((srtS (kvs.map (·.1))).map D.str)) s = .ok (((srtS (kvs.map (·.1))).filterMap (keepN kvs)).map pD) s := by
  rw [compFix_map (f := fun d => match d with | .str x => (keepN kvs x).map pD | _ => none)]
  · rw [List.filterMap_map, List.map_filterMap]; rfl
  · rw [List.length_map, srtS_len, List.length_map]; exact sz' (by omega)
  · intro d hd
    obtain ⟨x, hx, rfl⟩ := List.mem_map.mp hd
    exact keep_turn hk ((srtS_perm _).mem_iff.mp hx) hi hj hij
theorem form_run {c : Int} {d : D} {ps : Ps} {s : Sto} {NM : List Str} (hs : seqD d s = some (ps.map pD)) (hN : ∀ p ∈ ps, p.1 ∈ NM) (hM : NM.length < 60) (hl : ps.length < 1000) :
    (mForm [some (.int c), some d, none, none, none] s).to { rt := fun d' s' => d' = fD c (formL ps) ∧ ∃ t, s' = s ++ t } := by
  obtain ⟨src, e1, loop⟩ := forSeq (seqD_app (t := [.dic []]) hs)
  unfold mForm
  simp [e1]
  have len : ∀ qs : Ps, (∀ p ∈ qs, p.1 ∈ NM) → (sumsP qs).length < 60 := fun qs h => Nat.lt_of_le_of_lt (sumsP_len h) hM
  refine loop (fun n E s1 => ∃ o1 o2, E = [some (.int c), some d, some (.loc s.length), o1, o2] ∧ s1 = s ++ [.dic (encS D.int (sumsP (ps.take n)))]) (by rw [List.length_map]; unfold fuelMax; omega) ?_ ?_ ?_ ?_
  · rintro n E s1 ⟨o1, o2, rfl, rfl⟩
    exact seqD_app hs
  · exact ⟨none, none, rfl, rfl⟩
  · rintro n d' E s1 hd ⟨o1, o2, rfl, rfl⟩
    obtain ⟨x, z, hp, rfl⟩ := pD_at hd
    have hb := len (ps.take n) fun p hp => hN p (List.mem_of_mem_take hp)
    simp [meth_get (kvs := encS D.int (sumsP (ps.take n))), mGet2_str (kvs := encS D.int (sumsP (ps.take n))), getA_enc, encS_len]
    rw [sumsP_take hp]
    have e : ((getA (sumsP (ps.take n)) x).map D.int).getD (.int 0) = .int ((getA (sumsP (ps.take n)) x).getD 0) := by cases getA (sumsP (ps.take n)) x <;> rfl
    simp [e, putA_enc, addP, sz (show List.length (sumsP (List.take n ps)) < 1000 by omega)]
  · rintro E s1 ⟨o1, o2, rfl, rfl⟩
    rw [List.length_map, List.take_length]
    have hb := len ps hN
    have hz : 2 ≤ sizeLine := sz' (by decide)
    simp [sorted_run (l := s.length) (i := 0) (E := []) (E0 := []) (show (sumsP ps).length < 64 by omega) (s := s ++ [.dic (encS D.int (sumsP ps))]) (by simp)]
    rw [keep_comp (l := s.length) (by omega) (by simp) (by simp) (by simp) (by decide)]
    simp [hz, fD, formL]
theorem FormLib.form_ok {T : Pg} (G : FormLib T) {k : Nat} {c : Int} {d : D} {ps : Ps} {s : Sto} {NM : List Str} (hs : seqD d s = some (ps.map pD)) (hN : ∀ p ∈ ps, p.1 ∈ NM) (hM : NM.length < 60) (hl : ps.length < 1000) :
    callP T (k + 1) "form" [.int c, d] s = .ok (fD c (formL ps)) s := by
  rw [G.form]
  exact gc_pure fD_cl (form_run hs hN hM hl)
theorem law_form_ok {T : Pg} (L : LForm T) {k : Nat} {c : Int} {d : D} {ps : Ps} {s : Sto} {NM : List Str} (hs : seqD d s = some (ps.map pD)) (hN : ∀ p ∈ ps, p.1 ∈ NM) (hM : NM.length < 60) (hl : ps.length < 1000) :
    callP T (k + 1) "_law_form" [.int c, d] s = .ok (fD c (formL ps)) s := by
  rw [L]
  exact gc_pure fD_cl (form_run hs hN hM hl)
/-- all numbers are small -/
def Sm (c : Int) (ps : Ps) : Prop := sm c ∧ ∀ p ∈ ps, sm p.2
theorem ldl {α β : Type} {f : α → β} {l : List α} : (l.map f).length = l.length := List.length_map f
theorem mul_turn {s : Sto} {E0 : Ev} {x : Str} {z n : Int} {i j l : Nat} (hz : sm z) (hn : sm n) (hi : i < E0.length) (hj : j < E0.length) (hl : E0[l]? = some (some (.int z))) (hij : i ≠ j) (hil : i ≠ l) (hjl : j ≠ l) :
    turnC (gTp 2 (gsCons (gNm i) (gsCons (gNm j) gsNil))) tYesM (eA mkTup (aCons (eVar i) (aCons (eBin pMul (eVar l) (eVar j)) aNil))) E0 (pD (x, n)) s = .ok (some (pD (x, z * n))) s := by
  have hz2 : 2 ≤ sizeLine := sz' (by decide)
  have g1 : ((E0.set i (some (.str x))).set j (some (.int n)))[i]? = some (some (.str x)) := by rw [List.getElem?_set_ne (Ne.symm hij), List.getElem?_set_self hi]
  have g2 : ((E0.set i (some (.str x))).set j (some (.int n)))[j]? = some (some (.int n)) := by rw [List.getElem?_set_self (by rw [List.length_set]; exact hj)]
  have g3 : ((E0.set i (some (.str x))).set j (some (.int n)))[l]? = some (some (.int z)) := by rw [List.getElem?_set_ne hjl, List.getElem?_set_ne hil]; exact hl
  unfold turnC pD
  simp [g1, g2, g3, noX, Res.ofO, sm_mul hz hn, hz2]
theorem mul_comp {s : Sto} {E0 : Ev} {ps : Ps} {z : Int} {i j l : Nat} (hp : ps.length < 1000) (hz : sm z) (hn : ∀ p ∈ ps, sm p.2) (hi : i < E0.length) (hj : j < E0.length) (hl : E0[l]? = some (some (.int z))) (hij : i ≠ j) (hil : i ≠ l) (hjl : j ≠ l) :
    compS (gTp 2 (gsCons (gNm i) (gsCons (gNm j) gsNil))) tYesM (eA mkTup (aCons (eVar i) (aCons (eBin pMul (eVar l) (eVar j)) aNil))) E0 (.fix (ps.map pD)) s = .ok ((ps.map fun p => (p.1, z * p.2)).map pD) s := by
  rw [compFix_map (f := fun d => match d with | .tup [.str x, .int n] => some (pD (x, z * n)) | _ => none)]
  · congr 1
    rw [List.filterMap_map, List.map_map, ← List.filterMap_eq_map]
    rfl
  · rw [ldl]; exact sz' hp
  · intro d hd
    obtain ⟨p, hp, rfl⟩ := List.mem_map.mp hd
    exact mul_turn hz (hn p hp) hi hj hl hij hil hjl
def timesL (z c : Int) (qs : Ps) : D := if z = 0 then fD 0 [] else fD (z * c) (qs.map fun p => (p.1, z * p.2))
theorem FormLib.times_ok {T : Pg} (G : FormLib T) {k : Nat} {z c : Int} {qs : Ps} {s : Sto} (hz : sm z) (hS : Sm c qs) (hl : qs.length < 1000) :
    callP T (k + 1) "times" [.int z, fD c qs] s = .ok (timesL z c qs) s := by
  rw [G.times]
  have hz2 : 2 ≤ sizeLine := sz' (by decide)
  unfold timesL
  by_cases h0 : z = 0
  · rw [if_pos h0]
    refine gc_pure fD_cl ?_
    subst h0
    unfold mTimes
    simp [zeroF, fD]
  · rw [if_neg h0]
    refine gc_pure fD_cl ?_
    unfold mTimes
    simp [h0, fD, sm_mul hz hS.1]
    rw [mul_comp hl hz hS.2 (by simp) (by simp) (by simp) (by decide) (by decide) (by decide)]
    simp [hz2]
theorem FormLib.plus_ok {T : Pg} (G : FormLib T) {k : Nat} {c c' : Int} {ps ps' : Ps} {s : Sto} {NM : List Str} (h : ∀ p ∈ ps, p.1 ∈ NM) (h' : ∀ p ∈ ps', p.1 ∈ NM) (hM : NM.length < 60) :
    callP T (k + 2) "plus" [fD c (formL ps), fD c' (formL ps')] s = .ok (fD (c + c') (formL (ps ++ ps'))) s := by
  rw [G.plus]
  have hz2 : 2 ≤ sizeLine := sz' (by decide)
  have l1 := formL_len h
  have l2 := formL_len h'
  refine gc_pure fD_cl ?_
  unfold mPlus
  by_cases h0 : formL ps' = []
  · simp [fD, h0, hz2]
    have : formL (ps ++ ps') = formL ps := formL_congr fun x => by
      rw [co_append, ← co_formL (ps := ps'), h0]; simp
    rw [this]
  · have e : (formL ps').map pD ≠ [] := by simpa using h0
    have hsz : (formL ps).length + (formL ps').length ≤ sizeLine := sz' (by omega)
    simp [fD, h0, hz2, hsz]
    have := G.form_ok (k := k) (c := c + c') (d := .tup ((formL ps ++ formL ps').map pD)) (ps := formL ps ++ formL ps') (s := s) (NM := NM) rfl (fun p hp => (List.mem_append.mp hp).elim (formL_names h p) (formL_names h' p)) hM (by rw [List.length_append]; omega)
    rw [List.map_append] at this
    rw [this]
    have e2 : formL (formL ps ++ formL ps') = formL (ps ++ ps') := formL_congr fun x => by simp [co_append]
    simp [e2, fD]
theorem FormLib.minus_ok {T : Pg} (G : FormLib T) {k : Nat} {c c' : Int} {ps ps' : Ps} {s : Sto} {NM : List Str} (h : ∀ p ∈ ps, p.1 ∈ NM) (h' : ∀ p ∈ ps', p.1 ∈ NM) (hM : NM.length < 60) (hS : Sm c' (formL ps')) :
    callP T (k + 3) "minus" [fD c (formL ps), fD c' (formL ps')] s = .ok (fD (c + -1 * c') (formL (ps ++ ps'.map fun p => (p.1, -1 * p.2)))) s := by
  rw [G.minus]
  refine gc_pure fD_cl ?_
  unfold mMinus
  have l2 := formL_len h'
  have e := G.times_ok (k := k + 1) (z := -1) (s := s) (sm_of (B := 1) (by decide)) hS (by omega)
  simp [e, timesL]
  have e3 := formL_mul (k := -1) (by decide) ps'
  simp at e3
  rw [e3]
  have e2 := G.plus_ok (k := k) (c := c) (c' := -1 * c') (s := s) h (ps' := ps'.map fun p => (p.1, -1 * p.2)) (NM := NM) (fun p hp => by obtain ⟨q, hq, rfl⟩ := List.mem_map.mp hp; exact h' q hq) hM
  simp at e2
  simp [e2]
end Y

set_option Elab.async false
set_option linter.all false
set_option maxRecDepth 100000
set_option maxHeartbeats 4000000
/-! Y24: == and in, over plain data. -/
namespace Y
open PySem L2
theorem anyS {l : List Str} {x : Str} : ((l.map D.str).any fun y => flatEq y (.str x)) = decide (x ∈ l) := by
  induction l with
  | nil => rfl
  | cons a r ih =>
    rw [List.map_cons, List.any_cons, ih]
    simp only [flatEq, List.mem_cons]
    by_cases h : a = x
    · subst h; simp
    · simp [h, Ne.symm h]
theorem allS {l : List Str} : (l.map D.str).all flatD = true := by
  induction l with
  | nil => rfl
  | cons a r ih => rw [List.map_cons, List.all_cons, ih]; rfl
section
variable {s : Sto} {l : List Str} {x : Str} {k : Nat}
theorem pIn_tupS : pIn (.str x) (.tup (l.map D.str)) s = some (.bl (decide (x ∈ l)), s) := by
  unfold pIn inP
  simp only [allS, anyS]
  rfl
theorem pNotIn_tupS : pNotIn (.str x) (.tup (l.map D.str)) s = some (.bl (!decide (x ∈ l)), s) := by
  unfold pNotIn inP
  simp only [allS, anyS]
  rfl
theorem pIn_locS (h : s[k]? = some (.lst (l.map D.str))) : pIn (.str x) (.loc k) s = some (.bl (decide (x ∈ l)), s) := by
  unfold pIn inP
  simp only [h, allS, anyS]
  rfl
theorem pNotIn_locS (h : s[k]? = some (.lst (l.map D.str))) : pNotIn (.str x) (.loc k) s = some (.bl (!decide (x ∈ l)), s) := by
  unfold pNotIn inP
  simp only [h, allS, anyS]
  rfl
end
/-! ### texts that are texts -/
def sOk (x : Str) : Bool := x.cps.all (· < 0x110000)
theorem sOk_append {x y : Str} (h : sOk x = true) (h' : sOk y = true) : sOk (x ++ y) = true := by
  have e : (x ++ y).cps = x.cps ++ y.cps := rfl
  unfold sOk at *
  rw [e, Array.all_append, h, h']; rfl
mutual
/-- numbers, texts, tuples of them, at most n deep -/
def datS : Nat → D → Bool
  | _, .int _ => true
  | _, .str x => sOk x
  | n + 1, .tup xs => datSL n xs
  | _, _ => false
def datSL : Nat → List D → Bool
  | _, [] => true
  | n, x :: xs => datS n x && datSL n xs
end
theorem datSL_iff {n : Nat} : ∀ {xs : List D}, datSL n xs = true ↔ ∀ x ∈ xs, datS n x = true
  | [] => by simp [datSL]
  | x :: xs => by simp [datSL, datSL_iff (xs := xs)]
mutual
theorem datS_pd : ∀ (n : Nat) (d : D), datS n d = true → ∃ p, pd0 d = some p ∧ p.canLay0 = true ∧ p.depth ≤ n + 1
  | n, .int i, _ => ⟨.int i, by simp [pd0], rfl, by simp [PyData.depth]⟩
  | n, .str x, h => ⟨.str x, by simp [pd0], by cases n <;> exact h, by simp [PyData.depth]⟩
  | n + 1, .tup xs, h => by
    obtain ⟨ps, h1, h2, h3⟩ := datSL_pd n xs (by simpa [datS] using h)
    exact ⟨.tuple ps, by simp [pd0, h1], h2, by simp only [PyData.depth]; omega⟩
  | 0, .tup xs, h => by simp [datS] at h
  | n, .non, h => by cases n <;> simp [datS] at h
  | n, .bl _, h => by cases n <;> simp [datS] at h
  | n, .ro _, h => by cases n <;> simp [datS] at h
  | n, .loc _, h => by cases n <;> simp [datS] at h
  | n, .gl _, h => by cases n <;> simp [datS] at h
  | n, .ty _, h => by cases n <;> simp [datS] at h
theorem datSL_pd : ∀ (n : Nat) (ds : List D), datSL n ds = true → ∃ ps, pd0L ds = some ps ∧ PyData.canLayAll0 ps = true ∧ PyData.depthAll ps ≤ n + 1
  | n, [], _ => ⟨[], by simp [pd0L], rfl, by simp [PyData.depthAll]⟩
  | n, d :: ds, h => by
    simp only [datSL, Bool.and_eq_true] at h
    obtain ⟨p, h1, h2, h3⟩ := datS_pd n d h.1
    obtain ⟨ps, h4, h5, h6⟩ := datSL_pd n ds h.2
    refine ⟨p :: ps, by simp [pd0L, h1, h4], by simp [PyData.canLayAll0, h2, h5], ?_⟩
    simp only [PyData.depthAll]
    omega
end
mutual
theorem eqv_beq : ∀ (n m : Nat) (a b : D) {p q : PyData}, datS n a = true → datS m b = true → pd0 a = some p → pd0 b = some q → PyData.eqv p q = D.beq a b
  | n, m, .int i, .int j, p, q, _, _, h1, h2 => by simp [pd0] at h1 h2; subst h1 h2; simp [PyData.eqv, D.beq]
  | n, m, .int i, .str j, p, q, _, _, h1, h2 => by simp [pd0] at h1 h2; subst h1 h2; simp [PyData.eqv, D.beq]
  | n, m, .str i, .int j, p, q, _, _, h1, h2 => by simp [pd0] at h1 h2; subst h1 h2; simp [PyData.eqv, D.beq]
  | n, m, .str i, .str j, p, q, _, _, h1, h2 => by
    simp [pd0] at h1 h2; subst h1 h2
    simp only [PyData.eqv, D.beq]
    by_cases e : i = j <;> simp [e]
  | n + 1, m + 1, .tup xs, .tup ys, p, q, d1, d2, h1, h2 => by
    simp [pd0] at h1 h2
    obtain ⟨ps, e1, rfl⟩ := h1
    obtain ⟨qs, e2, rfl⟩ := h2
    simp only [PyData.eqv, D.beq]
    exact eqvL_beq n m xs ys (by simpa [datS] using d1) (by simpa [datS] using d2) e1 e2
  | n + 1, m, .tup xs, .int j, p, q, _, _, h1, h2 => by
    simp [pd0] at h1 h2; obtain ⟨ps, e1, rfl⟩ := h1; subst h2; simp [PyData.eqv, D.beq]
  | n + 1, m, .tup xs, .str j, p, q, _, _, h1, h2 => by
    simp [pd0] at h1 h2; obtain ⟨ps, e1, rfl⟩ := h1; subst h2; simp [PyData.eqv, D.beq]
  | n, m + 1, .int j, .tup xs, p, q, _, _, h1, h2 => by
    simp [pd0] at h1 h2; obtain ⟨ps, e1, rfl⟩ := h2; subst h1; simp [PyData.eqv, D.beq]
  | n, m + 1, .str j, .tup xs, p, q, _, _, h1, h2 => by
    simp [pd0] at h1 h2; obtain ⟨ps, e1, rfl⟩ := h2; subst h1; simp [PyData.eqv, D.beq]
  | 0, m, .tup xs, b, p, q, d1, _, _, _ => by simp [datS] at d1
  | n, 0, a, .tup xs, p, q, _, d2, _, _ => by simp [datS] at d2
  | n, m, .non, b, p, q, d1, _, _, _ => by cases n <;> simp [datS] at d1
  | n, m, .bl _, b, p, q, d1, _, _, _ => by cases n <;> simp [datS] at d1
  | n, m, .ro _, b, p, q, d1, _, _, _ => by cases n <;> simp [datS] at d1
  | n, m, .loc _, b, p, q, d1, _, _, _ => by cases n <;> simp [datS] at d1
  | n, m, .gl _, b, p, q, d1, _, _, _ => by cases n <;> simp [datS] at d1
  | n, m, .ty _, b, p, q, d1, _, _, _ => by cases n <;> simp [datS] at d1
  | n, m, a, .non, p, q, _, d2, _, _ => by cases m <;> simp [datS] at d2
  | n, m, a, .bl _, p, q, _, d2, _, _ => by cases m <;> simp [datS] at d2
  | n, m, a, .ro _, p, q, _, d2, _, _ => by cases m <;> simp [datS] at d2
  | n, m, a, .loc _, p, q, _, d2, _, _ => by cases m <;> simp [datS] at d2
  | n, m, a, .gl _, p, q, _, d2, _, _ => by cases m <;> simp [datS] at d2
  | n, m, a, .ty _, p, q, _, d2, _, _ => by cases m <;> simp [datS] at d2
theorem eqvL_beq : ∀ (n m : Nat) (as bs : List D) {ps qs : List PyData}, datSL n as = true → datSL m bs = true → pd0L as = some ps → pd0L bs = some qs → PyData.eqvAll ps qs = D.beqL as bs
  | n, m, [], [], ps, qs, _, _, h1, h2 => by simp [pd0L] at h1 h2; subst h1 h2; simp [PyData.eqvAll, D.beqL]
  | n, m, [], b :: bs, ps, qs, _, d2, h1, h2 => by
    obtain ⟨q, e1, _⟩ := datS_pd m b (by simp only [datSL, Bool.and_eq_true] at d2; exact d2.1)
    obtain ⟨qs', e2, _⟩ := datSL_pd m bs (by simp only [datSL, Bool.and_eq_true] at d2; exact d2.2)
    simp [pd0L, e1, e2] at h1 h2; subst h1 h2; simp [PyData.eqvAll, D.beqL]
  | n, m, a :: as, [], ps, qs, d1, _, h1, h2 => by
    obtain ⟨q, e1, _⟩ := datS_pd n a (by simp only [datSL, Bool.and_eq_true] at d1; exact d1.1)
    obtain ⟨qs', e2, _⟩ := datSL_pd n as (by simp only [datSL, Bool.and_eq_true] at d1; exact d1.2)
    simp [pd0L, e1, e2] at h1 h2; subst h1 h2; simp [PyData.eqvAll, D.beqL]
  | n, m, a :: as, b :: bs, ps, qs, d1, d2, h1, h2 => by
    simp only [datSL, Bool.and_eq_true] at d1 d2
    obtain ⟨p, e1, _⟩ := datS_pd n a d1.1
    obtain ⟨ps', e2, _⟩ := datSL_pd n as d1.2
    obtain ⟨q, e3, _⟩ := datS_pd m b d2.1
    obtain ⟨qs', e4, _⟩ := datSL_pd m bs d2.2
    simp [pd0L, e1, e2, e3, e4] at h1 h2
    subst h1 h2
    simp only [PyData.eqvAll, D.beqL]
    rw [eqv_beq n m a b d1.1 d2.1 e1 e3, eqvL_beq n m as bs d1.2 d2.2 e2 e4]
end
theorem shaped_of {n : Nat} {p : PyData} (h : p.canLay0 = true) (h2 : p.depth ≤ n + 1) (hn : n ≤ 62) : SeqAt.shaped p = true := by
  unfold SeqAt.shaped
  rw [h, decide_eq_true (by omega)]; rfl
/-- which of a list's items equal x -/
theorem any_eqv {n : Nat} {x : D} {p : PyData} (hx : datS n x = true) (ex : pd0 x = some p) : ∀ {ys : List D} {ps : List PyData}, datSL n ys = true → pd0L ys = some ps → (ps.any fun z => PyData.eqv z p) = ys.any fun y => D.beq y x
  | [], ps, _, h => by simp [pd0L] at h; subst h; rfl
  | y :: ys, ps, d, h => by
    simp only [datSL, Bool.and_eq_true] at d
    obtain ⟨q, e1, _⟩ := datS_pd n y d.1
    obtain ⟨qs, e2, _⟩ := datSL_pd n ys d.2
    simp [pd0L, e1, e2] at h
    subst h
    rw [List.any_cons, List.any_cons, eqv_beq n n y x d.1 hx e1 ex, any_eqv hx ex d.2 e2]
theorem beq_iff {a b : D} : D.beq a b = true ↔ a = b := ⟨D.beq_eq a b, fun h => h ▸ D.beq_refl a⟩
theorem any_beq {ys : List D} {x : D} : (ys.any fun y => D.beq y x) = true ↔ x ∈ ys := by
  rw [List.any_eq_true]
  constructor
  · rintro ⟨y, hy, e⟩; rw [← beq_iff.mp e]; exact hy
  · exact fun h => ⟨x, h, beq_iff.mpr rfl⟩
section
variable {s : Sto} {n k : Nat} {x y : D} {ys : List D}
theorem inP_data (h : s[k]? = some (.lst ys)) (hx : datS n x = true) (hy : datSL n ys = true) (hn : n ≤ 60) (hf : flatD x = false) : inP x (.loc k) s = some (ys.any fun y => D.beq y x) := by
  obtain ⟨p, e1, c1, d1⟩ := datS_pd n x hx
  obtain ⟨ps, e2, c2, d2⟩ := datSL_pd n ys hy
  unfold inP
  simp only [h, hf, Bool.false_eq_true, false_and, if_false, e1, e2]
  rw [if_pos ⟨shaped_of c1 d1 (by omega), shaped_of (p := .list ps) (n := n + 1) c2 (by simp only [PyData.depth]; omega) (by omega)⟩, any_eqv hx e1 hy e2]
theorem pIn_data (h : s[k]? = some (.lst ys)) (hx : datS n x = true) (hy : datSL n ys = true) (hn : n ≤ 60) (hf : flatD x = false) : pIn x (.loc k) s = some (.bl (ys.any fun y => D.beq y x), s) := by
  unfold pIn; rw [inP_data h hx hy hn hf]; rfl
theorem pNotIn_data (h : s[k]? = some (.lst ys)) (hx : datS n x = true) (hy : datSL n ys = true) (hn : n ≤ 60) (hf : flatD x = false) : pNotIn x (.loc k) s = some (.bl (!(ys.any fun y => D.beq y x)), s) := by
  unfold pNotIn; rw [inP_data h hx hy hn hf]; rfl
end
theorem pd_tup {xs : List D} {s : Sto} : pd (.tup xs) s = pd0 (.tup xs) := by
  first | rfl | (unfold pd; rfl)
theorem pEq_tups {xs ys : List D} {s : Sto} {n : Nat} (hx : datS n (.tup xs) = true) (hy : datS n (.tup ys) = true) (hn : n ≤ 60) : pEq (.tup xs) (.tup ys) s = some (.bl (D.beqL xs ys), s) ∧ pNe (.tup xs) (.tup ys) s = some (.bl (!D.beqL xs ys), s) := by
  obtain ⟨p, e1, c1, d1⟩ := datS_pd n _ hx
  obtain ⟨q, e2, c2, d2⟩ := datS_pd n _ hy
  have e : eqP (.tup xs) (.tup ys) s = some (D.beqL xs ys) := by
    unfold eqP
    simp only [scalD, pd_tup, e1, e2]
    rw [if_pos ⟨shaped_of c1 d1 (by omega), shaped_of c2 d2 (by omega)⟩, eqv_beq n n _ _ hx hy e1 e2]
    rfl
  unfold pEq pNe
  rw [e]
  exact ⟨rfl, rfl⟩
theorem map_toNat_inj : ∀ {a b : List Char}, a.map Char.toNat = b.map Char.toNat → a = b
  | [], [], _ => rfl
  | [], _ :: _, h => by simp at h
  | _ :: _, [], h => by simp at h
  | x :: xs, y :: ys, h => by
    simp only [List.map_cons, List.cons.injEq] at h
    rw [Char.toNat_inj.mp h.1, map_toNat_inj h.2]
theorem ofString_inj {a b : String} : (Str.ofString a = Str.ofString b) = (a = b) := by
  refine propext ⟨fun h => ?_, fun h => by rw [h]⟩
  rw [Str.ofString_eq_toList, Str.ofString_eq_toList] at h
  have h2 : (a.toList.map Char.toNat).toArray = (b.toList.map Char.toNat).toArray := congrArg Str.cps h
  have h3 : a.toList.map Char.toNat = b.toList.map Char.toNat := congrArg Array.toList h2
  exact String.toList_inj.mp (map_toNat_inj h3)
theorem pIn_tup2 {s : Sto} {x a b : Str} : pIn (.str x) (.tup [.str a, .str b]) s = some (.bl (decide (x ∈ [a, b])), s) := pIn_tupS (l := [a, b])
theorem pIn_lst2 {s : Sto} {k : Nat} {x a b : Str} (h : s[k]? = some (.lst [.str a, .str b])) : pIn (.str x) (.loc k) s = some (.bl (decide (x ∈ [a, b])), s) := pIn_locS (l := [a, b]) h
theorem pNotIn_lst2 {s : Sto} {k : Nat} {x a b : Str} (h : s[k]? = some (.lst [.str a, .str b])) : pNotIn (.str x) (.loc k) s = some (.bl (!decide (x ∈ [a, b])), s) := pNotIn_locS (l := [a, b]) h
/-- a fresh list that holds xs; nothing that stood has changed -/
def FL (s : Sto) (xs : List D) (d : D) (s' : Sto) : Prop := ∃ (t : Sto) (l : Nat), s' = s ++ t ∧ d = .loc l ∧ s.length ≤ l ∧ s'[l]? = some (.lst xs)
theorem FL.gc {s s' : Sto} {xs : List D} {d : D} (h : FL s xs d s') : (gc s (.ok d s')).to (FL s xs) NoX := by
  refine gc_both h fun hc => ?_
  obtain ⟨t, l, _, rfl, hl, _⟩ := h
  simp [D.cl] at hc
  omega
theorem for_nil {g : GM} {b : SM} {P : Post} {E : Ev} {s : Sto} : (forS g b (.fix []) E s).to P = P.nx E s := rfl
theorem for_cons {g : GM} {b : SM} {P : Post} {d : D} {ds : List D} {E : Ev} {s : Sto} : (forS g b (.fix (d :: ds)) E s).to P = (g d E s).to (fun E1 s1 => (b E1 s1).to { P with nx := fun E2 s2 => (forS g b (.fix ds) E2 s2).to P, ct := fun E2 s2 => (forS g b (.fix ds) E2 s2).to P, bk := P.nx }) NoX := turn_to (k := forL g b ds)
theorem mExt_FL {s t S' : Sto} {X Z : List D} {d : D} (h : FL (s ++ .lst X :: t) Z d S') (hz : X.length + Z.length ≤ sizeLine) : ∃ t', mExtend (.loc s.length) [d] S' = some (.non, s ++ .lst (X ++ Z) :: t') := by
  obtain ⟨t1, l, rfl, rfl, hl, hg⟩ := h
  have h0 : ((s ++ .lst X :: t) ++ t1)[s.length]? = some (.lst X) := by rw [List.append_assoc]; simp
  refine ⟨t ++ t1, ?_⟩
  rw [mExtend_ap h0 hg, if_pos hz]
  simp
theorem pAdd_loc {s : Sto} {i j : Nat} {xs ys : List D} (h : s[i]? = some (.lst xs)) (h2 : s[j]? = some (.lst ys)) (hl : xs.length + ys.length ≤ sizeLine) : pAdd (.loc i) (.loc j) s = some (.loc s.length, s ++ [.lst (xs ++ ys)]) := by
  unfold pAdd
  simp only [h, h2, if_pos hl]
/-- the sum of a list that stands and a fresh one -/
theorem pAdd_FL {s S' : Sto} {i : Nat} {X Z : List D} {d : D} (h0 : s[i]? = some (.lst X)) (h : FL s Z d S') (hz : X.length + Z.length ≤ sizeLine) : ∃ t, pAdd (.loc i) d S' = some (.loc (s ++ t).length, (s ++ t) ++ [.lst (X ++ Z)]) ∧ S' = s ++ t := by
  obtain ⟨t1, l, rfl, rfl, hl, hg⟩ := h
  have hi := (List.getElem?_eq_some_iff.mp h0).1
  exact ⟨t1, pAdd_loc (by rw [get_lt hi]; exact h0) hg hz, rfl⟩
end Y

set_option Elab.async false
set_option linter.all false
set_option maxRecDepth 100000
set_option maxHeartbeats 4000000
/-! Y25: sums of forms: the law's and the program's. -/
namespace Y
open PySem L2
/-- the parts of a sum: a factor, a form -/
abbrev Part := Int × Int × Ps
def partD (q : Part) : D := .tup [.int q.1, fD q.2.1 q.2.2]
def partsC (l : List Part) : Int := (l.map fun q => q.1 * q.2.1).sum
def partsP (l : List Part) : Ps := l.flatMap fun q => q.2.2.map fun p => (p.1, q.1 * p.2)
theorem partsC_snoc {l : List Part} {q : Part} : partsC (l ++ [q]) = partsC l + q.1 * q.2.1 := by unfold partsC; simp
theorem partsP_snoc {l : List Part} {q : Part} : partsP (l ++ [q]) = partsP l ++ q.2.2.map fun p => (p.1, q.1 * p.2) := by unfold partsP; simp
theorem partD_at {l : List Part} {n : Nat} {d : D} (h : (l.map partD)[n]? = some d) : ∃ q, l[n]? = some q ∧ d = partD q := by
  rw [List.getElem?_map] at h
  cases e : l[n]? with
  | none => rw [e] at h; cases h
  | some p => rw [e] at h; cases h; exact ⟨p, rfl, rfl⟩
def mSum (T : Pg) (k : Nat) : SM :=
  (sCons (sSet 1 (eC (.int 0)))
  (sCons (sSet 2 (eA mkLst aNil))
  (sCons (sFor (iVal (eVar 0)) (gTp 2 (gsCons (gNm 3) (gsCons (gNm 4) gsNil))) (sCons (sSet 1 (eBin (pBin .Add) (eVar 1) (eBin (pBin .Mult) (eVar 3) (eBin pIx (eVar 4) (eC (.int 0))))))
  (sCons (sFor (iVal (eBin pIx (eVar 4) (eC (.int 1)))) (gTp 2 (gsCons (gNm 5) (gsCons (gNm 6) gsNil))) (sCons (sExpr (eMeth "append" (eVar 2) (aCons (eA mkTup (aCons (eVar 5) (aCons (eBin (pBin .Mult) (eVar 3) (eVar 6)) aNil))) aNil)))
  sNil))
  sNil)))
  (sCons (sRet (eCall 2 (callP T k "_law_form") (aCons (eVar 1) (aCons (eVar 2) aNil))))
  sNil))))
def LSum (T : Pg) : Prop := ∀ {k a s}, callP T (k + 1) "_law_sum" [a] s = gc s (resS (mSum T k [some a, none, none, none, none, none, none] s))
section
variable {T : Pg} (S : LSum T) (L : LForm T)
include S L
theorem sum_ok {k : Nat} {d : D} {l : List Part} {s : Sto} {NM : List Str} (hs : seqD d s = some (l.map partD)) (hN : ∀ q ∈ l, ∀ p ∈ q.2.2, p.1 ∈ NM) (hM : NM.length < 60) (hl : l.length < 10) (hp : (partsP l).length < 900)
    (hq : ∀ q ∈ l, sm q.1 ∧ Sm q.2.1 q.2.2) : callP T (k + 2) "_law_sum" [d] s = .ok (fD (partsC l) (formL (partsP l))) s := by
  rw [S]
  refine gc_pure fD_cl ?_
  obtain ⟨src, e1, loop⟩ := forSeq (seqD_app (t := [.lst []]) hs)
  have z0 : 0 ≤ sizeLine := Nat.zero_le _
  have z2 : 2 ≤ sizeLine := sz' (by decide)
  unfold mSum
  simp [e1, z0]
  have names : ∀ p ∈ partsP l, p.1 ∈ NM := fun p hp => by
    obtain ⟨q, hq, hp⟩ := List.mem_flatMap.mp hp
    obtain ⟨r, hr, rfl⟩ := List.mem_map.mp hp
    exact hN q hq r hr
  have plen : ∀ n, (partsP (l.take n)).length ≤ (partsP l).length := fun n => by
    have : partsP l = partsP (l.take n) ++ partsP (l.drop n) := by unfold partsP; rw [← List.flatMap_append, List.take_append_drop]
    rw [this, List.length_append]; omega
  refine loop (fun n E s1 => ∃ o1 o2 o3 o4, E = [some d, some (.int (partsC (l.take n))), some (.loc s.length), o1, o2, o3, o4] ∧ s1 = s ++ [.lst ((partsP (l.take n)).map pD)]) (by rw [List.length_map]; unfold fuelMax; omega) ?_ ?_ ?_ ?_
  · rintro n E s1 ⟨o1, o2, o3, o4, rfl, rfl⟩
    exact seqD_app hs
  · exact ⟨none, none, none, none, by simp [partsC], by simp [partsP]⟩
  · rintro n d' E s1 hd ⟨o1, o2, o3, o4, rfl, rfl⟩
    obtain ⟨⟨z, c, qs⟩, hp', rfl⟩ := partD_at hd
    have hm := List.mem_of_getElem? hp'
    obtain ⟨q1, q2⟩ := hq _ hm
    simp only at q1 q2
    have hc : partsC (l.take (n + 1)) = partsC (l.take n) + z * c := by rw [List.take_add_one, hp']; exact partsC_snoc
    have hP : partsP (l.take (n + 1)) = partsP (l.take n) ++ qs.map fun p => (p.1, z * p.2) := by rw [List.take_add_one, hp']; exact partsP_snoc
    have hl2 := plen (n + 1)
    rw [hP, List.length_append, List.length_map] at hl2
    simp [partD, fD, sm_mul q1 q2.1]
    refine forFix (fun m E s1 => ∃ o3 o4, E = [some d, some (.int (partsC (l.take n) + z * c)), some (.loc s.length), some (.int z), some (.tup [.int c, .tup (qs.map pD)]), o3, o4] ∧ s1 = s ++ [.lst ((partsP (l.take n) ++ (qs.take m).map fun p => (p.1, z * p.2)).map pD)]) ?_ ?_ ?_
    · exact ⟨o3, o4, rfl, by simp⟩
    · rintro m d2 E s1 hd2 ⟨o3, o4, rfl, rfl⟩
      obtain ⟨x, w, hpq, rfl⟩ := pD_at hd2
      have hw := q2.2 _ (List.mem_of_getElem? hpq)
      have hm2 : m < qs.length := (List.getElem?_eq_some_iff.mp hpq).1
      generalize hX : ((partsP (l.take n) ++ (qs.take m).map fun p => (p.1, z * p.2)).map pD) = X
      have hXl : X.length < 1000 := by rw [← hX]; simp; omega
      have hst : ((partsP (l.take n) ++ (qs.take (m + 1)).map fun p => (p.1, z * p.2)).map pD) = X ++ [pD (x, z * w)] := by
        rw [← hX, List.take_add_one, hpq]; simp
      rw [hst]
      simp [meth_append (xs := X), mAppend_ap (xs := X), sm_mul q1 hw, z2, sz hXl, pD]
    · rintro E s1 ⟨o3, o4, rfl, rfl⟩
      rw [ldl, List.take_length, hc, hP]
      simp
  · rintro E s1 ⟨o1, o2, o3, o4, rfl, rfl⟩
    rw [List.length_map, List.take_length]
    simp
    rw [law_form_ok L (ps := partsP l) (by simp) names hM (by omega)]
    simp
end
/-- a form: its number, its names with numbers -/
abbrev Fm := Int × Ps
def Fm.d (f : Fm) : D := fD f.1 f.2
def lsum (l : List Part) : Fm := (partsC l, formL (partsP l))
/-- a form in order, over the names NM, with numbers up to B -/
structure GF (NM : List Str) (B : Nat) (f : Fm) : Prop where
  can : formL f.2 = f.2
  c : f.1.natAbs ≤ B
  nm : ∀ p ∈ f.2, p.1 ∈ NM
  v : ∀ p ∈ f.2, p.2.natAbs ≤ B
theorem formL_formL {ps : Ps} : formL (formL ps) = formL ps := formL_congr fun x => co_formL
theorem GF.len {NM : List Str} {B : Nat} {f : Fm} (h : GF NM B f) : f.2.length ≤ NM.length := by rw [← h.can]; exact formL_len h.nm
theorem GF.cb {NM : List Str} {B : Nat} {f : Fm} (h : GF NM B f) (x : Str) : (co f.2 x).natAbs ≤ B := by
  by_cases h0 : co f.2 x = 0
  · rw [h0]; simp
  · have := ((formL_canon f.2).mem x (co f.2 x)).mpr ⟨rfl, h0⟩
    rw [h.can] at this
    exact h.v _ this
theorem GF.sm {NM : List Str} {B : Nat} {f : Fm} (h : GF NM B f) (hB : B < 10 ^ 100) : Sm f.1 f.2 :=
  ⟨sm_of h.c (Nat.lt_trans hB (by decide +kernel)), fun p hp => sm_of (h.v p hp) (Nat.lt_trans hB (by decide +kernel))⟩
theorem lsum2 {NM : List Str} {B : Nat} {f g : Fm} {a b : Int} (hf : GF NM B f) (hg : GF NM B g) (ha : a.natAbs ≤ 2) (hb : b.natAbs ≤ 2) : GF NM (4 * B) (lsum [(a, f), (b, g)]) := by
  have hco : ∀ x, co (partsP [(a, f), (b, g)]) x = a * co f.2 x + b * co g.2 x := fun x => by
    simp only [partsP, List.flatMap_cons, List.flatMap_nil, List.append_nil, co_append, co_mul]
  have bound : ∀ (u v : Int), u.natAbs ≤ B → v.natAbs ≤ B → (a * u + b * v).natAbs ≤ 4 * B := fun u v hu hv => by
    have h1 : (a * u).natAbs ≤ 2 * B := by rw [Int.natAbs_mul]; exact Nat.mul_le_mul ha hu
    have h2 : (b * v).natAbs ≤ 2 * B := by rw [Int.natAbs_mul]; exact Nat.mul_le_mul hb hv
    omega
  refine ⟨formL_formL, ?_, formL_names fun p hp => ?_, fun p hp => ?_⟩
  · have : partsC [(a, f), (b, g)] = a * f.1 + b * g.1 := by simp [partsC]
    show (partsC [(a, f), (b, g)]).natAbs ≤ _
    rw [this]; exact bound _ _ hf.c hg.c
  · simp only [partsP, List.flatMap_cons, List.flatMap_nil, List.append_nil, List.mem_append, List.mem_map] at hp
    rcases hp with ⟨q, hq, rfl⟩ | ⟨q, hq, rfl⟩
    · exact hf.nm q hq
    · exact hg.nm q hq
  · have := ((formL_canon (partsP [(a, f), (b, g)])).mem p.1 p.2).mp hp
    rw [this.1, hco]
    exact bound _ _ (hf.cb _) (hg.cb _)
theorem lsum1 {NM : List Str} {B : Nat} {f : Fm} {a : Int} (hf : GF NM B f) (ha : a.natAbs ≤ 2) : GF NM (4 * B) (lsum [(a, f)]) := by
  have h := lsum2 (b := 0) hf hf ha (by decide)
  have e : lsum [(a, f), (0, f)] = lsum [(a, f)] := by
    unfold lsum
    congr 1
    · simp [partsC]
    · exact formL_congr fun x => by simp only [partsP, List.flatMap_cons, List.flatMap_nil, List.append_nil, co_append, co_mul]; simp
  rwa [e] at h
theorem GF.mono {NM : List Str} {B B' : Nat} {f : Fm} (h : GF NM B f) (hb : B ≤ B') : GF NM B' f := ⟨h.can, Nat.le_trans h.c hb, h.nm, fun p hp => Nat.le_trans (h.v p hp) hb⟩
section
variable {T : Pg} {k : Nat} {s : Sto} {NM : List Str} {B : Nat} {f g : Fm}
theorem minus_l (G : FormLib T) (hf : GF NM B f) (hg : GF NM B g) (hB : B < 10 ^ 100) (hM : NM.length < 60) : callP T (k + 3) "minus" [f.d, g.d] s = .ok (lsum [(1, f), (-1, g)]).d s := by
  have := G.minus_ok (k := k) (c := f.1) (c' := g.1) (ps := f.2) (ps' := g.2) (s := s) hf.nm hg.nm hM (by rw [hg.can]; exact hg.sm hB)
  rw [hf.can, hg.can] at this
  have e : lsum [(1, f), (-1, g)] = (f.1 + -1 * g.1, formL (f.2 ++ g.2.map fun p => (p.1, -1 * p.2))) := by
    unfold lsum; simp [partsC, partsP]
  rw [e]; exact this
theorem plus_l (G : FormLib T) (hf : GF NM B f) (hg : GF NM B g) (hM : NM.length < 60) : callP T (k + 2) "plus" [f.d, g.d] s = .ok (lsum [(1, f), (1, g)]).d s := by
  have := G.plus_ok (k := k) (c := f.1) (c' := g.1) (ps := f.2) (ps' := g.2) (s := s) hf.nm hg.nm hM
  rw [hf.can, hg.can] at this
  have e : lsum [(1, f), (1, g)] = (f.1 + g.1, formL (f.2 ++ g.2)) := by
    unfold lsum; simp [partsC, partsP]
  rw [e]; exact this
theorem times_l (G : FormLib T) {a : Int} (hf : GF NM B f) (ha : a.natAbs ≤ 2) (ha0 : a ≠ 0) (hB : B < 10 ^ 100) (hM : NM.length < 60) : callP T (k + 1) "times" [.int a, f.d] s = .ok (lsum [(a, f)]).d s := by
  have hl := hf.len
  have := G.times_ok (k := k) (z := a) (c := f.1) (qs := f.2) (s := s) (sm_of ha (by decide +kernel)) (hf.sm hB) (by omega)
  have e : lsum [(a, f)] = (a * f.1, formL (f.2.map fun p => (p.1, a * p.2))) := by
    unfold lsum; simp [partsC, partsP]
  rw [timesL, if_neg ha0, ← hf.can, formL_mul ha0] at this
  rw [e]
  have q : Fm.d f = fD f.1 (formL f.2) := by unfold Fm.d; rw [hf.can]
  rw [q]; exact this
theorem sum2_l (S : LSum T) (L : LForm T) {d : D} {a b : Int} (hs : seqD d s = some [partD (a, f), partD (b, g)]) (hf : GF NM B f) (hg : GF NM B g) (ha : a.natAbs ≤ 2) (hb : b.natAbs ≤ 2) (hB : B < 10 ^ 100) (hM : NM.length < 60) :
    callP T (k + 2) "_law_sum" [d] s = .ok (lsum [(a, f), (b, g)]).d s := by
  have h1 := hf.len
  have h2 := hg.len
  refine sum_ok S L (l := [(a, f), (b, g)]) (NM := NM) hs (fun q hq p hp => ?_) hM (by simp) (by simp [partsP]; omega) (fun q hq => ?_)
  · simp only [List.mem_cons, List.not_mem_nil, or_false] at hq
    rcases hq with rfl | rfl
    · exact hf.nm p hp
    · exact hg.nm p hp
  · simp only [List.mem_cons, List.not_mem_nil, or_false] at hq
    rcases hq with rfl | rfl
    · exact ⟨sm_of ha (by decide +kernel), hf.sm hB⟩
    · exact ⟨sm_of hb (by decide +kernel), hg.sm hB⟩
theorem sum1_l (S : LSum T) (L : LForm T) {d : D} {a : Int} (hs : seqD d s = some [partD (a, f)]) (hf : GF NM B f) (ha : a.natAbs ≤ 2) (hB : B < 10 ^ 100) (hM : NM.length < 60) :
    callP T (k + 2) "_law_sum" [d] s = .ok (lsum [(a, f)]).d s := by
  have h1 := hf.len
  refine sum_ok S L (l := [(a, f)]) (NM := NM) hs (fun q hq p hp => ?_) hM (by simp) (by simp [partsP]; omega) (fun q hq => ?_)
  · simp only [List.mem_cons, List.not_mem_nil, or_false] at hq
    subst hq
    exact hf.nm p hp
  · simp only [List.mem_cons, List.not_mem_nil, or_false] at hq
    subst hq
    exact ⟨sm_of ha (by decide +kernel), hf.sm hB⟩
end
end Y

set_option Elab.async false
set_option linter.all false
/-! Y26: exception classes of the program. -/
namespace Y
open PySem L2
theorem exOk_mk {K : PySem.W.Frag} {mg : Str → Option Value} {x : Str} {C : Addr} (g : mg x = some (.ref C)) (q : PySem.W.excIn K C [.type "ValueError", .type "Exception", .type "BaseException", .type "object"] "ValueError.__new__" = true) (k : PySem.W.keepIn K (.ref C) = true) (s : PySem.W.subIn K (.ref C) (.type "BaseException") = some true) (t : PySem.W.typeIn K (.ref C) = some (.type "type")) : ExOk K mg x := ⟨C, g, q, k, s, t⟩
theorem subOk_mk {K : PySem.W.Frag} {mg : Str → Option Value} {x y : Str} {b : Bool} {C D : Addr} (gx : mg x = some (.ref C)) (gy : mg y = some (.ref D)) (E : ExcC K C) (h1 : PySem.W.subIn K (.ref D) (.type "BaseException") = some true) (hd : PySem.W.hasDictIn K D = true) (ht : PySem.W.typeIn K (.ref D) = some (.type "type")) (h4 : PySem.W.subIn K (.ref C) (.ref D) = some b) (hn : b = true ∨ (Value.ref C == Value.ref D) = false) : SubOk K mg x y b := by
  have e := PySem.W.exm_ref h1 hd ht h4
  refine ⟨C, D, gx, gy, e, ?_, E⟩
  have e2 : PySem.W.kitCls K (.ref C) (.ref D) = some b := by
    unfold PySem.W.exmOne at e
    split at e
    · exact e
    · cases e
  unfold PySem.W.kitOne
  split
  · rename_i c
    rcases hn with rfl | hn
    · rfl
    · rw [hn] at c; cases c
  · exact e2
end Y

set_option Elab.async false
set_option linter.all false
set_option maxRecDepth 100000
set_option maxHeartbeats 4000000
/-! Y27: how classes run. -/
namespace Y
open PySem L2
theorem callM' {T : Pg} {k : Nat} {x : Str} {d : Df} {args : List D} {s : Sto} {m : SM} (h : T.look x = some d) (hb : dB (T.ctx k) d.sx fuelD (defBody d.st) = m) : callP T (k + 1) x args s = gc s (resS (m (startE d.N args) s)) := by
  rw [callP_succ' h]
  unfold runB
  rw [hb]
section
variable {K : PySem.W.Frag} {mg : Str → Option Value} {c m q : Str} {n : Nat} {d : Df} {dd : List D} {C f : Addr} {dvs : List V} {oc : Value} {od : Option Addr} {sl : Array (Option Value)} {dV kV doc pm cdv ct : Value} {an : Option Addr}
theorem MOk.dfl (h : mg c = some (.ref C)) (hn : m ≠ "__init__") (cl : Cls K C) (mt : Meth K C m f) (F : MFun K m q d.st f (PySem.W.fnOf m q (defArgs d.st) (defBody d.st) (defScope d.st) dV kV doc pm an cdv ct))
    (l : K.lookup f = some ⟨oc, od, .func (PySem.W.fnOf m q (defArgs d.st) (defBody d.st) (defScope d.st) dV kV doc pm an cdv ct), sl⟩) (cc : PySem.W.codeIn K cdv q = true) (kp : PySem.W.keepIn K (.ref f) = true) (D : DflV K dV dvs) (i j : Nat) (hd : dvs ≠ []) (hi : i + (dvs.length - j) = d.ps.length)
    (hb : ∀ (T : Addr) (kV doc pm : Value) (an : Option Addr) (cdv ct : Value) (us its : List Value), us.length = i → its.length = dvs.length →
      ∃ k, bindArgs (PySem.W.fnOf m q (defArgs d.st) (defBody d.st) (defScope d.st) (.ref T) kV doc pm an cdv ct) ⟨us, []⟩ = seqItems? (.ref T) >>= k ∧ k (some its.toArray) = pure (d.ps.zip (us ++ its.drop j)))
    (hr : ∀ ρ n H, RpL ⟨K, mg⟩ ρ n H (dvs.drop j) dd) (hl : d.ps.length = n + 1 + dd.length) (S : FnScope d.N d.ps (defScope d.st)) : MOk K mg c m n d dd := by
  have FD : FunD K m q (defArgs d.st) (defBody d.st) (defScope d.st) dvs [] f _ := ⟨⟨oc, od, dV, kV, doc, pm, an, cdv, ct, sl, rfl, l, cc, D, .inl rfl⟩, kp⟩
  obtain ⟨ds, hv, hbb⟩ := FD.binds1 i j hd hi hb
  exact ⟨C, f, q, _, dvs.drop j, ds, h, fun e => absurd e hn, fun _ => ⟨cl, mt⟩, F, hbb, hv, hr, hl, S⟩
end
section
variable {E : Ev} {s : Sto}
@[simp] theorem eFld_ap {fld : Str → Str → Bool} {f : Str} {m : EM D} : eFld fld f m E s = (m E s).bind fun d s1 => .ofO ((fldD fld f d s1).map fun v => (v, s1)) := by
  unfold eFld
  congr 1
  funext d s1
  cases fldD fld f d s1 <;> rfl
theorem fldD_ins {fld : Str → Str → Bool} {f c : Str} {k : Nat} {fs : List (Str × D)} {v : D} (h : s[k]? = some (.ins c fs)) (hf : fld c f = true) (hl : List.lookup f fs = some v) : fldD fld f (.loc k) s = some v := by
  unfold fldD
  simp only [h, hf, hl, if_true]
theorem setFD_ins {fld : Str → Str → Bool} {f c : Str} {k : Nat} {fs : List (Str × D)} {d : D} (h : s[k]? = some (.ins c fs)) (hf : fld c f = true) (hl : fs.length < 1000) : setFD fld f (.loc k) d s = some (s.set k (.ins c (putD f d fs))) := by
  unfold setFD
  simp only [h, hf, hl, and_self, if_true]
@[simp] theorem eMethI_ap {mth : MthT} {m : Str} {n : Nat} {o : EM D} {a : EM (List D)} : eMethI mth m n o a E s = (o E s).bind fun x s1 => match mthF mth m n x s1 with
  | some (dd, F) => (a E s1).bind fun ds s2 => if ds.length = n then F (x :: (ds ++ dd)) s2 else .err
  | none => .err := rfl
theorem mthF_ins {mth : MthT} {m c : Str} {n k : Nat} {fs : List (Str × D)} {r : Option (List D × (List D → Sto → Res D))} (h : s[k]? = some (.ins c fs)) (hl : List.lookup m fs = none) (hm : mth c m n = r) : mthF mth m n (.loc k) s = r := by
  unfold mthF
  simp only [h, hl, if_true, hm]
def mkR (l : Nat) : D → Sto → Res D
  | .non, s => .ok (.loc l) s
  | _, _ => .err
@[simp] theorem mkR_non {l : Nat} : mkR l .non s = .ok (.loc l) s := rfl
@[simp] theorem eMake_ap {c : Str} {n : Nat} {dd : List D} {F : List D → Sto → Res D} {a : EM (List D)} : eMake c n dd F a E s = (a E s).bind fun ds s1 => if ds.length = n then (F (.loc s1.length :: (ds ++ dd)) (s1 ++ [.ins c []])).bind (mkR s1.length) else .err := by
  unfold eMake
  congr 1
  funext ds s1
  congr 1
  congr 1
  funext v s2
  cases v <;> rfl
@[simp] theorem iEnumF_ap {m : EM (List D)} : iEnumF m E s = (m E s).bind fun ds s1 => .ok (.fix (enumD ds)) s1 := rfl
theorem fSplit_ap {o a : EM D} : fSplit o a E s = (o E s).bind fun d s1 => match d with
  | .str x => (a E s1).bind fun e s2 => match e with
    | .str y => if (y.length == 0) = false ∧ x.length + 2 ≤ sizeLine then .ok ((Txt.split x y).map .str) s2 else .err
    | _ => .err
  | _ => .err := rfl
theorem st_fld {fld : Str → Str → Bool} {f : Str} {o m : EM D} {P : Post} : (sFldM fld f o m E s).to P = (m E s).to (fun d s1 => (o E s1).to (fun x s2 => (Res.ofO ((setFD fld f x d s2).map fun s3 => ((), s3))).to (fun _ s3 => P.nx E s3) NoX) (fun x s1 => P.exc x E s1)) (fun x s1 => P.exc x E s1) := by
  unfold sFldM
  rw [st_exprS]
  congr 1
  funext d s1
  rw [st_exprS]
  congr 1
  funext x s2
  cases setFD fld f x d s2 <;> rfl
theorem st_fldaug {fld : Str → Str → Bool} {f : Str} {op : Operator} {o m : EM D} {P : Post} : (sFldAugM fld f op o m E s).to P = (o E s).to (fun x s1 => ∃ v, fldD fld f x s1 = some v ∧ (m E s1).to (fun y s2 => ∃ d s3 s4, pInp op v y s2 = some (d, s3) ∧ setFD fld f x d s3 = some s4 ∧ clsD x s1 = clsD x s3 ∧ P.nx E s4) (fun x s1 => P.exc x E s1)) (fun x s1 => P.exc x E s1) := by
  unfold sFldAugM
  rw [st_exprS]
  congr 1
  funext x s1
  cases fldD fld f x s1 with
  | none => simp
  | some v =>
    simp only [st_exprS, Option.some.injEq, exists_eq_left']
    congr 1
    funext y s2
    cases pInp op v y s2 with
    | none => simp
    | some q =>
      obtain ⟨d, s3⟩ := q
      simp only
      cases h2 : setFD fld f x d s3 with
      | none => simp [h2]
      | some s4 =>
        simp only [Option.some.injEq, Prod.mk.injEq]
        by_cases h : clsD x s1 = clsD x s3
        · simp only [if_pos h, st_nx]
          refine propext ⟨fun z => ⟨d, s3, s4, ⟨rfl, rfl⟩, h2, h, z⟩, ?_⟩
          rintro ⟨d', s3', s4', ⟨rfl, rfl⟩, e2, _, z⟩
          rw [h2] at e2
          cases e2
          exact z
        · simp only [if_neg h, st_err]
          refine propext ⟨fun z => z.elim, ?_⟩
          rintro ⟨d', s3', s4', ⟨rfl, rfl⟩, e2, z, _⟩
          exact h z
@[simp] theorem st_tryQ {b : SM} {P : Post} : (sTryQ b E s).to P = (b E s).to { P with exc := fun _ _ _ => False } := by
  unfold sTryQ
  cases b E s <;> rfl
end
end Y

set_option Elab.async false
set_option linter.all false
set_option maxRecDepth 100000
set_option maxHeartbeats 0
namespace K64
open PySem L2 Y
def top (i : Nat) : Stmt := PySem.Challenge.pw_testsenough_k64_great_numbers_in_tests.main.body.getD i (.Pass ⟨0, 0, 0, 0⟩)
def c_LETTERS : D := (.str "abcdefghijklmnopqrstuvwxyz")
def c_DIGITS : D := (.str "0123456789")
def c_PAIRS : D := (.tup [(.str "<="), (.str ">="), (.str "=="), (.str "!="), (.str "//")])
def c_SINGLES : D := (.str "<>+-*()[]{},.:=#@")
def c_MOST_TOKENS : D := (.int (40))
def c_MOST_DIGITS : D := (.int (6))
def c_MOST_SIGNS : D := (.int (16))
def c_RESERVED : D := (.tup [(.str "record"), (.str "field"), (.str "end"), (.str "proc"), (.str "gives"), (.str "int"), (.str "local"), (.str "need"), (.str "hint"), (.str "ensure"), (.str "try"), (.str "set"), (.str "push"), (.str "to"), (.str "pop"), (.str "from"), (.str "if"), (.str "else"), (.str "while"), (.str "call"), (.str "give"), (.str "pause"), (.str "not"), (.str "and"), (.str "or"), (.str "mod"), (.str "result")])
def c_BASE : D := (.int (10000000000000000000000000000000000000000000000000000000000000000))
def d_run_end : Df := ⟨["line", "start", "signs"], ["line", "start", "signs", "end"], top 13⟩
def d_word_at : Df := ⟨["line", "start"], ["line", "start", "word"], top 14⟩
def d_number_at : Df := ⟨["line", "start"], ["line", "start", "end", "digits"], top 15⟩
def d_token_at : Df := ⟨["line", "start"], ["line", "start"], top 16⟩
def d_tokens_of : Df := ⟨["line"], ["line", "found", "index", "token"], top 17⟩
def d_read_signed : Df := ⟨["cursor"], ["cursor"], top 20⟩
def d_read_value : Df := ⟨["cursor"], ["cursor", "found"], top 21⟩
def d_write_integer : Df := ⟨["n"], ["n", "chunks", "low"], top 24⟩
def d_write_value : Df := ⟨["value"], ["value", "item"], top 26⟩
def d_read_arguments : Df := ⟨["cursor"], ["cursor", "found"], top 28⟩
def d_read_row : Df := ⟨["cursor"], ["cursor", "found"], top 29⟩
def d_read_test : Df := ⟨["cursor"], ["cursor", "name", "args", "results", "arrays"], top 30⟩
def d_is_plain : Df := ⟨["test"], ["test", "one"], top 31⟩
def d_read_tests : Df := ⟨["text"], ["text", "found", "number", "line", "cursor"], top 32⟩
def d_write_test : Df := ⟨["test"], ["test", "name", "args", "results", "arrays", "text", "one"], top 33⟩
def d_write_tests : Df := ⟨["tests"], ["tests", "test"], top 34⟩
def d__law_start : Df := ⟨["script"], ["script"], top 36⟩
def d__law_draw : Df := ⟨["state", "most"], ["state", "most", "found", "cell", "mixed"], top 37⟩
def d__law_words : Df := ⟨["state", "many"], ["state", "many", "letters", "start", "step", "shared", "k"], top 38⟩
def d__law_is_int : Df := ⟨["x"], ["x"], top 39⟩
def d__law_same : Df := ⟨["x", "y"], ["x", "y", "k"], top 40⟩
def d__law_figures_of : Df := ⟨["number"], ["number", "left", "found", "turn", "low"], top 41⟩
def d__law_long_number : Df := ⟨["state", "most"], ["state", "most", "number", "turn"], top 42⟩
def d_law : Df := ⟨["script"], ["script", "state", "big", "turn", "items", "name", "test", "values", "line", "small", "text", "x"], top 43⟩
def clsB : Stmt → List Stmt
  | .ClassDef (body := b) .. => b
  | _ => []
def d_Cursor___init__ : Df := ⟨["self", "tokens"], ["self", "tokens"], (clsB (top 18)).getD 0 (.Pass ⟨0, 0, 0, 0⟩)⟩
def d_Cursor_peek : Df := ⟨["self", "ahead"], ["self", "ahead"], (clsB (top 18)).getD 1 (.Pass ⟨0, 0, 0, 0⟩)⟩
def d_Cursor_take : Df := ⟨["self"], ["self", "token"], (clsB (top 18)).getD 2 (.Pass ⟨0, 0, 0, 0⟩)⟩
def d_Cursor_skip : Df := ⟨["self", "token"], ["self", "token"], (clsB (top 18)).getD 3 (.Pass ⟨0, 0, 0, 0⟩)⟩
def d_Cursor_expect : Df := ⟨["self", "token"], ["self", "token"], (clsB (top 18)).getD 4 (.Pass ⟨0, 0, 0, 0⟩)⟩
def d_Cursor_name : Df := ⟨["self"], ["self", "token"], (clsB (top 18)).getD 5 (.Pass ⟨0, 0, 0, 0⟩)⟩
def d_Cursor_at_number : Df := ⟨["self"], ["self"], (clsB (top 18)).getD 6 (.Pass ⟨0, 0, 0, 0⟩)⟩
def d_Cursor_number : Df := ⟨["self"], ["self"], (clsB (top 18)).getD 7 (.Pass ⟨0, 0, 0, 0⟩)⟩
def d_Cursor_finish : Df := ⟨["self"], ["self"], (clsB (top 18)).getD 8 (.Pass ⟨0, 0, 0, 0⟩)⟩
def fldl : List (Str × Str) := [(("Cursor" : Str), ("tokens" : Str)), (("Cursor" : Str), ("at" : Str))]
def isml : List Str := ["at_number", "expect", "finish", "name", "number", "peek", "skip", "take"]
def mtbl : List (Str × Df) := [(("Cursor.__init__" : Str), d_Cursor___init__), (("Cursor.peek" : Str), d_Cursor_peek), (("Cursor.take" : Str), d_Cursor_take), (("Cursor.skip" : Str), d_Cursor_skip), (("Cursor.expect" : Str), d_Cursor_expect), (("Cursor.name" : Str), d_Cursor_name), (("Cursor.at_number" : Str), d_Cursor_at_number), (("Cursor.number" : Str), d_Cursor_number), (("Cursor.finish" : Str), d_Cursor_finish)]
def mthl : List ((Str × Str × Nat) × (Str × List D)) := [((("Cursor" : Str), ("__init__" : Str), 1), (("Cursor.__init__" : Str), [])), ((("Cursor" : Str), ("peek" : Str), 0), (("Cursor.peek" : Str), [(.int (0))])), ((("Cursor" : Str), ("peek" : Str), 1), (("Cursor.peek" : Str), [])), ((("Cursor" : Str), ("take" : Str), 0), (("Cursor.take" : Str), [])), ((("Cursor" : Str), ("skip" : Str), 1), (("Cursor.skip" : Str), [])), ((("Cursor" : Str), ("expect" : Str), 1), (("Cursor.expect" : Str), [])), ((("Cursor" : Str), ("name" : Str), 0), (("Cursor.name" : Str), [])), ((("Cursor" : Str), ("at_number" : Str), 0), (("Cursor.at_number" : Str), [])), ((("Cursor" : Str), ("number" : Str), 0), (("Cursor.number" : Str), [])), ((("Cursor" : Str), ("finish" : Str), 0), (("Cursor.finish" : Str), []))]
def tbl : List (Str × Df) := [(("run_end" : Str), d_run_end), (("word_at" : Str), d_word_at), (("number_at" : Str), d_number_at), (("token_at" : Str), d_token_at), (("tokens_of" : Str), d_tokens_of), (("read_signed" : Str), d_read_signed), (("read_value" : Str), d_read_value), (("write_integer" : Str), d_write_integer), (("write_value" : Str), d_write_value), (("read_arguments" : Str), d_read_arguments), (("read_row" : Str), d_read_row), (("read_test" : Str), d_read_test), (("is_plain" : Str), d_is_plain), (("read_tests" : Str), d_read_tests), (("write_test" : Str), d_write_test), (("write_tests" : Str), d_write_tests), (("_law_start" : Str), d__law_start), (("_law_draw" : Str), d__law_draw), (("_law_words" : Str), d__law_words), (("_law_is_int" : Str), d__law_is_int), (("_law_same" : Str), d__law_same), (("_law_figures_of" : Str), d__law_figures_of), (("_law_long_number" : Str), d__law_long_number), (("law" : Str), d_law)]
def bls : List Str := ["abs", "all", "any", "bool", "divmod", "enumerate", "int", "isinstance", "len", "list", "range", "str", "tuple"]
def csts : List (Str × D) := [(("LETTERS" : Str), c_LETTERS), (("DIGITS" : Str), c_DIGITS), (("PAIRS" : Str), c_PAIRS), (("SINGLES" : Str), c_SINGLES), (("MOST_TOKENS" : Str), c_MOST_TOKENS), (("MOST_DIGITS" : Str), c_MOST_DIGITS), (("MOST_SIGNS" : Str), c_MOST_SIGNS), (("RESERVED" : Str), c_RESERVED), (("BASE" : Str), c_BASE)]
def exl : List Str := ["WrongLine"]
def subl : List ((Str × Str) × Bool) := [((("WrongLine" : Str), ("WrongLine" : Str)), true)]
def pg : Pg := ⟨fun x => bls.contains x, fun x => List.lookup x csts, fun x => List.lookup x tbl, fun x => exl.contains x, fun x y => List.lookup (x, y) subl, fun c f => fldl.contains (c, f), fun m => isml.contains m, fun x => List.lookup x mtbl, fun c m n => List.lookup (c, m, n) mthl⟩
def m_Cursor___init__ (k : Nat) : SM :=
  (sCons (sFldM pg.fld "tokens" (eVar 0) (eVar 1))
  (sCons (sFldM pg.fld "at" (eVar 0) (eC (.int 0)))
  sNil))
set_option maxHeartbeats 4000000 in
theorem e_Cursor___init__ (k : Nat) : dB (pg.ctx k) d_Cursor___init__.sx fuelD (defBody d_Cursor___init__.st) = m_Cursor___init__ k := by kernel_rfl!
theorem c_Cursor___init__ {k : Nat} {a0 a1 : D} {s : Sto} : callP pg (k + 1) "Cursor.__init__" [a0, a1] s = gc s (resS (m_Cursor___init__ k [some a0, some a1] s)) := by
  rw [callM' (d := d_Cursor___init__) (m := m_Cursor___init__ k) (by kernel_rfl!) (e_Cursor___init__ k)]; rfl
def m_Cursor_peek (k : Nat) : SM :=
  (sCons (sIf (tOfB (eBin (pCmp .Lt) (eBin (pBin .Add) (eFld pg.fld "at" (eVar 0)) (eVar 1)) (eA pLen (aCons (eFld pg.fld "tokens" (eVar 0)) aNil)))) (sCons (sRet (eBin pIx (eFld pg.fld "tokens" (eVar 0)) (eBin (pBin .Add) (eFld pg.fld "at" (eVar 0)) (eVar 1))))
  sNil) sNil)
  (sCons (sRet (eC (.str "")))
  sNil))
set_option maxHeartbeats 4000000 in
theorem e_Cursor_peek (k : Nat) : dB (pg.ctx k) d_Cursor_peek.sx fuelD (defBody d_Cursor_peek.st) = m_Cursor_peek k := by kernel_rfl!
theorem c_Cursor_peek {k : Nat} {a0 a1 : D} {s : Sto} : callP pg (k + 1) "Cursor.peek" [a0, a1] s = gc s (resS (m_Cursor_peek k [some a0, some a1] s)) := by
  rw [callM' (d := d_Cursor_peek) (m := m_Cursor_peek k) (by kernel_rfl!) (e_Cursor_peek k)]; rfl
theorem t_Cursor_peek_0 {k : Nat} : (pg.ctx k).mth "Cursor" "peek" 0 = some ([(.int (0))], callP pg k "Cursor.peek") := by kernel_rfl!
theorem t_Cursor_peek_1 {k : Nat} : (pg.ctx k).mth "Cursor" "peek" 1 = some ([], callP pg k "Cursor.peek") := by kernel_rfl!
def m_Cursor_take (k : Nat) : SM :=
  (sCons (sSet 1 (eMethI (pg.ctx k).mth "peek" 0 (eVar 0) aNil))
  (sCons (sIf (tOfB (eBin (pCmp .Eq) (eVar 1) (eC (.str "")))) (sCons (sRaise "WrongLine")
  sNil) sNil)
  (sCons (sFldAugM pg.fld "at" .Add (eVar 0) (eC (.int 1)))
  (sCons (sRet (eVar 1))
  sNil))))
set_option maxHeartbeats 4000000 in
theorem e_Cursor_take (k : Nat) : dB (pg.ctx k) d_Cursor_take.sx fuelD (defBody d_Cursor_take.st) = m_Cursor_take k := by kernel_rfl!
theorem c_Cursor_take {k : Nat} {a0 : D} {s : Sto} : callP pg (k + 1) "Cursor.take" [a0] s = gc s (resS (m_Cursor_take k [some a0, none] s)) := by
  rw [callM' (d := d_Cursor_take) (m := m_Cursor_take k) (by kernel_rfl!) (e_Cursor_take k)]; rfl
theorem t_Cursor_take_0 {k : Nat} : (pg.ctx k).mth "Cursor" "take" 0 = some ([], callP pg k "Cursor.take") := by kernel_rfl!
def m_Cursor_skip (k : Nat) : SM :=
  (sCons (sIf (tOfB (eBin (pCmp .NotEq) (eMethI (pg.ctx k).mth "peek" 0 (eVar 0) aNil) (eVar 1))) (sCons (sRet (eC (.bl false)))
  sNil) sNil)
  (sCons (sFldAugM pg.fld "at" .Add (eVar 0) (eC (.int 1)))
  (sCons (sRet (eC (.bl true)))
  sNil)))
set_option maxHeartbeats 4000000 in
theorem e_Cursor_skip (k : Nat) : dB (pg.ctx k) d_Cursor_skip.sx fuelD (defBody d_Cursor_skip.st) = m_Cursor_skip k := by kernel_rfl!
theorem c_Cursor_skip {k : Nat} {a0 a1 : D} {s : Sto} : callP pg (k + 1) "Cursor.skip" [a0, a1] s = gc s (resS (m_Cursor_skip k [some a0, some a1] s)) := by
  rw [callM' (d := d_Cursor_skip) (m := m_Cursor_skip k) (by kernel_rfl!) (e_Cursor_skip k)]; rfl
theorem t_Cursor_skip_1 {k : Nat} : (pg.ctx k).mth "Cursor" "skip" 1 = some ([], callP pg k "Cursor.skip") := by kernel_rfl!
def m_Cursor_expect (k : Nat) : SM :=
  (sCons (sIf (tNt (tOfT (eMethI (pg.ctx k).mth "skip" 1 (eVar 0) (aCons (eVar 1) aNil)))) (sCons (sRaise "WrongLine")
  sNil) sNil)
  sNil)
set_option maxHeartbeats 4000000 in
theorem e_Cursor_expect (k : Nat) : dB (pg.ctx k) d_Cursor_expect.sx fuelD (defBody d_Cursor_expect.st) = m_Cursor_expect k := by kernel_rfl!
theorem c_Cursor_expect {k : Nat} {a0 a1 : D} {s : Sto} : callP pg (k + 1) "Cursor.expect" [a0, a1] s = gc s (resS (m_Cursor_expect k [some a0, some a1] s)) := by
  rw [callM' (d := d_Cursor_expect) (m := m_Cursor_expect k) (by kernel_rfl!) (e_Cursor_expect k)]; rfl
theorem t_Cursor_expect_1 {k : Nat} : (pg.ctx k).mth "Cursor" "expect" 1 = some ([], callP pg k "Cursor.expect") := by kernel_rfl!
def m_Cursor_name (k : Nat) : SM :=
  (sCons (sSet 1 (eMethI (pg.ctx k).mth "take" 0 (eVar 0) aNil))
  (sCons (sIf (tOr' (tOfB (eBin (pCmp .NotIn) (eBin pIx (eVar 1) (eC (.int 0))) (eC c_LETTERS))) (tOfB (eBin (pCmp .In) (eVar 1) (eC c_RESERVED)))) (sCons (sRaise "WrongLine")
  sNil) sNil)
  (sCons (sRet (eVar 1))
  sNil)))
set_option maxHeartbeats 4000000 in
theorem e_Cursor_name (k : Nat) : dB (pg.ctx k) d_Cursor_name.sx fuelD (defBody d_Cursor_name.st) = m_Cursor_name k := by kernel_rfl!
theorem c_Cursor_name {k : Nat} {a0 : D} {s : Sto} : callP pg (k + 1) "Cursor.name" [a0] s = gc s (resS (m_Cursor_name k [some a0, none] s)) := by
  rw [callM' (d := d_Cursor_name) (m := m_Cursor_name k) (by kernel_rfl!) (e_Cursor_name k)]; rfl
theorem t_Cursor_name_0 {k : Nat} : (pg.ctx k).mth "Cursor" "name" 0 = some ([], callP pg k "Cursor.name") := by kernel_rfl!
def m_Cursor_at_number (k : Nat) : SM :=
  (sCons (sRet (eAn (eBin (pCmp .NotEq) (eSl (eMethI (pg.ctx k).mth "peek" 0 (eVar 0) aNil) oNone (oSome (eC (.int 1)))) (eC (.str ""))) (eBin (pCmp .In) (eBin pIx (eMethI (pg.ctx k).mth "peek" 0 (eVar 0) aNil) (eC (.int 0))) (eC c_DIGITS))))
  sNil)
set_option maxHeartbeats 4000000 in
theorem e_Cursor_at_number (k : Nat) : dB (pg.ctx k) d_Cursor_at_number.sx fuelD (defBody d_Cursor_at_number.st) = m_Cursor_at_number k := by kernel_rfl!
theorem c_Cursor_at_number {k : Nat} {a0 : D} {s : Sto} : callP pg (k + 1) "Cursor.at_number" [a0] s = gc s (resS (m_Cursor_at_number k [some a0] s)) := by
  rw [callM' (d := d_Cursor_at_number) (m := m_Cursor_at_number k) (by kernel_rfl!) (e_Cursor_at_number k)]; rfl
theorem t_Cursor_at_number_0 {k : Nat} : (pg.ctx k).mth "Cursor" "at_number" 0 = some ([], callP pg k "Cursor.at_number") := by kernel_rfl!
def m_Cursor_number (k : Nat) : SM :=
  (sCons (sIf (tNt (tOfT (eMethI (pg.ctx k).mth "at_number" 0 (eVar 0) aNil))) (sCons (sRaise "WrongLine")
  sNil) sNil)
  (sCons (sRet (eA pIntC (aCons (eMethI (pg.ctx k).mth "take" 0 (eVar 0) aNil) aNil)))
  sNil))
set_option maxHeartbeats 4000000 in
theorem e_Cursor_number (k : Nat) : dB (pg.ctx k) d_Cursor_number.sx fuelD (defBody d_Cursor_number.st) = m_Cursor_number k := by kernel_rfl!
theorem c_Cursor_number {k : Nat} {a0 : D} {s : Sto} : callP pg (k + 1) "Cursor.number" [a0] s = gc s (resS (m_Cursor_number k [some a0] s)) := by
  rw [callM' (d := d_Cursor_number) (m := m_Cursor_number k) (by kernel_rfl!) (e_Cursor_number k)]; rfl
theorem t_Cursor_number_0 {k : Nat} : (pg.ctx k).mth "Cursor" "number" 0 = some ([], callP pg k "Cursor.number") := by kernel_rfl!
def m_Cursor_finish (k : Nat) : SM :=
  (sCons (sIf (tOfB (eBin (pCmp .NotEq) (eMethI (pg.ctx k).mth "peek" 0 (eVar 0) aNil) (eC (.str "")))) (sCons (sRaise "WrongLine")
  sNil) sNil)
  sNil)
set_option maxHeartbeats 4000000 in
theorem e_Cursor_finish (k : Nat) : dB (pg.ctx k) d_Cursor_finish.sx fuelD (defBody d_Cursor_finish.st) = m_Cursor_finish k := by kernel_rfl!
theorem c_Cursor_finish {k : Nat} {a0 : D} {s : Sto} : callP pg (k + 1) "Cursor.finish" [a0] s = gc s (resS (m_Cursor_finish k [some a0] s)) := by
  rw [callM' (d := d_Cursor_finish) (m := m_Cursor_finish k) (by kernel_rfl!) (e_Cursor_finish k)]; rfl
theorem t_Cursor_finish_0 {k : Nat} : (pg.ctx k).mth "Cursor" "finish" 0 = some ([], callP pg k "Cursor.finish") := by kernel_rfl!
def m_run_end (k : Nat) : SM :=
  (sCons (sSet 3 (eVar 1))
  (sCons (sWhile (tAn (tOfB (eBin (pCmp .Lt) (eVar 3) (eA pLen (aCons (eVar 0) aNil)))) (tOfB (eBin (pCmp .In) (eBin pIx (eVar 0) (eVar 3)) (eVar 2)))) (sCons (sAug 3 .Add (eC (.int 1)))
  sNil))
  (sCons (sRet (eVar 3))
  sNil)))
def m_word_at (k : Nat) : SM :=
  (sCons (sSet 2 (eSl (eVar 0) (oSome (eVar 1)) (oSome (eCall 3 (callP pg k "run_end") (aCons (eVar 0) (aCons (eVar 1) (aCons (eBin (pBin .Add) (eBin (pBin .Add) (eC c_LETTERS) (eC c_DIGITS)) (eC (.str "_"))) aNil)))))))
  (sCons (sIf (tOfB (eBin (pCmp .Gt) (eA pLen (aCons (eVar 2) aNil)) (eC c_MOST_SIGNS))) (sCons (sRaise "WrongLine")
  sNil) sNil)
  (sCons (sRet (eVar 2))
  sNil)))
def m_number_at (k : Nat) : SM :=
  (sCons (sSet 2 (eCall 3 (callP pg k "run_end") (aCons (eVar 0) (aCons (eVar 1) (aCons (eC c_DIGITS) aNil)))))
  (sCons (sSet 3 (eSl (eVar 0) (oSome (eVar 1)) (oSome (eVar 2))))
  (sCons (sIf (tOr' (tOfB (eBin (pCmp .Gt) (eA pLen (aCons (eVar 3) aNil)) (eC c_MOST_DIGITS))) (tAn (tOfB (eBin (pCmp .Eq) (eBin pIx (eVar 3) (eC (.int 0))) (eC (.str "0")))) (tOfB (eBin (pCmp .Gt) (eA pLen (aCons (eVar 3) aNil)) (eC (.int 1)))))) (sCons (sRaise "WrongLine")
  sNil) sNil)
  (sCons (sIf (tAn (tOfB (eBin (pCmp .Lt) (eVar 2) (eA pLen (aCons (eVar 0) aNil)))) (tOfB (eBin (pCmp .In) (eBin pIx (eVar 0) (eVar 2)) (eBin (pBin .Add) (eC c_LETTERS) (eC (.str "_")))))) (sCons (sRaise "WrongLine")
  sNil) sNil)
  (sCons (sRet (eVar 3))
  sNil)))))
def m_token_at (k : Nat) : SM :=
  (sCons (sIf (tOfB (eBin (pCmp .In) (eBin pIx (eVar 0) (eVar 1)) (eC c_LETTERS))) (sCons (sRet (eCall 2 (callP pg k "word_at") (aCons (eVar 0) (aCons (eVar 1) aNil))))
  sNil) sNil)
  (sCons (sIf (tOfB (eBin (pCmp .In) (eBin pIx (eVar 0) (eVar 1)) (eC c_DIGITS))) (sCons (sRet (eCall 2 (callP pg k "number_at") (aCons (eVar 0) (aCons (eVar 1) aNil))))
  sNil) sNil)
  (sCons (sIf (tOfB (eBin (pCmp .In) (eSl (eVar 0) (oSome (eVar 1)) (oSome (eBin (pBin .Add) (eVar 1) (eC (.int 2))))) (eC c_PAIRS))) (sCons (sRet (eSl (eVar 0) (oSome (eVar 1)) (oSome (eBin (pBin .Add) (eVar 1) (eC (.int 2))))))
  sNil) sNil)
  (sCons (sIf (tOfB (eBin (pCmp .In) (eBin pIx (eVar 0) (eVar 1)) (eC c_SINGLES))) (sCons (sRet (eBin pIx (eVar 0) (eVar 1)))
  sNil) sNil)
  (sCons (sRaise "WrongLine")
  sNil)))))
def m_tokens_of (k : Nat) : SM :=
  (sCons (sSet 1 (eA mkLst aNil))
  (sCons (sSet 2 (eC (.int 0)))
  (sCons (sWhile (tOfB (eBin (pCmp .Lt) (eVar 2) (eA pLen (aCons (eVar 0) aNil)))) (sCons (sIf (tOfB (eBin (pCmp .Eq) (eBin pIx (eVar 0) (eVar 2)) (eC (.str " ")))) (sCons (sAug 2 .Add (eC (.int 1)))
  sNil) (sCons (sSet 3 (eCall 2 (callP pg k "token_at") (aCons (eVar 0) (aCons (eVar 2) aNil))))
  (sCons (sExpr (eMeth "append" (eVar 1) (aCons (eVar 3) aNil)))
  (sCons (sAug 2 .Add (eA pLen (aCons (eVar 3) aNil)))
  sNil))))
  sNil))
  (sCons (sIf (tOfB (eBin (pCmp .Gt) (eA pLen (aCons (eVar 1) aNil)) (eC c_MOST_TOKENS))) (sCons (sRaise "WrongLine")
  sNil) sNil)
  (sCons (sRet (eVar 1))
  sNil)))))
def m_read_signed (k : Nat) : SM :=
  (sCons (sIf (tOfT (eMethI (pg.ctx k).mth "skip" 1 (eVar 0) (aCons (eC (.str "-")) aNil))) (sCons (sRet (eUn pNeg (eMethI (pg.ctx k).mth "number" 0 (eVar 0) aNil)))
  sNil) sNil)
  (sCons (sRet (eMethI (pg.ctx k).mth "number" 0 (eVar 0) aNil))
  sNil))
def m_read_value (k : Nat) : SM :=
  (sCons (sIf (tNt (tOfT (eMethI (pg.ctx k).mth "skip" 1 (eVar 0) (aCons (eC (.str "[")) aNil)))) (sCons (sRet (eCall 1 (callP pg k "read_signed") (aCons (eVar 0) aNil)))
  sNil) sNil)
  (sCons (sSet 1 (eA mkLst aNil))
  (sCons (sWhile (tNt (tOfT (eMethI (pg.ctx k).mth "skip" 1 (eVar 0) (aCons (eC (.str "]")) aNil)))) (sCons (sIf (tOfT (eVar 1)) (sCons (sExpr (eMethI (pg.ctx k).mth "expect" 1 (eVar 0) (aCons (eC (.str ",")) aNil)))
  sNil) sNil)
  (sCons (sExpr (eMeth "append" (eVar 1) (aCons (eCall 1 (callP pg k "read_signed") (aCons (eVar 0) aNil)) aNil)))
  sNil)))
  (sCons (sRet (eL lTup (lOfE (eVar 1))))
  sNil))))
def m_write_integer (k : Nat) : SM :=
  (sCons (sIf (tOfB (eBin (pCmp .Lt) (eVar 0) (eC (.int 0)))) (sCons (sRet (eBin (pBin .Add) (eC (.str "-")) (eCall 1 (callP pg k "write_integer") (aCons (eUn pNeg (eVar 0)) aNil))))
  sNil) sNil)
  (sCons (sSet 1 (eA mkLst aNil))
  (sCons (sWhile (tOfB (eBin (pCmp .GtE) (eVar 0) (eC c_BASE))) (sCons (sAsg (gTp 2 (gsCons (gNm 0) (gsCons (gNm 2) gsNil))) (eA pDivmod (aCons (eVar 0) (aCons (eC c_BASE) aNil))))
  (sCons (sExpr (eMeth "append" (eVar 1) (aCons (eMeth "zfill" (eA pStr (aCons (eVar 2) aNil)) (aCons (eC (.int 64)) aNil)) aNil)))
  sNil)))
  (sCons (sExpr (eMeth "append" (eVar 1) (aCons (eA pStr (aCons (eVar 0) aNil)) aNil)))
  (sCons (sRet (eMeth "join" (eC (.str "")) (aCons (eAlloc (fRev (eVar 1))) aNil)))
  sNil)))))
def m_write_value (k : Nat) : SM :=
  (sCons (sIf (tOfT (eA pIsi (aCons (eVar 0) (aCons (eC (.ty "tuple")) aNil)))) (sCons (sRet (eBin (pBin .Add) (eBin (pBin .Add) (eC (.str "[")) (eMeth "join" (eC (.str ", ")) (aCons (eAlloc (fLc (iVal (eVar 0)) (gNm 1) tYesM (eCall 1 (callP pg k "write_integer") (aCons (eVar 1) aNil)) [1])) aNil))) (eC (.str "]"))))
  sNil) sNil)
  (sCons (sRet (eCall 1 (callP pg k "write_integer") (aCons (eVar 0) aNil)))
  sNil))
def m_read_arguments (k : Nat) : SM :=
  (sCons (sExpr (eMethI (pg.ctx k).mth "expect" 1 (eVar 0) (aCons (eC (.str "(")) aNil)))
  (sCons (sSet 1 (eA mkLst aNil))
  (sCons (sWhile (tNt (tOfT (eMethI (pg.ctx k).mth "skip" 1 (eVar 0) (aCons (eC (.str ")")) aNil)))) (sCons (sIf (tOfT (eVar 1)) (sCons (sExpr (eMethI (pg.ctx k).mth "expect" 1 (eVar 0) (aCons (eC (.str ",")) aNil)))
  sNil) sNil)
  (sCons (sExpr (eMeth "append" (eVar 1) (aCons (eCall 1 (callP pg k "read_value") (aCons (eVar 0) aNil)) aNil)))
  sNil)))
  (sCons (sRet (eL lTup (lOfE (eVar 1))))
  sNil))))
def m_read_row (k : Nat) : SM :=
  (sCons (sSet 1 (eA mkLst (aCons (eCall 1 (callP pg k "read_value") (aCons (eVar 0) aNil)) aNil)))
  (sCons (sWhile (tOfT (eMethI (pg.ctx k).mth "skip" 1 (eVar 0) (aCons (eC (.str ",")) aNil))) (sCons (sExpr (eMeth "append" (eVar 1) (aCons (eCall 1 (callP pg k "read_value") (aCons (eVar 0) aNil)) aNil)))
  sNil))
  (sCons (sRet (eL lTup (lOfE (eVar 1))))
  sNil)))
def m_read_test (k : Nat) : SM :=
  (sCons (sExpr (eMethI (pg.ctx k).mth "expect" 1 (eVar 0) (aCons (eC (.str "test")) aNil)))
  (sCons (sSet 1 (eMethI (pg.ctx k).mth "name" 0 (eVar 0) aNil))
  (sCons (sSet 2 (eCall 1 (callP pg k "read_arguments") (aCons (eVar 0) aNil)))
  (sCons (sSet 3 (eA mkTup aNil))
  (sCons (sSet 4 (eA mkTup aNil))
  (sCons (sIf (tOfT (eMethI (pg.ctx k).mth "skip" 1 (eVar 0) (aCons (eC (.str "gives")) aNil))) (sCons (sSet 3 (eCall 1 (callP pg k "read_row") (aCons (eVar 0) aNil)))
  sNil) sNil)
  (sCons (sIf (tOfT (eMethI (pg.ctx k).mth "skip" 1 (eVar 0) (aCons (eC (.str "leaves")) aNil))) (sCons (sSet 4 (eCall 1 (callP pg k "read_row") (aCons (eVar 0) aNil)))
  sNil) sNil)
  (sCons (sExpr (eMethI (pg.ctx k).mth "finish" 0 (eVar 0) aNil))
  (sCons (sRet (eA mkTup (aCons (eVar 1) (aCons (eVar 2) (aCons (eVar 3) (aCons (eVar 4) aNil))))))
  sNil)))))))))
def m_is_plain (k : Nat) : SM :=
  (sCons (sIf (tOfT (eL lAny (fLc (iVal (eBin pIx (eVar 0) (eC (.int 2)))) (gNm 1) tYesM (eA pIsi (aCons (eVar 1) (aCons (eC (.ty "tuple")) aNil))) [1]))) (sCons (sRet (eC (.bl false)))
  sNil) sNil)
  (sCons (sRet (eL lAll (fLc (iVal (eBin pIx (eVar 0) (eC (.int 3)))) (gNm 1) tYesM (eA pIsi (aCons (eVar 1) (aCons (eC (.ty "tuple")) aNil))) [1])))
  sNil))
def m_read_tests (k : Nat) : SM :=
  (sCons (sSet 1 (eA mkLst aNil))
  (sCons (sFor (iEnumF (fSplit (eVar 0) (eC (.str "\n")))) (gTp 2 (gsCons (gNm 2) (gsCons (gNm 3) gsNil))) (sCons (sTryQ (sCons (sSet 4 (eMake "Cursor" 1 [] (callP pg (k - 1) "Cursor.__init__") (aCons (eCall 1 (callP pg k "tokens_of") (aCons (eVar 3) aNil)) aNil)))
  (sCons (sIf (tOfB (eBin (pCmp .NotEq) (eMethI (pg.ctx k).mth "peek" 0 (eVar 4) aNil) (eC (.str "")))) (sCons (sExpr (eMeth "append" (eVar 1) (aCons (eCall 1 (callP pg k "read_test") (aCons (eVar 4) aNil)) aNil)))
  sNil) sNil)
  sNil)))
  (sCons (sIf (tAn (tOfT (eVar 1)) (tNt (tOfT (eCall 1 (callP pg k "is_plain") (aCons (eBin pIx (eVar 1) (eUn pNeg (eC (.int 1)))) aNil))))) (sCons sErr
  sNil) sNil)
  sNil)))
  (sCons (sRet (eL lTup (lOfE (eVar 1))))
  sNil)))
def m_write_test (k : Nat) : SM :=
  (sCons (sAsg (gTp 4 (gsCons (gNm 1) (gsCons (gNm 2) (gsCons (gNm 3) (gsCons (gNm 4) gsNil))))) (eVar 0))
  (sCons (sSet 5 (eBin (pBin .Add) (eBin (pBin .Add) (eBin (pBin .Add) (eBin (pBin .Add) (eC (.str "test ")) (eVar 1)) (eC (.str "("))) (eMeth "join" (eC (.str ", ")) (aCons (eAlloc (fLc (iVal (eVar 2)) (gNm 6) tYesM (eCall 1 (callP pg k "write_value") (aCons (eVar 6) aNil)) [6])) aNil))) (eC (.str ")"))))
  (sCons (sIf (tOfT (eVar 3)) (sCons (sAug 5 .Add (eBin (pBin .Add) (eC (.str " gives ")) (eMeth "join" (eC (.str ", ")) (aCons (eAlloc (fLc (iVal (eVar 3)) (gNm 6) tYesM (eCall 1 (callP pg k "write_value") (aCons (eVar 6) aNil)) [6])) aNil))))
  sNil) sNil)
  (sCons (sIf (tOfT (eVar 4)) (sCons (sAug 5 .Add (eBin (pBin .Add) (eC (.str " leaves ")) (eMeth "join" (eC (.str ", ")) (aCons (eAlloc (fLc (iVal (eVar 4)) (gNm 6) tYesM (eCall 1 (callP pg k "write_value") (aCons (eVar 6) aNil)) [6])) aNil))))
  sNil) sNil)
  (sCons (sRet (eVar 5))
  sNil)))))
def m_write_tests (k : Nat) : SM :=
  (sCons (sRet (eMeth "join" (eC (.str "")) (aCons (eAlloc (fLc (iVal (eVar 0)) (gNm 1) tYesM (eBin (pBin .Add) (eCall 1 (callP pg k "write_test") (aCons (eVar 1) aNil)) (eC (.str "\n"))) [1])) aNil)))
  sNil)
def m__law_start (k : Nat) : SM :=
  (sCons (sRet (eA mkLst (aCons (eAlloc (fList (lOfE (eVar 0)))) (aCons (eC (.int 0)) (aCons (eC (.int 0)) (aCons (eC (.int 0)) aNil))))))
  sNil)
def m__law_draw (k : Nat) : SM :=
  (sCons (sAsg (gSb (eVar 0) (eC (.int 3))) (eBin (pBin .Add) (eBin pIx (eVar 0) (eC (.int 3))) (eC (.int 1))))
  (sCons (sIf (tOfB (eBin (pCmp .Gt) (eBin pIx (eVar 0) (eC (.int 2))) (eC (.int 0)))) (sCons (sSet 2 (eBin (pBin .Mod) (eA pIntC (aCons (eBin pIx (eVar 0) (eC (.int 2))) aNil)) (eVar 1)))
  (sCons (sAsg (gSb (eVar 0) (eC (.int 2))) (eBin (pBin .FloorDiv) (eBin pIx (eVar 0) (eC (.int 2))) (eVar 1)))
  (sCons (sRet (eVar 2))
  sNil))) sNil)
  (sCons (sSet 3 (eC (.int 0)))
  (sCons (sIf (tOfB (eBin (pCmp .Gt) (eA pLen (aCons (eBin pIx (eVar 0) (eC (.int 0))) aNil)) (eC (.int 0)))) (sCons (sSet 3 (eA pAbs (aCons (eBin pIx (eBin pIx (eVar 0) (eC (.int 0))) (eBin (pBin .Mod) (eA pIntC (aCons (eBin pIx (eVar 0) (eC (.int 1))) aNil)) (eA pLen (aCons (eBin pIx (eVar 0) (eC (.int 0))) aNil)))) aNil)))
  sNil) sNil)
  (sCons (sAsg (gSb (eVar 0) (eC (.int 1))) (eBin (pBin .Add) (eBin pIx (eVar 0) (eC (.int 1))) (eC (.int 1))))
  (sCons (sIf (tOfB (eBin (pCmp .GtE) (eVar 3) (eBin (pBin .Pow) (eC (.int 10)) (eC (.int 18))))) (sCons (sAsg (gSb (eVar 0) (eC (.int 2))) (eBin (pBin .FloorDiv) (eVar 3) (eVar 1)))
  (sCons (sRet (eBin (pBin .Mod) (eA pIntC (aCons (eVar 3) aNil)) (eVar 1)))
  sNil)) sNil)
  (sCons (sSet 4 (eBin (pBin .Mod) (eA pIntC (aCons (eBin (pBin .Add) (eBin (pBin .Mult) (eBin (pBin .Add) (eVar 3) (eC (.int 1))) (eC (.int 48271))) (eBin (pBin .Mult) (eBin pIx (eVar 0) (eC (.int 3))) (eC (.int 69621)))) aNil)) (eC (.int 2147483647))))
  (sCons (sSet 4 (eBin (pBin .Mod) (eA pIntC (aCons (eBin (pBin .Add) (eBin (pBin .Add) (eBin (pBin .Mult) (eVar 4) (eC (.int 16807))) (eBin (pBin .FloorDiv) (eVar 3) (eC (.int 97)))) (eBin pIx (eVar 0) (eC (.int 3)))) aNil)) (eC (.int 2147483629))))
  (sCons (sRet (eBin (pBin .Mod) (eBin (pBin .FloorDiv) (eVar 4) (eC (.int 11))) (eVar 1)))
  sNil)))))))))
def m__law_words (k : Nat) : SM :=
  (sCons (sSet 2 (eC (.str "abcdefghijklmnopqrstuvwxyz")))
  (sCons (sSet 3 (eCall 2 (callP pg k "_law_draw") (aCons (eVar 0) (aCons (eC (.int 26)) aNil))))
  (sCons (sSet 4 (eBin (pBin .Add) (eC (.int 1)) (eBin (pBin .Mult) (eC (.int 2)) (eCall 2 (callP pg k "_law_draw") (aCons (eVar 0) (aCons (eC (.int 6)) aNil))))))
  (sCons (sSet 5 (eSl (eC (.str "qxz")) oNone (oSome (eCall 2 (callP pg k "_law_draw") (aCons (eVar 0) (aCons (eC (.int 4)) aNil))))))
  (sCons (sIf (tOfB (eBin (pCmp .Eq) (eCall 2 (callP pg k "_law_draw") (aCons (eVar 0) (aCons (eC (.int 2)) aNil))) (eC (.int 0)))) (sCons (sRet (eAlloc (fLc (iRng1' (aCons (eVar 1) aNil)) (gNm 6) tYesM (eBin (pBin .Add) (eVar 5) (eBin pIx (eVar 2) (eBin (pBin .Mod) (eA pIntC (aCons (eBin (pBin .Add) (eVar 3) (eBin (pBin .Mult) (eVar 6) (eVar 4))) aNil)) (eC (.int 26))))) [6])))
  sNil) sNil)
  (sCons (sRet (eAlloc (fLc (iRng1' (aCons (eVar 1) aNil)) (gNm 6) tYesM (eBin (pBin .Add) (eBin pIx (eVar 2) (eBin (pBin .Mod) (eA pIntC (aCons (eBin (pBin .Add) (eVar 3) (eBin (pBin .Mult) (eVar 6) (eVar 4))) aNil)) (eC (.int 26)))) (eVar 5)) [6])))
  sNil))))))
def m__law_is_int (k : Nat) : SM :=
  (sCons (sRet (eAn (eA pIsi (aCons (eVar 0) (aCons (eC (.ty "int")) aNil))) (eNt (eA pIsi (aCons (eVar 0) (aCons (eC (.ty "bool")) aNil))))))
  sNil)
def m__law_same (k : Nat) : SM :=
  (sCons (sIf (tOfT (eA pIsi (aCons (eVar 1) (aCons (eC (.ty "tuple")) aNil)))) (sCons (sIf (tOr' (tNt (tOfT (eA pIsi (aCons (eVar 0) (aCons (eC (.ty "tuple")) aNil))))) (tOfB (eBin (pCmp .NotEq) (eA pLen (aCons (eVar 0) aNil)) (eA pLen (aCons (eVar 1) aNil))))) (sCons (sRet (eC (.bl false)))
  sNil) sNil)
  (sCons (sRet (eL lAll (fLc (iRng1' (aCons (eA pLen (aCons (eVar 1) aNil)) aNil)) (gNm 2) tYesM (eCall 2 (callP pg k "_law_same") (aCons (eBin pIx (eVar 0) (eVar 2)) (aCons (eBin pIx (eVar 1) (eVar 2)) aNil))) [2])))
  sNil)) sNil)
  (sCons (sIf (tOfT (eA pIsi (aCons (eVar 1) (aCons (eC (.ty "str")) aNil)))) (sCons (sRet (eAn (eA pIsi (aCons (eVar 0) (aCons (eC (.ty "str")) aNil))) (eBin (pCmp .Eq) (eVar 0) (eVar 1))))
  sNil) sNil)
  (sCons (sRet (eAn (eCall 1 (callP pg k "_law_is_int") (aCons (eVar 0) aNil)) (eBin (pCmp .Eq) (eVar 0) (eVar 1))))
  sNil)))
def m__law_figures_of (k : Nat) : SM :=
  (sCons (sSet 1 (eA pAbs (aCons (eVar 0) aNil)))
  (sCons (sSet 2 (eC (.str "")))
  (sCons (sFor (iRng1' (aCons (eC (.int 9999)) aNil)) (gNm 3) (sCons (sIf (tOfB (eBin (pCmp .Lt) (eVar 1) (eBin (pBin .Pow) (eC (.int 10)) (eC (.int 18))))) (sCons sBreak
  sNil) sNil)
  (sCons (sSet 4 (eBin (pBin .Sub) (eVar 1) (eBin (pBin .Mult) (eBin (pBin .FloorDiv) (eVar 1) (eBin (pBin .Pow) (eC (.int 10)) (eC (.int 18)))) (eBin (pBin .Pow) (eC (.int 10)) (eC (.int 18))))))
  (sCons (sSet 2 (eBin (pBin .Add) (eSl (eA pStr (aCons (eBin (pBin .Add) (eBin (pBin .Pow) (eC (.int 10)) (eC (.int 18))) (eVar 4)) aNil)) (oSome (eC (.int 1))) oNone) (eVar 2)))
  (sCons (sSet 1 (eBin (pBin .FloorDiv) (eVar 1) (eBin (pBin .Pow) (eC (.int 10)) (eC (.int 18)))))
  sNil)))))
  (sCons (sSet 2 (eBin (pBin .Add) (eA pStr (aCons (eVar 1) aNil)) (eVar 2)))
  (sCons (sIf (tOfB (eBin (pCmp .Lt) (eVar 0) (eC (.int 0)))) (sCons (sRet (eBin (pBin .Add) (eC (.str "-")) (eVar 2)))
  sNil) sNil)
  (sCons (sRet (eVar 2))
  sNil))))))
def m__law_long_number (k : Nat) : SM :=
  (sCons (sSet 2 (eCall 2 (callP pg k "_law_draw") (aCons (eVar 0) (aCons (eBin (pBin .Pow) (eC (.int 10)) (eC (.int 18))) aNil))))
  (sCons (sFor (iRng1' (aCons (eCall 2 (callP pg k "_law_draw") (aCons (eVar 0) (aCons (eVar 1) aNil))) aNil)) (gNm 3) (sCons (sSet 2 (eBin (pBin .Add) (eBin (pBin .Mult) (eVar 2) (eBin (pBin .Pow) (eC (.int 10)) (eC (.int 18)))) (eCall 2 (callP pg k "_law_draw") (aCons (eVar 0) (aCons (eBin (pBin .Pow) (eC (.int 10)) (eC (.int 18))) aNil)))))
  sNil))
  (sCons (sRet (eBin (pBin .Mult) (eVar 2) (eBin pIx (eA mkLst (aCons (eC (.int 1)) (aCons (eUn pNeg (eC (.int 1))) aNil))) (eCall 2 (callP pg k "_law_draw") (aCons (eVar 0) (aCons (eC (.int 2)) aNil))))))
  sNil)))
def m_law (k : Nat) : SM :=
  (sCons (sSet 1 (eCall 1 (callP pg k "_law_start") (aCons (eVar 0) aNil)))
  (sCons (sSet 2 (eCall 2 (callP pg k "_law_long_number") (aCons (eVar 1) (aCons (eC (.int 40)) aNil))))
  (sCons (sFor (iRng1' (aCons (eBin pIx (eA mkLst (aCons (eC (.int 1)) (aCons (eC (.int 260)) aNil))) (eA pIntC (aCons (eBin (pCmp .Eq) (eCall 2 (callP pg k "_law_draw") (aCons (eVar 1) (aCons (eC (.int 3)) aNil))) (eC (.int 0))) aNil))) aNil)) (gNm 3) (sCons (sSet 2 (eBin (pBin .Add) (eBin (pBin .Mult) (eVar 2) (eBin (pBin .Pow) (eC (.int 10)) (eC (.int 18)))) (eCall 2 (callP pg k "_law_draw") (aCons (eVar 1) (aCons (eBin (pBin .Pow) (eC (.int 10)) (eC (.int 18))) aNil)))))
  sNil))
  (sCons (sSet 4 (eSl (eA mkTup (aCons (eCall 2 (callP pg k "_law_long_number") (aCons (eVar 1) (aCons (eC (.int 3)) aNil))) (aCons (eC (.int 0)) (aCons (eVar 2) aNil)))) oNone (oSome (eCall 2 (callP pg k "_law_draw") (aCons (eVar 1) (aCons (eC (.int 4)) aNil))))))
  (sCons (sSet 5 (eBin pIx (eCall 2 (callP pg k "_law_words") (aCons (eVar 1) (aCons (eC (.int 1)) aNil))) (eC (.int 0))))
  (sCons (sSet 6 (eA mkTup (aCons (eVar 5) (aCons (eA mkTup (aCons (eVar 2) (aCons (eVar 4) aNil))) (aCons (eA mkTup (aCons (eUn pNeg (eVar 2)) aNil)) (aCons (eA mkTup (aCons (eVar 4) aNil)) aNil))))))
  (sCons (sSet 7 (eMeth "join" (eC (.str ", ")) (aCons (eAlloc (fLc (iVal (eVar 4)) (gNm 11) tYesM (eCall 1 (callP pg k "_law_figures_of") (aCons (eVar 11) aNil)) [11])) aNil)))
  (sCons (sSet 8 (eBin (pBin .Add) (eBin (pBin .Add) (eBin (pBin .Add) (eBin (pBin .Add) (eBin (pBin .Add) (eBin (pBin .Add) (eBin (pBin .Add) (eC (.str "test ")) (eVar 5)) (eC (.str "("))) (eCall 1 (callP pg k "_law_figures_of") (aCons (eVar 2) aNil))) (eC (.str ", ["))) (eVar 7)) (eC (.str "]) gives "))) (eCall 1 (callP pg k "_law_figures_of") (aCons (eUn pNeg (eVar 2)) aNil))))
  (sCons (sIf (tNt (tOfT (eCall 2 (callP pg k "_law_same") (aCons (eCall 1 (callP pg k "write_tests") (aCons (eA mkTup (aCons (eVar 6) (aCons (eVar 6) aNil))) aNil)) (aCons (eBin (pBin .Mult) (eBin (pBin .Add) (eBin (pBin .Add) (eBin (pBin .Add) (eVar 8) (eC (.str " leaves ["))) (eVar 7)) (eC (.str "]\n"))) (eC (.int 2))) aNil))))) (sCons (sRet (eC (.bl false)))
  sNil) sNil)
  (sCons (sSet 9 (eA mkTup (aCons (eVar 5) (aCons (eA mkTup (aCons (eC (.int 3)) (aCons (eA mkTup (aCons (eC (.int 4)) (aCons (eUn pNeg (eC (.int 5))) aNil))) aNil))) (aCons (eA mkTup (aCons (eC (.int 6)) aNil)) (aCons (eA mkTup (aCons (eA mkTup aNil) aNil)) aNil))))))
  (sCons (sSet 10 (eCall 1 (callP pg k "write_tests") (aCons (eA mkTup (aCons (eVar 9) aNil)) aNil)))
  (sCons (sIf (tNt (tOfT (eCall 2 (callP pg k "_law_same") (aCons (eVar 10) (aCons (eBin (pBin .Add) (eBin (pBin .Add) (eC (.str "test ")) (eVar 5)) (eC (.str "(3, [4, -5]) gives 6 leaves []\n"))) aNil))))) (sCons (sRet (eC (.bl false)))
  sNil) sNil)
  (sCons (sRet (eCall 2 (callP pg k "_law_same") (aCons (eCall 1 (callP pg k "read_tests") (aCons (eVar 10) aNil)) (aCons (eA mkTup (aCons (eVar 9) aNil)) aNil))))
  sNil)))))))))))))
set_option maxHeartbeats 4000000 in
theorem e_run_end (k : Nat) : dB (pg.ctx k) d_run_end.sx fuelD (defBody d_run_end.st) = m_run_end k := by kernel_rfl!
set_option maxHeartbeats 4000000 in
theorem e_word_at (k : Nat) : dB (pg.ctx k) d_word_at.sx fuelD (defBody d_word_at.st) = m_word_at k := by kernel_rfl!
set_option maxHeartbeats 4000000 in
theorem e_number_at (k : Nat) : dB (pg.ctx k) d_number_at.sx fuelD (defBody d_number_at.st) = m_number_at k := by kernel_rfl!
set_option maxHeartbeats 4000000 in
theorem e_token_at (k : Nat) : dB (pg.ctx k) d_token_at.sx fuelD (defBody d_token_at.st) = m_token_at k := by kernel_rfl!
set_option maxHeartbeats 4000000 in
theorem e_tokens_of (k : Nat) : dB (pg.ctx k) d_tokens_of.sx fuelD (defBody d_tokens_of.st) = m_tokens_of k := by kernel_rfl!
set_option maxHeartbeats 4000000 in
theorem e_read_signed (k : Nat) : dB (pg.ctx k) d_read_signed.sx fuelD (defBody d_read_signed.st) = m_read_signed k := by kernel_rfl!
set_option maxHeartbeats 4000000 in
theorem e_read_value (k : Nat) : dB (pg.ctx k) d_read_value.sx fuelD (defBody d_read_value.st) = m_read_value k := by kernel_rfl!
set_option maxHeartbeats 4000000 in
theorem e_write_integer (k : Nat) : dB (pg.ctx k) d_write_integer.sx fuelD (defBody d_write_integer.st) = m_write_integer k := by kernel_rfl!
set_option maxHeartbeats 4000000 in
theorem e_write_value (k : Nat) : dB (pg.ctx k) d_write_value.sx fuelD (defBody d_write_value.st) = m_write_value k := by kernel_rfl!
set_option maxHeartbeats 4000000 in
theorem e_read_arguments (k : Nat) : dB (pg.ctx k) d_read_arguments.sx fuelD (defBody d_read_arguments.st) = m_read_arguments k := by kernel_rfl!
set_option maxHeartbeats 4000000 in
theorem e_read_row (k : Nat) : dB (pg.ctx k) d_read_row.sx fuelD (defBody d_read_row.st) = m_read_row k := by kernel_rfl!
set_option maxHeartbeats 4000000 in
theorem e_read_test (k : Nat) : dB (pg.ctx k) d_read_test.sx fuelD (defBody d_read_test.st) = m_read_test k := by kernel_rfl!
set_option maxHeartbeats 4000000 in
theorem e_is_plain (k : Nat) : dB (pg.ctx k) d_is_plain.sx fuelD (defBody d_is_plain.st) = m_is_plain k := by kernel_rfl!
set_option maxHeartbeats 4000000 in
theorem e_read_tests (k : Nat) : dB (pg.ctx (k + 1)) d_read_tests.sx fuelD (defBody d_read_tests.st) = m_read_tests (k + 1) := by kernel_rfl!
set_option maxHeartbeats 4000000 in
theorem e_write_test (k : Nat) : dB (pg.ctx k) d_write_test.sx fuelD (defBody d_write_test.st) = m_write_test k := by kernel_rfl!
set_option maxHeartbeats 4000000 in
theorem e_write_tests (k : Nat) : dB (pg.ctx k) d_write_tests.sx fuelD (defBody d_write_tests.st) = m_write_tests k := by kernel_rfl!
set_option maxHeartbeats 4000000 in
theorem e__law_start (k : Nat) : dB (pg.ctx k) d__law_start.sx fuelD (defBody d__law_start.st) = m__law_start k := by kernel_rfl!
set_option maxHeartbeats 4000000 in
theorem e__law_draw (k : Nat) : dB (pg.ctx k) d__law_draw.sx fuelD (defBody d__law_draw.st) = m__law_draw k := by kernel_rfl!
set_option maxHeartbeats 4000000 in
theorem e__law_words (k : Nat) : dB (pg.ctx k) d__law_words.sx fuelD (defBody d__law_words.st) = m__law_words k := by kernel_rfl!
set_option maxHeartbeats 4000000 in
theorem e__law_is_int (k : Nat) : dB (pg.ctx k) d__law_is_int.sx fuelD (defBody d__law_is_int.st) = m__law_is_int k := by kernel_rfl!
set_option maxHeartbeats 4000000 in
theorem e__law_same (k : Nat) : dB (pg.ctx k) d__law_same.sx fuelD (defBody d__law_same.st) = m__law_same k := by kernel_rfl!
set_option maxHeartbeats 4000000 in
theorem e__law_figures_of (k : Nat) : dB (pg.ctx k) d__law_figures_of.sx fuelD (defBody d__law_figures_of.st) = m__law_figures_of k := by kernel_rfl!
set_option maxHeartbeats 4000000 in
theorem e__law_long_number (k : Nat) : dB (pg.ctx k) d__law_long_number.sx fuelD (defBody d__law_long_number.st) = m__law_long_number k := by kernel_rfl!
set_option maxHeartbeats 4000000 in
theorem e_law (k : Nat) : dB (pg.ctx k) d_law.sx fuelD (defBody d_law.st) = m_law k := by kernel_rfl!
theorem c_run_end {k : Nat} {a0 a1 a2 : D} {s : Sto} : callP pg (k + 1) "run_end" [a0, a1, a2] s = gc s (resS (m_run_end k [some a0, some a1, some a2, none] s)) := by
  rw [callM (d := d_run_end) (m := m_run_end k) (by kernel_rfl!) (e_run_end k)]; rfl
theorem c_word_at {k : Nat} {a0 a1 : D} {s : Sto} : callP pg (k + 1) "word_at" [a0, a1] s = gc s (resS (m_word_at k [some a0, some a1, none] s)) := by
  rw [callM (d := d_word_at) (m := m_word_at k) (by kernel_rfl!) (e_word_at k)]; rfl
theorem c_number_at {k : Nat} {a0 a1 : D} {s : Sto} : callP pg (k + 1) "number_at" [a0, a1] s = gc s (resS (m_number_at k [some a0, some a1, none, none] s)) := by
  rw [callM (d := d_number_at) (m := m_number_at k) (by kernel_rfl!) (e_number_at k)]; rfl
theorem c_token_at {k : Nat} {a0 a1 : D} {s : Sto} : callP pg (k + 1) "token_at" [a0, a1] s = gc s (resS (m_token_at k [some a0, some a1] s)) := by
  rw [callM (d := d_token_at) (m := m_token_at k) (by kernel_rfl!) (e_token_at k)]; rfl
theorem c_tokens_of {k : Nat} {a0 : D} {s : Sto} : callP pg (k + 1) "tokens_of" [a0] s = gc s (resS (m_tokens_of k [some a0, none, none, none] s)) := by
  rw [callM (d := d_tokens_of) (m := m_tokens_of k) (by kernel_rfl!) (e_tokens_of k)]; rfl
theorem c_read_signed {k : Nat} {a0 : D} {s : Sto} : callP pg (k + 1) "read_signed" [a0] s = gc s (resS (m_read_signed k [some a0] s)) := by
  rw [callM (d := d_read_signed) (m := m_read_signed k) (by kernel_rfl!) (e_read_signed k)]; rfl
theorem c_read_value {k : Nat} {a0 : D} {s : Sto} : callP pg (k + 1) "read_value" [a0] s = gc s (resS (m_read_value k [some a0, none] s)) := by
  rw [callM (d := d_read_value) (m := m_read_value k) (by kernel_rfl!) (e_read_value k)]; rfl
theorem c_write_integer {k : Nat} {a0 : D} {s : Sto} : callP pg (k + 1) "write_integer" [a0] s = gc s (resS (m_write_integer k [some a0, none, none] s)) := by
  rw [callM (d := d_write_integer) (m := m_write_integer k) (by kernel_rfl!) (e_write_integer k)]; rfl
theorem c_write_value {k : Nat} {a0 : D} {s : Sto} : callP pg (k + 1) "write_value" [a0] s = gc s (resS (m_write_value k [some a0, none] s)) := by
  rw [callM (d := d_write_value) (m := m_write_value k) (by kernel_rfl!) (e_write_value k)]; rfl
theorem c_read_arguments {k : Nat} {a0 : D} {s : Sto} : callP pg (k + 1) "read_arguments" [a0] s = gc s (resS (m_read_arguments k [some a0, none] s)) := by
  rw [callM (d := d_read_arguments) (m := m_read_arguments k) (by kernel_rfl!) (e_read_arguments k)]; rfl
theorem c_read_row {k : Nat} {a0 : D} {s : Sto} : callP pg (k + 1) "read_row" [a0] s = gc s (resS (m_read_row k [some a0, none] s)) := by
  rw [callM (d := d_read_row) (m := m_read_row k) (by kernel_rfl!) (e_read_row k)]; rfl
theorem c_read_test {k : Nat} {a0 : D} {s : Sto} : callP pg (k + 1) "read_test" [a0] s = gc s (resS (m_read_test k [some a0, none, none, none, none] s)) := by
  rw [callM (d := d_read_test) (m := m_read_test k) (by kernel_rfl!) (e_read_test k)]; rfl
theorem c_is_plain {k : Nat} {a0 : D} {s : Sto} : callP pg (k + 1) "is_plain" [a0] s = gc s (resS (m_is_plain k [some a0, none] s)) := by
  rw [callM (d := d_is_plain) (m := m_is_plain k) (by kernel_rfl!) (e_is_plain k)]; rfl
theorem c_read_tests {k : Nat} {a0 : D} {s : Sto} : callP pg ((k + 1) + 1) "read_tests" [a0] s = gc s (resS (m_read_tests (k + 1) [some a0, none, none, none, none] s)) := by
  rw [callM (d := d_read_tests) (m := m_read_tests (k + 1)) (by kernel_rfl!) (e_read_tests k)]; rfl
theorem c_write_test {k : Nat} {a0 : D} {s : Sto} : callP pg (k + 1) "write_test" [a0] s = gc s (resS (m_write_test k [some a0, none, none, none, none, none, none] s)) := by
  rw [callM (d := d_write_test) (m := m_write_test k) (by kernel_rfl!) (e_write_test k)]; rfl
theorem c_write_tests {k : Nat} {a0 : D} {s : Sto} : callP pg (k + 1) "write_tests" [a0] s = gc s (resS (m_write_tests k [some a0, none] s)) := by
  rw [callM (d := d_write_tests) (m := m_write_tests k) (by kernel_rfl!) (e_write_tests k)]; rfl
theorem c__law_start {k : Nat} {a0 : D} {s : Sto} : callP pg (k + 1) "_law_start" [a0] s = gc s (resS (m__law_start k [some a0] s)) := by
  rw [callM (d := d__law_start) (m := m__law_start k) (by kernel_rfl!) (e__law_start k)]; rfl
theorem c__law_draw {k : Nat} {a0 a1 : D} {s : Sto} : callP pg (k + 1) "_law_draw" [a0, a1] s = gc s (resS (m__law_draw k [some a0, some a1, none, none, none] s)) := by
  rw [callM (d := d__law_draw) (m := m__law_draw k) (by kernel_rfl!) (e__law_draw k)]; rfl
theorem c__law_words {k : Nat} {a0 a1 : D} {s : Sto} : callP pg (k + 1) "_law_words" [a0, a1] s = gc s (resS (m__law_words k [some a0, some a1, none, none, none, none, none] s)) := by
  rw [callM (d := d__law_words) (m := m__law_words k) (by kernel_rfl!) (e__law_words k)]; rfl
theorem c__law_is_int {k : Nat} {a0 : D} {s : Sto} : callP pg (k + 1) "_law_is_int" [a0] s = gc s (resS (m__law_is_int k [some a0] s)) := by
  rw [callM (d := d__law_is_int) (m := m__law_is_int k) (by kernel_rfl!) (e__law_is_int k)]; rfl
theorem c__law_same {k : Nat} {a0 a1 : D} {s : Sto} : callP pg (k + 1) "_law_same" [a0, a1] s = gc s (resS (m__law_same k [some a0, some a1, none] s)) := by
  rw [callM (d := d__law_same) (m := m__law_same k) (by kernel_rfl!) (e__law_same k)]; rfl
theorem c__law_figures_of {k : Nat} {a0 : D} {s : Sto} : callP pg (k + 1) "_law_figures_of" [a0] s = gc s (resS (m__law_figures_of k [some a0, none, none, none, none] s)) := by
  rw [callM (d := d__law_figures_of) (m := m__law_figures_of k) (by kernel_rfl!) (e__law_figures_of k)]; rfl
theorem c__law_long_number {k : Nat} {a0 a1 : D} {s : Sto} : callP pg (k + 1) "_law_long_number" [a0, a1] s = gc s (resS (m__law_long_number k [some a0, some a1, none, none] s)) := by
  rw [callM (d := d__law_long_number) (m := m__law_long_number k) (by kernel_rfl!) (e__law_long_number k)]; rfl
theorem c_law {k : Nat} {a0 : D} {s : Sto} : callP pg (k + 1) "law" [a0] s = gc s (resS (m_law k [some a0, none, none, none, none, none, none, none, none, none, none, none] s)) := by
  rw [callM (d := d_law) (m := m_law k) (by kernel_rfl!) (e_law k)]; rfl
theorem s_run_end : FnScope d_run_end.N d_run_end.ps (defScope d_run_end.st) := ⟨rfl, rfl, rfl, by decide +kernel, rfl, by decide +kernel, by decide +kernel⟩
theorem k_run_end {K : PySem.W.Frag} {mg : Str → Option Value} {f : Addr} {od an : Option Addr} {sl : Array (Option Value)} {oc kV dc pm cd ct : Value} (hm : mg "run_end" = some (.ref f)) (l : K.lookup f = some ⟨oc, od, .func (PySem.W.fnOf "run_end" "run_end" (defArgs d_run_end.st) (defBody d_run_end.st) (defScope d_run_end.st) .none kV dc pm an cd ct), sl⟩) (c : PySem.W.codeIn K cd "run_end" = true) (kp : PySem.W.keepIn K (.ref f) = true) : DOk K mg "run_end" d_run_end :=
  ⟨f, _, hm, fun_mk (st := d_run_end.st) l c kp, (fun_mk (st := d_run_end.st) l c kp).binds (ps := d_run_end.ps) fun _ _ _ _ _ _ us hl => match us, hl with | [_, _, _], _ => rfl, s_run_end⟩
theorem s_word_at : FnScope d_word_at.N d_word_at.ps (defScope d_word_at.st) := ⟨rfl, rfl, rfl, by decide +kernel, rfl, by decide +kernel, by decide +kernel⟩
theorem k_word_at {K : PySem.W.Frag} {mg : Str → Option Value} {f : Addr} {od an : Option Addr} {sl : Array (Option Value)} {oc kV dc pm cd ct : Value} (hm : mg "word_at" = some (.ref f)) (l : K.lookup f = some ⟨oc, od, .func (PySem.W.fnOf "word_at" "word_at" (defArgs d_word_at.st) (defBody d_word_at.st) (defScope d_word_at.st) .none kV dc pm an cd ct), sl⟩) (c : PySem.W.codeIn K cd "word_at" = true) (kp : PySem.W.keepIn K (.ref f) = true) : DOk K mg "word_at" d_word_at :=
  ⟨f, _, hm, fun_mk (st := d_word_at.st) l c kp, (fun_mk (st := d_word_at.st) l c kp).binds (ps := d_word_at.ps) fun _ _ _ _ _ _ us hl => match us, hl with | [_, _], _ => rfl, s_word_at⟩
theorem s_number_at : FnScope d_number_at.N d_number_at.ps (defScope d_number_at.st) := ⟨rfl, rfl, rfl, by decide +kernel, rfl, by decide +kernel, by decide +kernel⟩
theorem k_number_at {K : PySem.W.Frag} {mg : Str → Option Value} {f : Addr} {od an : Option Addr} {sl : Array (Option Value)} {oc kV dc pm cd ct : Value} (hm : mg "number_at" = some (.ref f)) (l : K.lookup f = some ⟨oc, od, .func (PySem.W.fnOf "number_at" "number_at" (defArgs d_number_at.st) (defBody d_number_at.st) (defScope d_number_at.st) .none kV dc pm an cd ct), sl⟩) (c : PySem.W.codeIn K cd "number_at" = true) (kp : PySem.W.keepIn K (.ref f) = true) : DOk K mg "number_at" d_number_at :=
  ⟨f, _, hm, fun_mk (st := d_number_at.st) l c kp, (fun_mk (st := d_number_at.st) l c kp).binds (ps := d_number_at.ps) fun _ _ _ _ _ _ us hl => match us, hl with | [_, _], _ => rfl, s_number_at⟩
theorem s_token_at : FnScope d_token_at.N d_token_at.ps (defScope d_token_at.st) := ⟨rfl, rfl, rfl, by decide +kernel, rfl, by decide +kernel, by decide +kernel⟩
theorem k_token_at {K : PySem.W.Frag} {mg : Str → Option Value} {f : Addr} {od an : Option Addr} {sl : Array (Option Value)} {oc kV dc pm cd ct : Value} (hm : mg "token_at" = some (.ref f)) (l : K.lookup f = some ⟨oc, od, .func (PySem.W.fnOf "token_at" "token_at" (defArgs d_token_at.st) (defBody d_token_at.st) (defScope d_token_at.st) .none kV dc pm an cd ct), sl⟩) (c : PySem.W.codeIn K cd "token_at" = true) (kp : PySem.W.keepIn K (.ref f) = true) : DOk K mg "token_at" d_token_at :=
  ⟨f, _, hm, fun_mk (st := d_token_at.st) l c kp, (fun_mk (st := d_token_at.st) l c kp).binds (ps := d_token_at.ps) fun _ _ _ _ _ _ us hl => match us, hl with | [_, _], _ => rfl, s_token_at⟩
theorem s_tokens_of : FnScope d_tokens_of.N d_tokens_of.ps (defScope d_tokens_of.st) := ⟨rfl, rfl, rfl, by decide +kernel, rfl, by decide +kernel, by decide +kernel⟩
theorem k_tokens_of {K : PySem.W.Frag} {mg : Str → Option Value} {f : Addr} {od an : Option Addr} {sl : Array (Option Value)} {oc kV dc pm cd ct : Value} (hm : mg "tokens_of" = some (.ref f)) (l : K.lookup f = some ⟨oc, od, .func (PySem.W.fnOf "tokens_of" "tokens_of" (defArgs d_tokens_of.st) (defBody d_tokens_of.st) (defScope d_tokens_of.st) .none kV dc pm an cd ct), sl⟩) (c : PySem.W.codeIn K cd "tokens_of" = true) (kp : PySem.W.keepIn K (.ref f) = true) : DOk K mg "tokens_of" d_tokens_of :=
  ⟨f, _, hm, fun_mk (st := d_tokens_of.st) l c kp, (fun_mk (st := d_tokens_of.st) l c kp).binds (ps := d_tokens_of.ps) fun _ _ _ _ _ _ us hl => match us, hl with | [_], _ => rfl, s_tokens_of⟩
theorem s_read_signed : FnScope d_read_signed.N d_read_signed.ps (defScope d_read_signed.st) := ⟨rfl, rfl, rfl, by decide +kernel, rfl, by decide +kernel, by decide +kernel⟩
theorem k_read_signed {K : PySem.W.Frag} {mg : Str → Option Value} {f : Addr} {od an : Option Addr} {sl : Array (Option Value)} {oc kV dc pm cd ct : Value} (hm : mg "read_signed" = some (.ref f)) (l : K.lookup f = some ⟨oc, od, .func (PySem.W.fnOf "read_signed" "read_signed" (defArgs d_read_signed.st) (defBody d_read_signed.st) (defScope d_read_signed.st) .none kV dc pm an cd ct), sl⟩) (c : PySem.W.codeIn K cd "read_signed" = true) (kp : PySem.W.keepIn K (.ref f) = true) : DOk K mg "read_signed" d_read_signed :=
  ⟨f, _, hm, fun_mk (st := d_read_signed.st) l c kp, (fun_mk (st := d_read_signed.st) l c kp).binds (ps := d_read_signed.ps) fun _ _ _ _ _ _ us hl => match us, hl with | [_], _ => rfl, s_read_signed⟩
theorem s_read_value : FnScope d_read_value.N d_read_value.ps (defScope d_read_value.st) := ⟨rfl, rfl, rfl, by decide +kernel, rfl, by decide +kernel, by decide +kernel⟩
theorem k_read_value {K : PySem.W.Frag} {mg : Str → Option Value} {f : Addr} {od an : Option Addr} {sl : Array (Option Value)} {oc kV dc pm cd ct : Value} (hm : mg "read_value" = some (.ref f)) (l : K.lookup f = some ⟨oc, od, .func (PySem.W.fnOf "read_value" "read_value" (defArgs d_read_value.st) (defBody d_read_value.st) (defScope d_read_value.st) .none kV dc pm an cd ct), sl⟩) (c : PySem.W.codeIn K cd "read_value" = true) (kp : PySem.W.keepIn K (.ref f) = true) : DOk K mg "read_value" d_read_value :=
  ⟨f, _, hm, fun_mk (st := d_read_value.st) l c kp, (fun_mk (st := d_read_value.st) l c kp).binds (ps := d_read_value.ps) fun _ _ _ _ _ _ us hl => match us, hl with | [_], _ => rfl, s_read_value⟩
theorem s_write_integer : FnScope d_write_integer.N d_write_integer.ps (defScope d_write_integer.st) := ⟨rfl, rfl, rfl, by decide +kernel, rfl, by decide +kernel, by decide +kernel⟩
theorem k_write_integer {K : PySem.W.Frag} {mg : Str → Option Value} {f : Addr} {od an : Option Addr} {sl : Array (Option Value)} {oc kV dc pm cd ct : Value} (hm : mg "write_integer" = some (.ref f)) (l : K.lookup f = some ⟨oc, od, .func (PySem.W.fnOf "write_integer" "write_integer" (defArgs d_write_integer.st) (defBody d_write_integer.st) (defScope d_write_integer.st) .none kV dc pm an cd ct), sl⟩) (c : PySem.W.codeIn K cd "write_integer" = true) (kp : PySem.W.keepIn K (.ref f) = true) : DOk K mg "write_integer" d_write_integer :=
  ⟨f, _, hm, fun_mk (st := d_write_integer.st) l c kp, (fun_mk (st := d_write_integer.st) l c kp).binds (ps := d_write_integer.ps) fun _ _ _ _ _ _ us hl => match us, hl with | [_], _ => rfl, s_write_integer⟩
theorem s_write_value : FnScope d_write_value.N d_write_value.ps (defScope d_write_value.st) := ⟨rfl, rfl, rfl, by decide +kernel, rfl, by decide +kernel, by decide +kernel⟩
theorem k_write_value {K : PySem.W.Frag} {mg : Str → Option Value} {f : Addr} {od an : Option Addr} {sl : Array (Option Value)} {oc kV dc pm cd ct : Value} (hm : mg "write_value" = some (.ref f)) (l : K.lookup f = some ⟨oc, od, .func (PySem.W.fnOf "write_value" "write_value" (defArgs d_write_value.st) (defBody d_write_value.st) (defScope d_write_value.st) .none kV dc pm an cd ct), sl⟩) (c : PySem.W.codeIn K cd "write_value" = true) (kp : PySem.W.keepIn K (.ref f) = true) : DOk K mg "write_value" d_write_value :=
  ⟨f, _, hm, fun_mk (st := d_write_value.st) l c kp, (fun_mk (st := d_write_value.st) l c kp).binds (ps := d_write_value.ps) fun _ _ _ _ _ _ us hl => match us, hl with | [_], _ => rfl, s_write_value⟩
theorem s_read_arguments : FnScope d_read_arguments.N d_read_arguments.ps (defScope d_read_arguments.st) := ⟨rfl, rfl, rfl, by decide +kernel, rfl, by decide +kernel, by decide +kernel⟩
theorem k_read_arguments {K : PySem.W.Frag} {mg : Str → Option Value} {f : Addr} {od an : Option Addr} {sl : Array (Option Value)} {oc kV dc pm cd ct : Value} (hm : mg "read_arguments" = some (.ref f)) (l : K.lookup f = some ⟨oc, od, .func (PySem.W.fnOf "read_arguments" "read_arguments" (defArgs d_read_arguments.st) (defBody d_read_arguments.st) (defScope d_read_arguments.st) .none kV dc pm an cd ct), sl⟩) (c : PySem.W.codeIn K cd "read_arguments" = true) (kp : PySem.W.keepIn K (.ref f) = true) : DOk K mg "read_arguments" d_read_arguments :=
  ⟨f, _, hm, fun_mk (st := d_read_arguments.st) l c kp, (fun_mk (st := d_read_arguments.st) l c kp).binds (ps := d_read_arguments.ps) fun _ _ _ _ _ _ us hl => match us, hl with | [_], _ => rfl, s_read_arguments⟩
theorem s_read_row : FnScope d_read_row.N d_read_row.ps (defScope d_read_row.st) := ⟨rfl, rfl, rfl, by decide +kernel, rfl, by decide +kernel, by decide +kernel⟩
theorem k_read_row {K : PySem.W.Frag} {mg : Str → Option Value} {f : Addr} {od an : Option Addr} {sl : Array (Option Value)} {oc kV dc pm cd ct : Value} (hm : mg "read_row" = some (.ref f)) (l : K.lookup f = some ⟨oc, od, .func (PySem.W.fnOf "read_row" "read_row" (defArgs d_read_row.st) (defBody d_read_row.st) (defScope d_read_row.st) .none kV dc pm an cd ct), sl⟩) (c : PySem.W.codeIn K cd "read_row" = true) (kp : PySem.W.keepIn K (.ref f) = true) : DOk K mg "read_row" d_read_row :=
  ⟨f, _, hm, fun_mk (st := d_read_row.st) l c kp, (fun_mk (st := d_read_row.st) l c kp).binds (ps := d_read_row.ps) fun _ _ _ _ _ _ us hl => match us, hl with | [_], _ => rfl, s_read_row⟩
theorem s_read_test : FnScope d_read_test.N d_read_test.ps (defScope d_read_test.st) := ⟨rfl, rfl, rfl, by decide +kernel, rfl, by decide +kernel, by decide +kernel⟩
theorem k_read_test {K : PySem.W.Frag} {mg : Str → Option Value} {f : Addr} {od an : Option Addr} {sl : Array (Option Value)} {oc kV dc pm cd ct : Value} (hm : mg "read_test" = some (.ref f)) (l : K.lookup f = some ⟨oc, od, .func (PySem.W.fnOf "read_test" "read_test" (defArgs d_read_test.st) (defBody d_read_test.st) (defScope d_read_test.st) .none kV dc pm an cd ct), sl⟩) (c : PySem.W.codeIn K cd "read_test" = true) (kp : PySem.W.keepIn K (.ref f) = true) : DOk K mg "read_test" d_read_test :=
  ⟨f, _, hm, fun_mk (st := d_read_test.st) l c kp, (fun_mk (st := d_read_test.st) l c kp).binds (ps := d_read_test.ps) fun _ _ _ _ _ _ us hl => match us, hl with | [_], _ => rfl, s_read_test⟩
theorem s_is_plain : FnScope d_is_plain.N d_is_plain.ps (defScope d_is_plain.st) := ⟨rfl, rfl, rfl, by decide +kernel, rfl, by decide +kernel, by decide +kernel⟩
theorem k_is_plain {K : PySem.W.Frag} {mg : Str → Option Value} {f : Addr} {od an : Option Addr} {sl : Array (Option Value)} {oc kV dc pm cd ct : Value} (hm : mg "is_plain" = some (.ref f)) (l : K.lookup f = some ⟨oc, od, .func (PySem.W.fnOf "is_plain" "is_plain" (defArgs d_is_plain.st) (defBody d_is_plain.st) (defScope d_is_plain.st) .none kV dc pm an cd ct), sl⟩) (c : PySem.W.codeIn K cd "is_plain" = true) (kp : PySem.W.keepIn K (.ref f) = true) : DOk K mg "is_plain" d_is_plain :=
  ⟨f, _, hm, fun_mk (st := d_is_plain.st) l c kp, (fun_mk (st := d_is_plain.st) l c kp).binds (ps := d_is_plain.ps) fun _ _ _ _ _ _ us hl => match us, hl with | [_], _ => rfl, s_is_plain⟩
theorem s_read_tests : FnScope d_read_tests.N d_read_tests.ps (defScope d_read_tests.st) := ⟨rfl, rfl, rfl, by decide +kernel, rfl, by decide +kernel, by decide +kernel⟩
theorem k_read_tests {K : PySem.W.Frag} {mg : Str → Option Value} {f : Addr} {od an : Option Addr} {sl : Array (Option Value)} {oc kV dc pm cd ct : Value} (hm : mg "read_tests" = some (.ref f)) (l : K.lookup f = some ⟨oc, od, .func (PySem.W.fnOf "read_tests" "read_tests" (defArgs d_read_tests.st) (defBody d_read_tests.st) (defScope d_read_tests.st) .none kV dc pm an cd ct), sl⟩) (c : PySem.W.codeIn K cd "read_tests" = true) (kp : PySem.W.keepIn K (.ref f) = true) : DOk K mg "read_tests" d_read_tests :=
  ⟨f, _, hm, fun_mk (st := d_read_tests.st) l c kp, (fun_mk (st := d_read_tests.st) l c kp).binds (ps := d_read_tests.ps) fun _ _ _ _ _ _ us hl => match us, hl with | [_], _ => rfl, s_read_tests⟩
theorem s_write_test : FnScope d_write_test.N d_write_test.ps (defScope d_write_test.st) := ⟨rfl, rfl, rfl, by decide +kernel, rfl, by decide +kernel, by decide +kernel⟩
theorem k_write_test {K : PySem.W.Frag} {mg : Str → Option Value} {f : Addr} {od an : Option Addr} {sl : Array (Option Value)} {oc kV dc pm cd ct : Value} (hm : mg "write_test" = some (.ref f)) (l : K.lookup f = some ⟨oc, od, .func (PySem.W.fnOf "write_test" "write_test" (defArgs d_write_test.st) (defBody d_write_test.st) (defScope d_write_test.st) .none kV dc pm an cd ct), sl⟩) (c : PySem.W.codeIn K cd "write_test" = true) (kp : PySem.W.keepIn K (.ref f) = true) : DOk K mg "write_test" d_write_test :=
  ⟨f, _, hm, fun_mk (st := d_write_test.st) l c kp, (fun_mk (st := d_write_test.st) l c kp).binds (ps := d_write_test.ps) fun _ _ _ _ _ _ us hl => match us, hl with | [_], _ => rfl, s_write_test⟩
theorem s_write_tests : FnScope d_write_tests.N d_write_tests.ps (defScope d_write_tests.st) := ⟨rfl, rfl, rfl, by decide +kernel, rfl, by decide +kernel, by decide +kernel⟩
theorem k_write_tests {K : PySem.W.Frag} {mg : Str → Option Value} {f : Addr} {od an : Option Addr} {sl : Array (Option Value)} {oc kV dc pm cd ct : Value} (hm : mg "write_tests" = some (.ref f)) (l : K.lookup f = some ⟨oc, od, .func (PySem.W.fnOf "write_tests" "write_tests" (defArgs d_write_tests.st) (defBody d_write_tests.st) (defScope d_write_tests.st) .none kV dc pm an cd ct), sl⟩) (c : PySem.W.codeIn K cd "write_tests" = true) (kp : PySem.W.keepIn K (.ref f) = true) : DOk K mg "write_tests" d_write_tests :=
  ⟨f, _, hm, fun_mk (st := d_write_tests.st) l c kp, (fun_mk (st := d_write_tests.st) l c kp).binds (ps := d_write_tests.ps) fun _ _ _ _ _ _ us hl => match us, hl with | [_], _ => rfl, s_write_tests⟩
theorem s__law_start : FnScope d__law_start.N d__law_start.ps (defScope d__law_start.st) := ⟨rfl, rfl, rfl, by decide +kernel, rfl, by decide +kernel, by decide +kernel⟩
theorem k__law_start {K : PySem.W.Frag} {mg : Str → Option Value} {f : Addr} {od an : Option Addr} {sl : Array (Option Value)} {oc kV dc pm cd ct : Value} (hm : mg "_law_start" = some (.ref f)) (l : K.lookup f = some ⟨oc, od, .func (PySem.W.fnOf "_law_start" "_law_start" (defArgs d__law_start.st) (defBody d__law_start.st) (defScope d__law_start.st) .none kV dc pm an cd ct), sl⟩) (c : PySem.W.codeIn K cd "_law_start" = true) (kp : PySem.W.keepIn K (.ref f) = true) : DOk K mg "_law_start" d__law_start :=
  ⟨f, _, hm, fun_mk (st := d__law_start.st) l c kp, (fun_mk (st := d__law_start.st) l c kp).binds (ps := d__law_start.ps) fun _ _ _ _ _ _ us hl => match us, hl with | [_], _ => rfl, s__law_start⟩
theorem s__law_draw : FnScope d__law_draw.N d__law_draw.ps (defScope d__law_draw.st) := ⟨rfl, rfl, rfl, by decide +kernel, rfl, by decide +kernel, by decide +kernel⟩
theorem k__law_draw {K : PySem.W.Frag} {mg : Str → Option Value} {f : Addr} {od an : Option Addr} {sl : Array (Option Value)} {oc kV dc pm cd ct : Value} (hm : mg "_law_draw" = some (.ref f)) (l : K.lookup f = some ⟨oc, od, .func (PySem.W.fnOf "_law_draw" "_law_draw" (defArgs d__law_draw.st) (defBody d__law_draw.st) (defScope d__law_draw.st) .none kV dc pm an cd ct), sl⟩) (c : PySem.W.codeIn K cd "_law_draw" = true) (kp : PySem.W.keepIn K (.ref f) = true) : DOk K mg "_law_draw" d__law_draw :=
  ⟨f, _, hm, fun_mk (st := d__law_draw.st) l c kp, (fun_mk (st := d__law_draw.st) l c kp).binds (ps := d__law_draw.ps) fun _ _ _ _ _ _ us hl => match us, hl with | [_, _], _ => rfl, s__law_draw⟩
theorem s__law_words : FnScope d__law_words.N d__law_words.ps (defScope d__law_words.st) := ⟨rfl, rfl, rfl, by decide +kernel, rfl, by decide +kernel, by decide +kernel⟩
theorem k__law_words {K : PySem.W.Frag} {mg : Str → Option Value} {f : Addr} {od an : Option Addr} {sl : Array (Option Value)} {oc kV dc pm cd ct : Value} (hm : mg "_law_words" = some (.ref f)) (l : K.lookup f = some ⟨oc, od, .func (PySem.W.fnOf "_law_words" "_law_words" (defArgs d__law_words.st) (defBody d__law_words.st) (defScope d__law_words.st) .none kV dc pm an cd ct), sl⟩) (c : PySem.W.codeIn K cd "_law_words" = true) (kp : PySem.W.keepIn K (.ref f) = true) : DOk K mg "_law_words" d__law_words :=
  ⟨f, _, hm, fun_mk (st := d__law_words.st) l c kp, (fun_mk (st := d__law_words.st) l c kp).binds (ps := d__law_words.ps) fun _ _ _ _ _ _ us hl => match us, hl with | [_, _], _ => rfl, s__law_words⟩
theorem s__law_is_int : FnScope d__law_is_int.N d__law_is_int.ps (defScope d__law_is_int.st) := ⟨rfl, rfl, rfl, by decide +kernel, rfl, by decide +kernel, by decide +kernel⟩
theorem k__law_is_int {K : PySem.W.Frag} {mg : Str → Option Value} {f : Addr} {od an : Option Addr} {sl : Array (Option Value)} {oc kV dc pm cd ct : Value} (hm : mg "_law_is_int" = some (.ref f)) (l : K.lookup f = some ⟨oc, od, .func (PySem.W.fnOf "_law_is_int" "_law_is_int" (defArgs d__law_is_int.st) (defBody d__law_is_int.st) (defScope d__law_is_int.st) .none kV dc pm an cd ct), sl⟩) (c : PySem.W.codeIn K cd "_law_is_int" = true) (kp : PySem.W.keepIn K (.ref f) = true) : DOk K mg "_law_is_int" d__law_is_int :=
  ⟨f, _, hm, fun_mk (st := d__law_is_int.st) l c kp, (fun_mk (st := d__law_is_int.st) l c kp).binds (ps := d__law_is_int.ps) fun _ _ _ _ _ _ us hl => match us, hl with | [_], _ => rfl, s__law_is_int⟩
theorem s__law_same : FnScope d__law_same.N d__law_same.ps (defScope d__law_same.st) := ⟨rfl, rfl, rfl, by decide +kernel, rfl, by decide +kernel, by decide +kernel⟩
theorem k__law_same {K : PySem.W.Frag} {mg : Str → Option Value} {f : Addr} {od an : Option Addr} {sl : Array (Option Value)} {oc kV dc pm cd ct : Value} (hm : mg "_law_same" = some (.ref f)) (l : K.lookup f = some ⟨oc, od, .func (PySem.W.fnOf "_law_same" "_law_same" (defArgs d__law_same.st) (defBody d__law_same.st) (defScope d__law_same.st) .none kV dc pm an cd ct), sl⟩) (c : PySem.W.codeIn K cd "_law_same" = true) (kp : PySem.W.keepIn K (.ref f) = true) : DOk K mg "_law_same" d__law_same :=
  ⟨f, _, hm, fun_mk (st := d__law_same.st) l c kp, (fun_mk (st := d__law_same.st) l c kp).binds (ps := d__law_same.ps) fun _ _ _ _ _ _ us hl => match us, hl with | [_, _], _ => rfl, s__law_same⟩
theorem s__law_figures_of : FnScope d__law_figures_of.N d__law_figures_of.ps (defScope d__law_figures_of.st) := ⟨rfl, rfl, rfl, by decide +kernel, rfl, by decide +kernel, by decide +kernel⟩
theorem k__law_figures_of {K : PySem.W.Frag} {mg : Str → Option Value} {f : Addr} {od an : Option Addr} {sl : Array (Option Value)} {oc kV dc pm cd ct : Value} (hm : mg "_law_figures_of" = some (.ref f)) (l : K.lookup f = some ⟨oc, od, .func (PySem.W.fnOf "_law_figures_of" "_law_figures_of" (defArgs d__law_figures_of.st) (defBody d__law_figures_of.st) (defScope d__law_figures_of.st) .none kV dc pm an cd ct), sl⟩) (c : PySem.W.codeIn K cd "_law_figures_of" = true) (kp : PySem.W.keepIn K (.ref f) = true) : DOk K mg "_law_figures_of" d__law_figures_of :=
  ⟨f, _, hm, fun_mk (st := d__law_figures_of.st) l c kp, (fun_mk (st := d__law_figures_of.st) l c kp).binds (ps := d__law_figures_of.ps) fun _ _ _ _ _ _ us hl => match us, hl with | [_], _ => rfl, s__law_figures_of⟩
theorem s__law_long_number : FnScope d__law_long_number.N d__law_long_number.ps (defScope d__law_long_number.st) := ⟨rfl, rfl, rfl, by decide +kernel, rfl, by decide +kernel, by decide +kernel⟩
theorem k__law_long_number {K : PySem.W.Frag} {mg : Str → Option Value} {f : Addr} {od an : Option Addr} {sl : Array (Option Value)} {oc kV dc pm cd ct : Value} (hm : mg "_law_long_number" = some (.ref f)) (l : K.lookup f = some ⟨oc, od, .func (PySem.W.fnOf "_law_long_number" "_law_long_number" (defArgs d__law_long_number.st) (defBody d__law_long_number.st) (defScope d__law_long_number.st) .none kV dc pm an cd ct), sl⟩) (c : PySem.W.codeIn K cd "_law_long_number" = true) (kp : PySem.W.keepIn K (.ref f) = true) : DOk K mg "_law_long_number" d__law_long_number :=
  ⟨f, _, hm, fun_mk (st := d__law_long_number.st) l c kp, (fun_mk (st := d__law_long_number.st) l c kp).binds (ps := d__law_long_number.ps) fun _ _ _ _ _ _ us hl => match us, hl with | [_, _], _ => rfl, s__law_long_number⟩
theorem s_law : FnScope d_law.N d_law.ps (defScope d_law.st) := ⟨rfl, rfl, rfl, by decide +kernel, rfl, by decide +kernel, by decide +kernel⟩
theorem k_law {K : PySem.W.Frag} {mg : Str → Option Value} {f : Addr} {od an : Option Addr} {sl : Array (Option Value)} {oc kV dc pm cd ct : Value} (hm : mg "law" = some (.ref f)) (l : K.lookup f = some ⟨oc, od, .func (PySem.W.fnOf "law" "law" (defArgs d_law.st) (defBody d_law.st) (defScope d_law.st) .none kV dc pm an cd ct), sl⟩) (c : PySem.W.codeIn K cd "law" = true) (kp : PySem.W.keepIn K (.ref f) = true) : DOk K mg "law" d_law :=
  ⟨f, _, hm, fun_mk (st := d_law.st) l c kp, (fun_mk (st := d_law.st) l c kp).binds (ps := d_law.ps) fun _ _ _ _ _ _ us hl => match us, hl with | [_], _ => rfl, s_law⟩
theorem s_Cursor___init__ : FnScope d_Cursor___init__.N d_Cursor___init__.ps (defScope d_Cursor___init__.st) := ⟨rfl, rfl, rfl, by decide +kernel, rfl, by decide +kernel, by decide +kernel⟩
theorem k_Cursor___init___1 {K : PySem.W.Frag} {mg : Str → Option Value} {C f : Addr} {od an : Option Addr} {sl : Array (Option Value)} {oc kV dc pm cd ct : Value} (hm : mg "Cursor" = some (.ref C)) (l : K.lookup f = some ⟨oc, od, .func (PySem.W.fnOf "__init__" "Cursor.__init__" (defArgs d_Cursor___init__.st) (defBody d_Cursor___init__.st) (defScope d_Cursor___init__.st) .none kV dc pm an cd ct), sl⟩) (c : PySem.W.codeIn K cd "Cursor.__init__" = true) (kp : PySem.W.keepIn K (.ref f) = true) (M : Mk K C f) : MOk K mg "Cursor" "__init__" 1 d_Cursor___init__ [] :=
  MOk.init hm M (Y.Fun.toM (fun_mk (st := d_Cursor___init__.st) l c kp)) ((fun_mk (st := d_Cursor___init__.st) l c kp).binds (ps := d_Cursor___init__.ps) fun _ _ _ _ _ _ us hl => match us, hl with | [_, _], _ => rfl) rfl s_Cursor___init__
theorem s_Cursor_peek : FnScope d_Cursor_peek.N d_Cursor_peek.ps (defScope d_Cursor_peek.st) := ⟨rfl, rfl, rfl, by decide +kernel, rfl, by decide +kernel, by decide +kernel⟩
theorem k_Cursor_peek_0 {K : PySem.W.Frag} {mg : Str → Option Value} {C f : Addr} {od an : Option Addr} {sl : Array (Option Value)} {oc kV dc pm cd ct : Value} (hm : mg "Cursor" = some (.ref C)) {dt : Addr} {tk0 : Tok} {dtc : Option Addr} {dsl : Array (Option Value)} {dn : Nat} (lt : K.lookup dt = some ⟨.type "tuple", dtc, .seq #[.int 0 tk0] dn, dsl⟩) (l : K.lookup f = some ⟨oc, od, .func (PySem.W.fnOf "peek" "Cursor.peek" (defArgs d_Cursor_peek.st) (defBody d_Cursor_peek.st) (defScope d_Cursor_peek.st) (.ref dt) kV dc pm an cd ct), sl⟩) (c : PySem.W.codeIn K cd "Cursor.peek" = true) (kp : PySem.W.keepIn K (.ref f) = true) (cl : Cls K C) (mt : Meth K C "peek" f) : MOk K mg "Cursor" "peek" 0 d_Cursor_peek [(.int (0))] :=
  MOk.dfl hm (by decide +kernel) cl mt (dvs := [V.int 0]) (dV := .ref dt) ⟨oc, od, .ref dt, kV, dc, pm, an, cd, ct, sl, rfl, l, c⟩ l c kp (.inr ⟨by simp, dt, _, _, dn, rfl, lt, rfl, .cons ⟨_, rfl⟩ (.nil)⟩) 1 0 (by simp) rfl
    (fun T kV doc pm an cdv ct us its hu hi => match us, its, hu, hi with | [_], [_], _, _ => ⟨_, rfl, rfl⟩) (fun _ _ _ => (RpL.cons (Rp.int _) RpL.nil)) rfl s_Cursor_peek
theorem k_Cursor_peek_1 {K : PySem.W.Frag} {mg : Str → Option Value} {C f : Addr} {od an : Option Addr} {sl : Array (Option Value)} {oc kV dc pm cd ct : Value} (hm : mg "Cursor" = some (.ref C)) {dt : Addr} {tk0 : Tok} {dtc : Option Addr} {dsl : Array (Option Value)} {dn : Nat} (lt : K.lookup dt = some ⟨.type "tuple", dtc, .seq #[.int 0 tk0] dn, dsl⟩) (l : K.lookup f = some ⟨oc, od, .func (PySem.W.fnOf "peek" "Cursor.peek" (defArgs d_Cursor_peek.st) (defBody d_Cursor_peek.st) (defScope d_Cursor_peek.st) (.ref dt) kV dc pm an cd ct), sl⟩) (c : PySem.W.codeIn K cd "Cursor.peek" = true) (kp : PySem.W.keepIn K (.ref f) = true) (cl : Cls K C) (mt : Meth K C "peek" f) : MOk K mg "Cursor" "peek" 1 d_Cursor_peek [] :=
  MOk.dfl hm (by decide +kernel) cl mt (dvs := [V.int 0]) (dV := .ref dt) ⟨oc, od, .ref dt, kV, dc, pm, an, cd, ct, sl, rfl, l, c⟩ l c kp (.inr ⟨by simp, dt, _, _, dn, rfl, lt, rfl, .cons ⟨_, rfl⟩ (.nil)⟩) 2 1 (by simp) rfl
    (fun T kV doc pm an cdv ct us its hu hi => match us, its, hu, hi with | [_, _], [_], _, _ => ⟨_, rfl, rfl⟩) (fun _ _ _ => RpL.nil) rfl s_Cursor_peek
theorem s_Cursor_take : FnScope d_Cursor_take.N d_Cursor_take.ps (defScope d_Cursor_take.st) := ⟨rfl, rfl, rfl, by decide +kernel, rfl, by decide +kernel, by decide +kernel⟩
theorem k_Cursor_take_0 {K : PySem.W.Frag} {mg : Str → Option Value} {C f : Addr} {od an : Option Addr} {sl : Array (Option Value)} {oc kV dc pm cd ct : Value} (hm : mg "Cursor" = some (.ref C)) (l : K.lookup f = some ⟨oc, od, .func (PySem.W.fnOf "take" "Cursor.take" (defArgs d_Cursor_take.st) (defBody d_Cursor_take.st) (defScope d_Cursor_take.st) .none kV dc pm an cd ct), sl⟩) (c : PySem.W.codeIn K cd "Cursor.take" = true) (kp : PySem.W.keepIn K (.ref f) = true) (cl : Cls K C) (mt : Meth K C "take" f) : MOk K mg "Cursor" "take" 0 d_Cursor_take [] :=
  MOk.plain hm (by decide +kernel) cl mt (Y.Fun.toM (fun_mk (st := d_Cursor_take.st) l c kp)) ((fun_mk (st := d_Cursor_take.st) l c kp).binds (ps := d_Cursor_take.ps) fun _ _ _ _ _ _ us hl => match us, hl with | [_], _ => rfl) rfl s_Cursor_take
theorem s_Cursor_skip : FnScope d_Cursor_skip.N d_Cursor_skip.ps (defScope d_Cursor_skip.st) := ⟨rfl, rfl, rfl, by decide +kernel, rfl, by decide +kernel, by decide +kernel⟩
theorem k_Cursor_skip_1 {K : PySem.W.Frag} {mg : Str → Option Value} {C f : Addr} {od an : Option Addr} {sl : Array (Option Value)} {oc kV dc pm cd ct : Value} (hm : mg "Cursor" = some (.ref C)) (l : K.lookup f = some ⟨oc, od, .func (PySem.W.fnOf "skip" "Cursor.skip" (defArgs d_Cursor_skip.st) (defBody d_Cursor_skip.st) (defScope d_Cursor_skip.st) .none kV dc pm an cd ct), sl⟩) (c : PySem.W.codeIn K cd "Cursor.skip" = true) (kp : PySem.W.keepIn K (.ref f) = true) (cl : Cls K C) (mt : Meth K C "skip" f) : MOk K mg "Cursor" "skip" 1 d_Cursor_skip [] :=
  MOk.plain hm (by decide +kernel) cl mt (Y.Fun.toM (fun_mk (st := d_Cursor_skip.st) l c kp)) ((fun_mk (st := d_Cursor_skip.st) l c kp).binds (ps := d_Cursor_skip.ps) fun _ _ _ _ _ _ us hl => match us, hl with | [_, _], _ => rfl) rfl s_Cursor_skip
theorem s_Cursor_expect : FnScope d_Cursor_expect.N d_Cursor_expect.ps (defScope d_Cursor_expect.st) := ⟨rfl, rfl, rfl, by decide +kernel, rfl, by decide +kernel, by decide +kernel⟩
theorem k_Cursor_expect_1 {K : PySem.W.Frag} {mg : Str → Option Value} {C f : Addr} {od an : Option Addr} {sl : Array (Option Value)} {oc kV dc pm cd ct : Value} (hm : mg "Cursor" = some (.ref C)) (l : K.lookup f = some ⟨oc, od, .func (PySem.W.fnOf "expect" "Cursor.expect" (defArgs d_Cursor_expect.st) (defBody d_Cursor_expect.st) (defScope d_Cursor_expect.st) .none kV dc pm an cd ct), sl⟩) (c : PySem.W.codeIn K cd "Cursor.expect" = true) (kp : PySem.W.keepIn K (.ref f) = true) (cl : Cls K C) (mt : Meth K C "expect" f) : MOk K mg "Cursor" "expect" 1 d_Cursor_expect [] :=
  MOk.plain hm (by decide +kernel) cl mt (Y.Fun.toM (fun_mk (st := d_Cursor_expect.st) l c kp)) ((fun_mk (st := d_Cursor_expect.st) l c kp).binds (ps := d_Cursor_expect.ps) fun _ _ _ _ _ _ us hl => match us, hl with | [_, _], _ => rfl) rfl s_Cursor_expect
theorem s_Cursor_name : FnScope d_Cursor_name.N d_Cursor_name.ps (defScope d_Cursor_name.st) := ⟨rfl, rfl, rfl, by decide +kernel, rfl, by decide +kernel, by decide +kernel⟩
theorem k_Cursor_name_0 {K : PySem.W.Frag} {mg : Str → Option Value} {C f : Addr} {od an : Option Addr} {sl : Array (Option Value)} {oc kV dc pm cd ct : Value} (hm : mg "Cursor" = some (.ref C)) (l : K.lookup f = some ⟨oc, od, .func (PySem.W.fnOf "name" "Cursor.name" (defArgs d_Cursor_name.st) (defBody d_Cursor_name.st) (defScope d_Cursor_name.st) .none kV dc pm an cd ct), sl⟩) (c : PySem.W.codeIn K cd "Cursor.name" = true) (kp : PySem.W.keepIn K (.ref f) = true) (cl : Cls K C) (mt : Meth K C "name" f) : MOk K mg "Cursor" "name" 0 d_Cursor_name [] :=
  MOk.plain hm (by decide +kernel) cl mt (Y.Fun.toM (fun_mk (st := d_Cursor_name.st) l c kp)) ((fun_mk (st := d_Cursor_name.st) l c kp).binds (ps := d_Cursor_name.ps) fun _ _ _ _ _ _ us hl => match us, hl with | [_], _ => rfl) rfl s_Cursor_name
theorem s_Cursor_at_number : FnScope d_Cursor_at_number.N d_Cursor_at_number.ps (defScope d_Cursor_at_number.st) := ⟨rfl, rfl, rfl, by decide +kernel, rfl, by decide +kernel, by decide +kernel⟩
theorem k_Cursor_at_number_0 {K : PySem.W.Frag} {mg : Str → Option Value} {C f : Addr} {od an : Option Addr} {sl : Array (Option Value)} {oc kV dc pm cd ct : Value} (hm : mg "Cursor" = some (.ref C)) (l : K.lookup f = some ⟨oc, od, .func (PySem.W.fnOf "at_number" "Cursor.at_number" (defArgs d_Cursor_at_number.st) (defBody d_Cursor_at_number.st) (defScope d_Cursor_at_number.st) .none kV dc pm an cd ct), sl⟩) (c : PySem.W.codeIn K cd "Cursor.at_number" = true) (kp : PySem.W.keepIn K (.ref f) = true) (cl : Cls K C) (mt : Meth K C "at_number" f) : MOk K mg "Cursor" "at_number" 0 d_Cursor_at_number [] :=
  MOk.plain hm (by decide +kernel) cl mt (Y.Fun.toM (fun_mk (st := d_Cursor_at_number.st) l c kp)) ((fun_mk (st := d_Cursor_at_number.st) l c kp).binds (ps := d_Cursor_at_number.ps) fun _ _ _ _ _ _ us hl => match us, hl with | [_], _ => rfl) rfl s_Cursor_at_number
theorem s_Cursor_number : FnScope d_Cursor_number.N d_Cursor_number.ps (defScope d_Cursor_number.st) := ⟨rfl, rfl, rfl, by decide +kernel, rfl, by decide +kernel, by decide +kernel⟩
theorem k_Cursor_number_0 {K : PySem.W.Frag} {mg : Str → Option Value} {C f : Addr} {od an : Option Addr} {sl : Array (Option Value)} {oc kV dc pm cd ct : Value} (hm : mg "Cursor" = some (.ref C)) (l : K.lookup f = some ⟨oc, od, .func (PySem.W.fnOf "number" "Cursor.number" (defArgs d_Cursor_number.st) (defBody d_Cursor_number.st) (defScope d_Cursor_number.st) .none kV dc pm an cd ct), sl⟩) (c : PySem.W.codeIn K cd "Cursor.number" = true) (kp : PySem.W.keepIn K (.ref f) = true) (cl : Cls K C) (mt : Meth K C "number" f) : MOk K mg "Cursor" "number" 0 d_Cursor_number [] :=
  MOk.plain hm (by decide +kernel) cl mt (Y.Fun.toM (fun_mk (st := d_Cursor_number.st) l c kp)) ((fun_mk (st := d_Cursor_number.st) l c kp).binds (ps := d_Cursor_number.ps) fun _ _ _ _ _ _ us hl => match us, hl with | [_], _ => rfl) rfl s_Cursor_number
theorem s_Cursor_finish : FnScope d_Cursor_finish.N d_Cursor_finish.ps (defScope d_Cursor_finish.st) := ⟨rfl, rfl, rfl, by decide +kernel, rfl, by decide +kernel, by decide +kernel⟩
theorem k_Cursor_finish_0 {K : PySem.W.Frag} {mg : Str → Option Value} {C f : Addr} {od an : Option Addr} {sl : Array (Option Value)} {oc kV dc pm cd ct : Value} (hm : mg "Cursor" = some (.ref C)) (l : K.lookup f = some ⟨oc, od, .func (PySem.W.fnOf "finish" "Cursor.finish" (defArgs d_Cursor_finish.st) (defBody d_Cursor_finish.st) (defScope d_Cursor_finish.st) .none kV dc pm an cd ct), sl⟩) (c : PySem.W.codeIn K cd "Cursor.finish" = true) (kp : PySem.W.keepIn K (.ref f) = true) (cl : Cls K C) (mt : Meth K C "finish" f) : MOk K mg "Cursor" "finish" 0 d_Cursor_finish [] :=
  MOk.plain hm (by decide +kernel) cl mt (Y.Fun.toM (fun_mk (st := d_Cursor_finish.st) l c kp)) ((fun_mk (st := d_Cursor_finish.st) l c kp).binds (ps := d_Cursor_finish.ps) fun _ _ _ _ _ _ us hl => match us, hl with | [_], _ => rfl) rfl s_Cursor_finish
theorem all_mk {K : PySem.W.Frag} {h : Heap} {mg : Str → Option Value} {fa : Addr} (X : K.In h) (G : h.Ns mainGlobals mg) (hfa : mg "law" = some (.ref fa))
    {f0 : Addr} {od0 an0 : Option Addr} {sl0 : Array (Option Value)} {oc0 kV0 dc0 pm0 cd0 ct0 : Value} (a0 : PySem.W.nsIn K mainGlobals "run_end" = some (some (.ref f0))) (l0 : K.lookup f0 = some ⟨oc0, od0, .func (PySem.W.fnOf "run_end" "run_end" (defArgs d_run_end.st) (defBody d_run_end.st) (defScope d_run_end.st) .none kV0 dc0 pm0 an0 cd0 ct0), sl0⟩) (c0 : PySem.W.codeIn K cd0 "run_end" = true) (k0 : PySem.W.keepIn K (.ref f0) = true)
    {f1 : Addr} {od1 an1 : Option Addr} {sl1 : Array (Option Value)} {oc1 kV1 dc1 pm1 cd1 ct1 : Value} (a1 : PySem.W.nsIn K mainGlobals "word_at" = some (some (.ref f1))) (l1 : K.lookup f1 = some ⟨oc1, od1, .func (PySem.W.fnOf "word_at" "word_at" (defArgs d_word_at.st) (defBody d_word_at.st) (defScope d_word_at.st) .none kV1 dc1 pm1 an1 cd1 ct1), sl1⟩) (c1 : PySem.W.codeIn K cd1 "word_at" = true) (k1 : PySem.W.keepIn K (.ref f1) = true)
    {f2 : Addr} {od2 an2 : Option Addr} {sl2 : Array (Option Value)} {oc2 kV2 dc2 pm2 cd2 ct2 : Value} (a2 : PySem.W.nsIn K mainGlobals "number_at" = some (some (.ref f2))) (l2 : K.lookup f2 = some ⟨oc2, od2, .func (PySem.W.fnOf "number_at" "number_at" (defArgs d_number_at.st) (defBody d_number_at.st) (defScope d_number_at.st) .none kV2 dc2 pm2 an2 cd2 ct2), sl2⟩) (c2 : PySem.W.codeIn K cd2 "number_at" = true) (k2 : PySem.W.keepIn K (.ref f2) = true)
    {f3 : Addr} {od3 an3 : Option Addr} {sl3 : Array (Option Value)} {oc3 kV3 dc3 pm3 cd3 ct3 : Value} (a3 : PySem.W.nsIn K mainGlobals "token_at" = some (some (.ref f3))) (l3 : K.lookup f3 = some ⟨oc3, od3, .func (PySem.W.fnOf "token_at" "token_at" (defArgs d_token_at.st) (defBody d_token_at.st) (defScope d_token_at.st) .none kV3 dc3 pm3 an3 cd3 ct3), sl3⟩) (c3 : PySem.W.codeIn K cd3 "token_at" = true) (k3 : PySem.W.keepIn K (.ref f3) = true)
    {f4 : Addr} {od4 an4 : Option Addr} {sl4 : Array (Option Value)} {oc4 kV4 dc4 pm4 cd4 ct4 : Value} (a4 : PySem.W.nsIn K mainGlobals "tokens_of" = some (some (.ref f4))) (l4 : K.lookup f4 = some ⟨oc4, od4, .func (PySem.W.fnOf "tokens_of" "tokens_of" (defArgs d_tokens_of.st) (defBody d_tokens_of.st) (defScope d_tokens_of.st) .none kV4 dc4 pm4 an4 cd4 ct4), sl4⟩) (c4 : PySem.W.codeIn K cd4 "tokens_of" = true) (k4 : PySem.W.keepIn K (.ref f4) = true)
    {f5 : Addr} {od5 an5 : Option Addr} {sl5 : Array (Option Value)} {oc5 kV5 dc5 pm5 cd5 ct5 : Value} (a5 : PySem.W.nsIn K mainGlobals "read_signed" = some (some (.ref f5))) (l5 : K.lookup f5 = some ⟨oc5, od5, .func (PySem.W.fnOf "read_signed" "read_signed" (defArgs d_read_signed.st) (defBody d_read_signed.st) (defScope d_read_signed.st) .none kV5 dc5 pm5 an5 cd5 ct5), sl5⟩) (c5 : PySem.W.codeIn K cd5 "read_signed" = true) (k5 : PySem.W.keepIn K (.ref f5) = true)
    {f6 : Addr} {od6 an6 : Option Addr} {sl6 : Array (Option Value)} {oc6 kV6 dc6 pm6 cd6 ct6 : Value} (a6 : PySem.W.nsIn K mainGlobals "read_value" = some (some (.ref f6))) (l6 : K.lookup f6 = some ⟨oc6, od6, .func (PySem.W.fnOf "read_value" "read_value" (defArgs d_read_value.st) (defBody d_read_value.st) (defScope d_read_value.st) .none kV6 dc6 pm6 an6 cd6 ct6), sl6⟩) (c6 : PySem.W.codeIn K cd6 "read_value" = true) (k6 : PySem.W.keepIn K (.ref f6) = true)
    {f7 : Addr} {od7 an7 : Option Addr} {sl7 : Array (Option Value)} {oc7 kV7 dc7 pm7 cd7 ct7 : Value} (a7 : PySem.W.nsIn K mainGlobals "write_integer" = some (some (.ref f7))) (l7 : K.lookup f7 = some ⟨oc7, od7, .func (PySem.W.fnOf "write_integer" "write_integer" (defArgs d_write_integer.st) (defBody d_write_integer.st) (defScope d_write_integer.st) .none kV7 dc7 pm7 an7 cd7 ct7), sl7⟩) (c7 : PySem.W.codeIn K cd7 "write_integer" = true) (k7 : PySem.W.keepIn K (.ref f7) = true)
    {f8 : Addr} {od8 an8 : Option Addr} {sl8 : Array (Option Value)} {oc8 kV8 dc8 pm8 cd8 ct8 : Value} (a8 : PySem.W.nsIn K mainGlobals "write_value" = some (some (.ref f8))) (l8 : K.lookup f8 = some ⟨oc8, od8, .func (PySem.W.fnOf "write_value" "write_value" (defArgs d_write_value.st) (defBody d_write_value.st) (defScope d_write_value.st) .none kV8 dc8 pm8 an8 cd8 ct8), sl8⟩) (c8 : PySem.W.codeIn K cd8 "write_value" = true) (k8 : PySem.W.keepIn K (.ref f8) = true)
    {f9 : Addr} {od9 an9 : Option Addr} {sl9 : Array (Option Value)} {oc9 kV9 dc9 pm9 cd9 ct9 : Value} (a9 : PySem.W.nsIn K mainGlobals "read_arguments" = some (some (.ref f9))) (l9 : K.lookup f9 = some ⟨oc9, od9, .func (PySem.W.fnOf "read_arguments" "read_arguments" (defArgs d_read_arguments.st) (defBody d_read_arguments.st) (defScope d_read_arguments.st) .none kV9 dc9 pm9 an9 cd9 ct9), sl9⟩) (c9 : PySem.W.codeIn K cd9 "read_arguments" = true) (k9 : PySem.W.keepIn K (.ref f9) = true)
    {f10 : Addr} {od10 an10 : Option Addr} {sl10 : Array (Option Value)} {oc10 kV10 dc10 pm10 cd10 ct10 : Value} (a10 : PySem.W.nsIn K mainGlobals "read_row" = some (some (.ref f10))) (l10 : K.lookup f10 = some ⟨oc10, od10, .func (PySem.W.fnOf "read_row" "read_row" (defArgs d_read_row.st) (defBody d_read_row.st) (defScope d_read_row.st) .none kV10 dc10 pm10 an10 cd10 ct10), sl10⟩) (c10 : PySem.W.codeIn K cd10 "read_row" = true) (k10 : PySem.W.keepIn K (.ref f10) = true)
    {f11 : Addr} {od11 an11 : Option Addr} {sl11 : Array (Option Value)} {oc11 kV11 dc11 pm11 cd11 ct11 : Value} (a11 : PySem.W.nsIn K mainGlobals "read_test" = some (some (.ref f11))) (l11 : K.lookup f11 = some ⟨oc11, od11, .func (PySem.W.fnOf "read_test" "read_test" (defArgs d_read_test.st) (defBody d_read_test.st) (defScope d_read_test.st) .none kV11 dc11 pm11 an11 cd11 ct11), sl11⟩) (c11 : PySem.W.codeIn K cd11 "read_test" = true) (k11 : PySem.W.keepIn K (.ref f11) = true)
    {f12 : Addr} {od12 an12 : Option Addr} {sl12 : Array (Option Value)} {oc12 kV12 dc12 pm12 cd12 ct12 : Value} (a12 : PySem.W.nsIn K mainGlobals "is_plain" = some (some (.ref f12))) (l12 : K.lookup f12 = some ⟨oc12, od12, .func (PySem.W.fnOf "is_plain" "is_plain" (defArgs d_is_plain.st) (defBody d_is_plain.st) (defScope d_is_plain.st) .none kV12 dc12 pm12 an12 cd12 ct12), sl12⟩) (c12 : PySem.W.codeIn K cd12 "is_plain" = true) (k12 : PySem.W.keepIn K (.ref f12) = true)
    {f13 : Addr} {od13 an13 : Option Addr} {sl13 : Array (Option Value)} {oc13 kV13 dc13 pm13 cd13 ct13 : Value} (a13 : PySem.W.nsIn K mainGlobals "read_tests" = some (some (.ref f13))) (l13 : K.lookup f13 = some ⟨oc13, od13, .func (PySem.W.fnOf "read_tests" "read_tests" (defArgs d_read_tests.st) (defBody d_read_tests.st) (defScope d_read_tests.st) .none kV13 dc13 pm13 an13 cd13 ct13), sl13⟩) (c13 : PySem.W.codeIn K cd13 "read_tests" = true) (k13 : PySem.W.keepIn K (.ref f13) = true)
    {f14 : Addr} {od14 an14 : Option Addr} {sl14 : Array (Option Value)} {oc14 kV14 dc14 pm14 cd14 ct14 : Value} (a14 : PySem.W.nsIn K mainGlobals "write_test" = some (some (.ref f14))) (l14 : K.lookup f14 = some ⟨oc14, od14, .func (PySem.W.fnOf "write_test" "write_test" (defArgs d_write_test.st) (defBody d_write_test.st) (defScope d_write_test.st) .none kV14 dc14 pm14 an14 cd14 ct14), sl14⟩) (c14 : PySem.W.codeIn K cd14 "write_test" = true) (k14 : PySem.W.keepIn K (.ref f14) = true)
    {f15 : Addr} {od15 an15 : Option Addr} {sl15 : Array (Option Value)} {oc15 kV15 dc15 pm15 cd15 ct15 : Value} (a15 : PySem.W.nsIn K mainGlobals "write_tests" = some (some (.ref f15))) (l15 : K.lookup f15 = some ⟨oc15, od15, .func (PySem.W.fnOf "write_tests" "write_tests" (defArgs d_write_tests.st) (defBody d_write_tests.st) (defScope d_write_tests.st) .none kV15 dc15 pm15 an15 cd15 ct15), sl15⟩) (c15 : PySem.W.codeIn K cd15 "write_tests" = true) (k15 : PySem.W.keepIn K (.ref f15) = true)
    {f16 : Addr} {od16 an16 : Option Addr} {sl16 : Array (Option Value)} {oc16 kV16 dc16 pm16 cd16 ct16 : Value} (a16 : PySem.W.nsIn K mainGlobals "_law_start" = some (some (.ref f16))) (l16 : K.lookup f16 = some ⟨oc16, od16, .func (PySem.W.fnOf "_law_start" "_law_start" (defArgs d__law_start.st) (defBody d__law_start.st) (defScope d__law_start.st) .none kV16 dc16 pm16 an16 cd16 ct16), sl16⟩) (c16 : PySem.W.codeIn K cd16 "_law_start" = true) (k16 : PySem.W.keepIn K (.ref f16) = true)
    {f17 : Addr} {od17 an17 : Option Addr} {sl17 : Array (Option Value)} {oc17 kV17 dc17 pm17 cd17 ct17 : Value} (a17 : PySem.W.nsIn K mainGlobals "_law_draw" = some (some (.ref f17))) (l17 : K.lookup f17 = some ⟨oc17, od17, .func (PySem.W.fnOf "_law_draw" "_law_draw" (defArgs d__law_draw.st) (defBody d__law_draw.st) (defScope d__law_draw.st) .none kV17 dc17 pm17 an17 cd17 ct17), sl17⟩) (c17 : PySem.W.codeIn K cd17 "_law_draw" = true) (k17 : PySem.W.keepIn K (.ref f17) = true)
    {f18 : Addr} {od18 an18 : Option Addr} {sl18 : Array (Option Value)} {oc18 kV18 dc18 pm18 cd18 ct18 : Value} (a18 : PySem.W.nsIn K mainGlobals "_law_words" = some (some (.ref f18))) (l18 : K.lookup f18 = some ⟨oc18, od18, .func (PySem.W.fnOf "_law_words" "_law_words" (defArgs d__law_words.st) (defBody d__law_words.st) (defScope d__law_words.st) .none kV18 dc18 pm18 an18 cd18 ct18), sl18⟩) (c18 : PySem.W.codeIn K cd18 "_law_words" = true) (k18 : PySem.W.keepIn K (.ref f18) = true)
    {f19 : Addr} {od19 an19 : Option Addr} {sl19 : Array (Option Value)} {oc19 kV19 dc19 pm19 cd19 ct19 : Value} (a19 : PySem.W.nsIn K mainGlobals "_law_is_int" = some (some (.ref f19))) (l19 : K.lookup f19 = some ⟨oc19, od19, .func (PySem.W.fnOf "_law_is_int" "_law_is_int" (defArgs d__law_is_int.st) (defBody d__law_is_int.st) (defScope d__law_is_int.st) .none kV19 dc19 pm19 an19 cd19 ct19), sl19⟩) (c19 : PySem.W.codeIn K cd19 "_law_is_int" = true) (k19 : PySem.W.keepIn K (.ref f19) = true)
    {f20 : Addr} {od20 an20 : Option Addr} {sl20 : Array (Option Value)} {oc20 kV20 dc20 pm20 cd20 ct20 : Value} (a20 : PySem.W.nsIn K mainGlobals "_law_same" = some (some (.ref f20))) (l20 : K.lookup f20 = some ⟨oc20, od20, .func (PySem.W.fnOf "_law_same" "_law_same" (defArgs d__law_same.st) (defBody d__law_same.st) (defScope d__law_same.st) .none kV20 dc20 pm20 an20 cd20 ct20), sl20⟩) (c20 : PySem.W.codeIn K cd20 "_law_same" = true) (k20 : PySem.W.keepIn K (.ref f20) = true)
    {f21 : Addr} {od21 an21 : Option Addr} {sl21 : Array (Option Value)} {oc21 kV21 dc21 pm21 cd21 ct21 : Value} (a21 : PySem.W.nsIn K mainGlobals "_law_figures_of" = some (some (.ref f21))) (l21 : K.lookup f21 = some ⟨oc21, od21, .func (PySem.W.fnOf "_law_figures_of" "_law_figures_of" (defArgs d__law_figures_of.st) (defBody d__law_figures_of.st) (defScope d__law_figures_of.st) .none kV21 dc21 pm21 an21 cd21 ct21), sl21⟩) (c21 : PySem.W.codeIn K cd21 "_law_figures_of" = true) (k21 : PySem.W.keepIn K (.ref f21) = true)
    {f22 : Addr} {od22 an22 : Option Addr} {sl22 : Array (Option Value)} {oc22 kV22 dc22 pm22 cd22 ct22 : Value} (a22 : PySem.W.nsIn K mainGlobals "_law_long_number" = some (some (.ref f22))) (l22 : K.lookup f22 = some ⟨oc22, od22, .func (PySem.W.fnOf "_law_long_number" "_law_long_number" (defArgs d__law_long_number.st) (defBody d__law_long_number.st) (defScope d__law_long_number.st) .none kV22 dc22 pm22 an22 cd22 ct22), sl22⟩) (c22 : PySem.W.codeIn K cd22 "_law_long_number" = true) (k22 : PySem.W.keepIn K (.ref f22) = true)
    {f23 : Addr} {od23 an23 : Option Addr} {sl23 : Array (Option Value)} {oc23 kV23 dc23 pm23 cd23 ct23 : Value} (a23 : PySem.W.nsIn K mainGlobals "law" = some (some (.ref f23))) (l23 : K.lookup f23 = some ⟨oc23, od23, .func (PySem.W.fnOf "law" "law" (defArgs d_law.st) (defBody d_law.st) (defScope d_law.st) .none kV23 dc23 pm23 an23 cd23 ct23), sl23⟩) (c23 : PySem.W.codeIn K cd23 "law" = true) (k23 : PySem.W.keepIn K (.ref f23) = true)
    {CCursor : Addr} (aCursor : PySem.W.nsIn K mainGlobals "Cursor" = some (some (.ref CCursor))) (pgCursor : PySem.W.plainGet K CCursor Str.empty = true) (hdCursor : PySem.W.hasDictIn K CCursor = true) (poCursor : PySem.W.plainOver K CCursor = true) (saCursor : PySem.W.findIn K (.ref CCursor) "__setattr__" = some (some (.builtin "object.__setattr__")))
    (naCursor0 : PySem.W.findIn K (.ref CCursor) "tokens" = some none)
    (naCursor1 : PySem.W.findIn K (.ref CCursor) "at" = some none)
    {fCursor__init__ : Addr} (atCursor__init__ : PySem.W.findIn K (.ref CCursor) "__init__" = some (some (.ref fCursor__init__))) (fnCursor__init__ : PySem.W.isFn K (.ref fCursor__init__) = true) (kpCursor__init__ : PySem.W.keepIn K (.ref fCursor__init__) = true)
    {odCursor__init__ anCursor__init__ : Option Addr} {slCursor__init__ : Array (Option Value)} {ocCursor__init__ kVCursor__init__ dcCursor__init__ pmCursor__init__ cdCursor__init__ ctCursor__init__ : Value} (lCursor__init__ : K.lookup fCursor__init__ = some ⟨ocCursor__init__, odCursor__init__, .func (PySem.W.fnOf "__init__" "Cursor.__init__" (defArgs d_Cursor___init__.st) (defBody d_Cursor___init__.st) (defScope d_Cursor___init__.st) .none kVCursor__init__ dcCursor__init__ pmCursor__init__ anCursor__init__ cdCursor__init__ ctCursor__init__), slCursor__init__⟩) (cCursor__init__ : PySem.W.codeIn K cdCursor__init__ "Cursor.__init__" = true)
    (mkCursor : PySem.W.makesIn K CCursor = true) (kcCursor : PySem.W.keepIn K (.ref CCursor) = true)
    {fCursorpeek : Addr} (atCursorpeek : PySem.W.findIn K (.ref CCursor) "peek" = some (some (.ref fCursorpeek))) (fnCursorpeek : PySem.W.isFn K (.ref fCursorpeek) = true) (kpCursorpeek : PySem.W.keepIn K (.ref fCursorpeek) = true)
    {dtCursorpeek : Addr}
    {odCursorpeek anCursorpeek : Option Addr} {slCursorpeek : Array (Option Value)} {ocCursorpeek kVCursorpeek dcCursorpeek pmCursorpeek cdCursorpeek ctCursorpeek : Value} (lCursorpeek : K.lookup fCursorpeek = some ⟨ocCursorpeek, odCursorpeek, .func (PySem.W.fnOf "peek" "Cursor.peek" (defArgs d_Cursor_peek.st) (defBody d_Cursor_peek.st) (defScope d_Cursor_peek.st) (.ref dtCursorpeek) kVCursorpeek dcCursorpeek pmCursorpeek anCursorpeek cdCursorpeek ctCursorpeek), slCursorpeek⟩) (cCursorpeek : PySem.W.codeIn K cdCursorpeek "Cursor.peek" = true)
    {tkCursorpeek0 : Tok} {dtcCursorpeek : Option Addr} {dslCursorpeek : Array (Option Value)} {dnCursorpeek : Nat} (ltCursorpeek : K.lookup dtCursorpeek = some ⟨.type "tuple", dtcCursorpeek, .seq #[.int 0 tkCursorpeek0] dnCursorpeek, dslCursorpeek⟩)
    {fCursortake : Addr} (atCursortake : PySem.W.findIn K (.ref CCursor) "take" = some (some (.ref fCursortake))) (fnCursortake : PySem.W.isFn K (.ref fCursortake) = true) (kpCursortake : PySem.W.keepIn K (.ref fCursortake) = true)
    {odCursortake anCursortake : Option Addr} {slCursortake : Array (Option Value)} {ocCursortake kVCursortake dcCursortake pmCursortake cdCursortake ctCursortake : Value} (lCursortake : K.lookup fCursortake = some ⟨ocCursortake, odCursortake, .func (PySem.W.fnOf "take" "Cursor.take" (defArgs d_Cursor_take.st) (defBody d_Cursor_take.st) (defScope d_Cursor_take.st) .none kVCursortake dcCursortake pmCursortake anCursortake cdCursortake ctCursortake), slCursortake⟩) (cCursortake : PySem.W.codeIn K cdCursortake "Cursor.take" = true)
    {fCursorskip : Addr} (atCursorskip : PySem.W.findIn K (.ref CCursor) "skip" = some (some (.ref fCursorskip))) (fnCursorskip : PySem.W.isFn K (.ref fCursorskip) = true) (kpCursorskip : PySem.W.keepIn K (.ref fCursorskip) = true)
    {odCursorskip anCursorskip : Option Addr} {slCursorskip : Array (Option Value)} {ocCursorskip kVCursorskip dcCursorskip pmCursorskip cdCursorskip ctCursorskip : Value} (lCursorskip : K.lookup fCursorskip = some ⟨ocCursorskip, odCursorskip, .func (PySem.W.fnOf "skip" "Cursor.skip" (defArgs d_Cursor_skip.st) (defBody d_Cursor_skip.st) (defScope d_Cursor_skip.st) .none kVCursorskip dcCursorskip pmCursorskip anCursorskip cdCursorskip ctCursorskip), slCursorskip⟩) (cCursorskip : PySem.W.codeIn K cdCursorskip "Cursor.skip" = true)
    {fCursorexpect : Addr} (atCursorexpect : PySem.W.findIn K (.ref CCursor) "expect" = some (some (.ref fCursorexpect))) (fnCursorexpect : PySem.W.isFn K (.ref fCursorexpect) = true) (kpCursorexpect : PySem.W.keepIn K (.ref fCursorexpect) = true)
    {odCursorexpect anCursorexpect : Option Addr} {slCursorexpect : Array (Option Value)} {ocCursorexpect kVCursorexpect dcCursorexpect pmCursorexpect cdCursorexpect ctCursorexpect : Value} (lCursorexpect : K.lookup fCursorexpect = some ⟨ocCursorexpect, odCursorexpect, .func (PySem.W.fnOf "expect" "Cursor.expect" (defArgs d_Cursor_expect.st) (defBody d_Cursor_expect.st) (defScope d_Cursor_expect.st) .none kVCursorexpect dcCursorexpect pmCursorexpect anCursorexpect cdCursorexpect ctCursorexpect), slCursorexpect⟩) (cCursorexpect : PySem.W.codeIn K cdCursorexpect "Cursor.expect" = true)
    {fCursorname : Addr} (atCursorname : PySem.W.findIn K (.ref CCursor) "name" = some (some (.ref fCursorname))) (fnCursorname : PySem.W.isFn K (.ref fCursorname) = true) (kpCursorname : PySem.W.keepIn K (.ref fCursorname) = true)
    {odCursorname anCursorname : Option Addr} {slCursorname : Array (Option Value)} {ocCursorname kVCursorname dcCursorname pmCursorname cdCursorname ctCursorname : Value} (lCursorname : K.lookup fCursorname = some ⟨ocCursorname, odCursorname, .func (PySem.W.fnOf "name" "Cursor.name" (defArgs d_Cursor_name.st) (defBody d_Cursor_name.st) (defScope d_Cursor_name.st) .none kVCursorname dcCursorname pmCursorname anCursorname cdCursorname ctCursorname), slCursorname⟩) (cCursorname : PySem.W.codeIn K cdCursorname "Cursor.name" = true)
    {fCursorat_number : Addr} (atCursorat_number : PySem.W.findIn K (.ref CCursor) "at_number" = some (some (.ref fCursorat_number))) (fnCursorat_number : PySem.W.isFn K (.ref fCursorat_number) = true) (kpCursorat_number : PySem.W.keepIn K (.ref fCursorat_number) = true)
    {odCursorat_number anCursorat_number : Option Addr} {slCursorat_number : Array (Option Value)} {ocCursorat_number kVCursorat_number dcCursorat_number pmCursorat_number cdCursorat_number ctCursorat_number : Value} (lCursorat_number : K.lookup fCursorat_number = some ⟨ocCursorat_number, odCursorat_number, .func (PySem.W.fnOf "at_number" "Cursor.at_number" (defArgs d_Cursor_at_number.st) (defBody d_Cursor_at_number.st) (defScope d_Cursor_at_number.st) .none kVCursorat_number dcCursorat_number pmCursorat_number anCursorat_number cdCursorat_number ctCursorat_number), slCursorat_number⟩) (cCursorat_number : PySem.W.codeIn K cdCursorat_number "Cursor.at_number" = true)
    {fCursornumber : Addr} (atCursornumber : PySem.W.findIn K (.ref CCursor) "number" = some (some (.ref fCursornumber))) (fnCursornumber : PySem.W.isFn K (.ref fCursornumber) = true) (kpCursornumber : PySem.W.keepIn K (.ref fCursornumber) = true)
    {odCursornumber anCursornumber : Option Addr} {slCursornumber : Array (Option Value)} {ocCursornumber kVCursornumber dcCursornumber pmCursornumber cdCursornumber ctCursornumber : Value} (lCursornumber : K.lookup fCursornumber = some ⟨ocCursornumber, odCursornumber, .func (PySem.W.fnOf "number" "Cursor.number" (defArgs d_Cursor_number.st) (defBody d_Cursor_number.st) (defScope d_Cursor_number.st) .none kVCursornumber dcCursornumber pmCursornumber anCursornumber cdCursornumber ctCursornumber), slCursornumber⟩) (cCursornumber : PySem.W.codeIn K cdCursornumber "Cursor.number" = true)
    {fCursorfinish : Addr} (atCursorfinish : PySem.W.findIn K (.ref CCursor) "finish" = some (some (.ref fCursorfinish))) (fnCursorfinish : PySem.W.isFn K (.ref fCursorfinish) = true) (kpCursorfinish : PySem.W.keepIn K (.ref fCursorfinish) = true)
    {odCursorfinish anCursorfinish : Option Addr} {slCursorfinish : Array (Option Value)} {ocCursorfinish kVCursorfinish dcCursorfinish pmCursorfinish cdCursorfinish ctCursorfinish : Value} (lCursorfinish : K.lookup fCursorfinish = some ⟨ocCursorfinish, odCursorfinish, .func (PySem.W.fnOf "finish" "Cursor.finish" (defArgs d_Cursor_finish.st) (defBody d_Cursor_finish.st) (defScope d_Cursor_finish.st) .none kVCursorfinish dcCursorfinish pmCursorfinish anCursorfinish cdCursorfinish ctCursorfinish), slCursorfinish⟩) (cCursorfinish : PySem.W.codeIn K cdCursorfinish "Cursor.finish" = true)
    {z0 : Tok} (n0 : PySem.W.nsIn K mainGlobals "LETTERS" = some (some (.str "abcdefghijklmnopqrstuvwxyz" z0)))
    {z1 : Tok} (n1 : PySem.W.nsIn K mainGlobals "DIGITS" = some (some (.str "0123456789" z1)))
    {z2 : Addr} (n2 : PySem.W.nsIn K mainGlobals "PAIRS" = some (some (.ref z2)))
    {t2_0_0 t2_0_1 t2_0_2 t2_0_3 t2_0_4 : Tok}
    {o2_0 : Option Addr} {m2_0 : Nat} {s2_0 : Array (Option Value)} (v2_0 : K.lookup z2 = some ⟨.type "tuple", o2_0, .seq #[.str "<=" t2_0_0, .str ">=" t2_0_1, .str "==" t2_0_2, .str "!=" t2_0_3, .str "//" t2_0_4] m2_0, s2_0⟩)
    {z3 : Tok} (n3 : PySem.W.nsIn K mainGlobals "SINGLES" = some (some (.str "<>+-*()[]{},.:=#@" z3)))
    {z4 : Tok} (n4 : PySem.W.nsIn K mainGlobals "MOST_TOKENS" = some (some (.int (40) z4)))
    {z5 : Tok} (n5 : PySem.W.nsIn K mainGlobals "MOST_DIGITS" = some (some (.int (6) z5)))
    {z6 : Tok} (n6 : PySem.W.nsIn K mainGlobals "MOST_SIGNS" = some (some (.int (16) z6)))
    {z7 : Addr} (n7 : PySem.W.nsIn K mainGlobals "RESERVED" = some (some (.ref z7)))
    {t7_0_0 t7_0_1 t7_0_2 t7_0_3 t7_0_4 t7_0_5 t7_0_6 t7_0_7 t7_0_8 t7_0_9 t7_0_10 t7_0_11 t7_0_12 t7_0_13 t7_0_14 t7_0_15 t7_0_16 t7_0_17 t7_0_18 t7_0_19 t7_0_20 t7_0_21 t7_0_22 t7_0_23 t7_0_24 t7_0_25 t7_0_26 : Tok}
    {o7_0 : Option Addr} {m7_0 : Nat} {s7_0 : Array (Option Value)} (v7_0 : K.lookup z7 = some ⟨.type "tuple", o7_0, .seq #[.str "record" t7_0_0, .str "field" t7_0_1, .str "end" t7_0_2, .str "proc" t7_0_3, .str "gives" t7_0_4, .str "int" t7_0_5, .str "local" t7_0_6, .str "need" t7_0_7, .str "hint" t7_0_8, .str "ensure" t7_0_9, .str "try" t7_0_10, .str "set" t7_0_11, .str "push" t7_0_12, .str "to" t7_0_13, .str "pop" t7_0_14, .str "from" t7_0_15, .str "if" t7_0_16, .str "else" t7_0_17, .str "while" t7_0_18, .str "call" t7_0_19, .str "give" t7_0_20, .str "pause" t7_0_21, .str "not" t7_0_22, .str "and" t7_0_23, .str "or" t7_0_24, .str "mod" t7_0_25, .str "result" t7_0_26] m7_0, s7_0⟩)
    {z8 : Tok} (n8 : PySem.W.nsIn K mainGlobals "BASE" = some (some (.int (10000000000000000000000000000000000000000000000000000000000000000) z8)))
    (b0 : PySem.W.nsIn K mainGlobals "abs" = some none)
    (b1 : PySem.W.nsIn K mainGlobals "all" = some none)
    (b2 : PySem.W.nsIn K mainGlobals "any" = some none)
    (b3 : PySem.W.nsIn K mainGlobals "bool" = some none)
    (b4 : PySem.W.nsIn K mainGlobals "divmod" = some none)
    (b5 : PySem.W.nsIn K mainGlobals "enumerate" = some none)
    (b6 : PySem.W.nsIn K mainGlobals "int" = some none)
    (b7 : PySem.W.nsIn K mainGlobals "isinstance" = some none)
    (b8 : PySem.W.nsIn K mainGlobals "len" = some none)
    (b9 : PySem.W.nsIn K mainGlobals "list" = some none)
    (b10 : PySem.W.nsIn K mainGlobals "range" = some none)
    (b11 : PySem.W.nsIn K mainGlobals "str" = some none)
    (b12 : PySem.W.nsIn K mainGlobals "tuple" = some none)
    {x0 : Addr} (y0 : PySem.W.nsIn K mainGlobals "WrongLine" = some (some (.ref x0))) (eb0 : PySem.W.subIn K (.ref x0) (.type "BaseException") = some true) (et0 : PySem.W.typeIn K (.ref x0) = some (.type "type")) (ed0 : PySem.W.hasDictIn K x0 = true)
    (eq0 : PySem.W.excIn K x0 [.type "ValueError", .type "Exception", .type "BaseException", .type "object"] "ValueError.__new__" = true) (ek0 : PySem.W.keepIn K (.ref x0) = true)
    (eg0 : PySem.W.findIn K (.ref x0) "__getattribute__" = some (some (.builtin "BaseException.__getattribute__"))) (eh0 : PySem.W.findIn K (.ref x0) "__getattr__" = some none) (ec0 : PySem.W.findIn K (.ref x0) "__class__" = some (some (.builtin "object.__class__"))) (em0 : PySem.W.mroIn K x0 (.type "object") = some true)
    (en : PySem.W.specialIn K (.builtin "object.__class__") "__get__" = some (some (.builtin "getset_descriptor.__get__"))) (ev : PySem.W.takesIn K (.builtin "object.__class__") = some true)
    (es0 : PySem.W.subIn K (.ref x0) (.ref x0) = some true) :
    ∃ fd : FuncData, (∀ (s : Shared) (u : Value), BindsTo s fd ⟨[u], []⟩ [("script", u)]) ∧ PgOk pg K mg ∧ Fun K "law" "law" d_law.st fa fd ∧ FnScope d_law.N d_law.ps (defScope d_law.st) := by
  have e := hfa.symm.trans (PySem.W.mg_of X G a23)
  cases e
  have hb : ∀ x ∈ bls, mg x = none := (List.forall_mem_cons.mpr ⟨PySem.W.mg_none_of X G b0, (List.forall_mem_cons.mpr ⟨PySem.W.mg_none_of X G b1, (List.forall_mem_cons.mpr ⟨PySem.W.mg_none_of X G b2, (List.forall_mem_cons.mpr ⟨PySem.W.mg_none_of X G b3, (List.forall_mem_cons.mpr ⟨PySem.W.mg_none_of X G b4, (List.forall_mem_cons.mpr ⟨PySem.W.mg_none_of X G b5, (List.forall_mem_cons.mpr ⟨PySem.W.mg_none_of X G b6, (List.forall_mem_cons.mpr ⟨PySem.W.mg_none_of X G b7, (List.forall_mem_cons.mpr ⟨PySem.W.mg_none_of X G b8, (List.forall_mem_cons.mpr ⟨PySem.W.mg_none_of X G b9, (List.forall_mem_cons.mpr ⟨PySem.W.mg_none_of X G b10, (List.forall_mem_cons.mpr ⟨PySem.W.mg_none_of X G b11, (List.forall_mem_cons.mpr ⟨PySem.W.mg_none_of X G b12, (by intro _ h; cases h)⟩)⟩)⟩)⟩)⟩)⟩)⟩)⟩)⟩)⟩)⟩)⟩)⟩)
  have hc : ∀ p ∈ csts, COk K mg p.1 p.2 := (List.forall_mem_cons.mpr ⟨cok_of (PySem.W.mg_of X G n0) vok_str, (List.forall_mem_cons.mpr ⟨cok_of (PySem.W.mg_of X G n1) vok_str, (List.forall_mem_cons.mpr ⟨cok_of (PySem.W.mg_of X G n2) (vok_tup v2_0 (Nat.le_of_ble_eq_true rfl) ⟨vok_str, ⟨vok_str, ⟨vok_str, ⟨vok_str, ⟨vok_str, trivial⟩⟩⟩⟩⟩), (List.forall_mem_cons.mpr ⟨cok_of (PySem.W.mg_of X G n3) vok_str, (List.forall_mem_cons.mpr ⟨cok_of (PySem.W.mg_of X G n4) vok_int, (List.forall_mem_cons.mpr ⟨cok_of (PySem.W.mg_of X G n5) vok_int, (List.forall_mem_cons.mpr ⟨cok_of (PySem.W.mg_of X G n6) vok_int, (List.forall_mem_cons.mpr ⟨cok_of (PySem.W.mg_of X G n7) (vok_tup v7_0 (Nat.le_of_ble_eq_true rfl) ⟨vok_str, ⟨vok_str, ⟨vok_str, ⟨vok_str, ⟨vok_str, ⟨vok_str, ⟨vok_str, ⟨vok_str, ⟨vok_str, ⟨vok_str, ⟨vok_str, ⟨vok_str, ⟨vok_str, ⟨vok_str, ⟨vok_str, ⟨vok_str, ⟨vok_str, ⟨vok_str, ⟨vok_str, ⟨vok_str, ⟨vok_str, ⟨vok_str, ⟨vok_str, ⟨vok_str, ⟨vok_str, ⟨vok_str, ⟨vok_str, trivial⟩⟩⟩⟩⟩⟩⟩⟩⟩⟩⟩⟩⟩⟩⟩⟩⟩⟩⟩⟩⟩⟩⟩⟩⟩⟩⟩), (List.forall_mem_cons.mpr ⟨cok_of (PySem.W.mg_of X G n8) vok_int, (by intro _ h; cases h)⟩)⟩)⟩)⟩)⟩)⟩)⟩)⟩)⟩)
  have hd : ∀ p ∈ tbl, DOk K mg p.1 p.2 := (List.forall_mem_cons.mpr ⟨k_run_end (PySem.W.mg_of X G a0) l0 c0 k0, (List.forall_mem_cons.mpr ⟨k_word_at (PySem.W.mg_of X G a1) l1 c1 k1, (List.forall_mem_cons.mpr ⟨k_number_at (PySem.W.mg_of X G a2) l2 c2 k2, (List.forall_mem_cons.mpr ⟨k_token_at (PySem.W.mg_of X G a3) l3 c3 k3, (List.forall_mem_cons.mpr ⟨k_tokens_of (PySem.W.mg_of X G a4) l4 c4 k4, (List.forall_mem_cons.mpr ⟨k_read_signed (PySem.W.mg_of X G a5) l5 c5 k5, (List.forall_mem_cons.mpr ⟨k_read_value (PySem.W.mg_of X G a6) l6 c6 k6, (List.forall_mem_cons.mpr ⟨k_write_integer (PySem.W.mg_of X G a7) l7 c7 k7, (List.forall_mem_cons.mpr ⟨k_write_value (PySem.W.mg_of X G a8) l8 c8 k8, (List.forall_mem_cons.mpr ⟨k_read_arguments (PySem.W.mg_of X G a9) l9 c9 k9, (List.forall_mem_cons.mpr ⟨k_read_row (PySem.W.mg_of X G a10) l10 c10 k10, (List.forall_mem_cons.mpr ⟨k_read_test (PySem.W.mg_of X G a11) l11 c11 k11, (List.forall_mem_cons.mpr ⟨k_is_plain (PySem.W.mg_of X G a12) l12 c12 k12, (List.forall_mem_cons.mpr ⟨k_read_tests (PySem.W.mg_of X G a13) l13 c13 k13, (List.forall_mem_cons.mpr ⟨k_write_test (PySem.W.mg_of X G a14) l14 c14 k14, (List.forall_mem_cons.mpr ⟨k_write_tests (PySem.W.mg_of X G a15) l15 c15 k15, (List.forall_mem_cons.mpr ⟨k__law_start (PySem.W.mg_of X G a16) l16 c16 k16, (List.forall_mem_cons.mpr ⟨k__law_draw (PySem.W.mg_of X G a17) l17 c17 k17, (List.forall_mem_cons.mpr ⟨k__law_words (PySem.W.mg_of X G a18) l18 c18 k18, (List.forall_mem_cons.mpr ⟨k__law_is_int (PySem.W.mg_of X G a19) l19 c19 k19, (List.forall_mem_cons.mpr ⟨k__law_same (PySem.W.mg_of X G a20) l20 c20 k20, (List.forall_mem_cons.mpr ⟨k__law_figures_of (PySem.W.mg_of X G a21) l21 c21 k21, (List.forall_mem_cons.mpr ⟨k__law_long_number (PySem.W.mg_of X G a22) l22 c22 k22, (List.forall_mem_cons.mpr ⟨k_law (PySem.W.mg_of X G a23) l23 c23 k23, (by intro _ h; cases h)⟩)⟩)⟩)⟩)⟩)⟩)⟩)⟩)⟩)⟩)⟩)⟩)⟩)⟩)⟩)⟩)⟩)⟩)⟩)⟩)⟩)⟩)⟩)⟩)
  have he : ∀ x ∈ exl, ExOk K mg x := (List.forall_mem_cons.mpr ⟨exOk_mk (PySem.W.mg_of X G y0) eq0 ek0 eb0 et0, (by intro _ h; cases h)⟩)
  have hs : ∀ p ∈ subl, SubOk K mg p.1.1 p.1.2 p.2 := (List.forall_mem_cons.mpr ⟨subOk_mk (PySem.W.mg_of X G y0) (PySem.W.mg_of X G y0) ⟨eg0, eh0, eb0, ed0, ec0, en, ev, em0⟩ eb0 ed0 et0 es0 (.inl rfl), (by intro _ h; cases h)⟩)
  have hf : ∀ p ∈ fldl, FldOk K mg p.1 p.2 := (List.forall_mem_cons.mpr ⟨⟨CCursor, (PySem.W.mg_of X G aCursor), ⟨pgCursor, hdCursor, poCursor, saCursor⟩, naCursor0⟩, (List.forall_mem_cons.mpr ⟨⟨CCursor, (PySem.W.mg_of X G aCursor), ⟨pgCursor, hdCursor, poCursor, saCursor⟩, naCursor1⟩, (by intro _ h; cases h)⟩)⟩)
  have hq : ∀ p ∈ mthl, ∃ d, (match List.lookup p.2.1 tbl with | some d => some d | none => List.lookup p.2.1 mtbl) = some d ∧ MOk K mg p.1.1 p.1.2.1 p.1.2.2 d p.2.2 := (List.forall_mem_cons.mpr ⟨⟨d_Cursor___init__, rfl, k_Cursor___init___1 (PySem.W.mg_of X G aCursor) lCursor__init__ cCursor__init__ kpCursor__init__ ⟨mkCursor, atCursor__init__, fnCursor__init__, kcCursor⟩⟩, (List.forall_mem_cons.mpr ⟨⟨d_Cursor_peek, rfl, k_Cursor_peek_0 (PySem.W.mg_of X G aCursor) ltCursorpeek lCursorpeek cCursorpeek kpCursorpeek ⟨pgCursor, hdCursor, poCursor, saCursor⟩ ⟨atCursorpeek, fnCursorpeek, kpCursorpeek⟩⟩, (List.forall_mem_cons.mpr ⟨⟨d_Cursor_peek, rfl, k_Cursor_peek_1 (PySem.W.mg_of X G aCursor) ltCursorpeek lCursorpeek cCursorpeek kpCursorpeek ⟨pgCursor, hdCursor, poCursor, saCursor⟩ ⟨atCursorpeek, fnCursorpeek, kpCursorpeek⟩⟩, (List.forall_mem_cons.mpr ⟨⟨d_Cursor_take, rfl, k_Cursor_take_0 (PySem.W.mg_of X G aCursor) lCursortake cCursortake kpCursortake ⟨pgCursor, hdCursor, poCursor, saCursor⟩ ⟨atCursortake, fnCursortake, kpCursortake⟩⟩, (List.forall_mem_cons.mpr ⟨⟨d_Cursor_skip, rfl, k_Cursor_skip_1 (PySem.W.mg_of X G aCursor) lCursorskip cCursorskip kpCursorskip ⟨pgCursor, hdCursor, poCursor, saCursor⟩ ⟨atCursorskip, fnCursorskip, kpCursorskip⟩⟩, (List.forall_mem_cons.mpr ⟨⟨d_Cursor_expect, rfl, k_Cursor_expect_1 (PySem.W.mg_of X G aCursor) lCursorexpect cCursorexpect kpCursorexpect ⟨pgCursor, hdCursor, poCursor, saCursor⟩ ⟨atCursorexpect, fnCursorexpect, kpCursorexpect⟩⟩, (List.forall_mem_cons.mpr ⟨⟨d_Cursor_name, rfl, k_Cursor_name_0 (PySem.W.mg_of X G aCursor) lCursorname cCursorname kpCursorname ⟨pgCursor, hdCursor, poCursor, saCursor⟩ ⟨atCursorname, fnCursorname, kpCursorname⟩⟩, (List.forall_mem_cons.mpr ⟨⟨d_Cursor_at_number, rfl, k_Cursor_at_number_0 (PySem.W.mg_of X G aCursor) lCursorat_number cCursorat_number kpCursorat_number ⟨pgCursor, hdCursor, poCursor, saCursor⟩ ⟨atCursorat_number, fnCursorat_number, kpCursorat_number⟩⟩, (List.forall_mem_cons.mpr ⟨⟨d_Cursor_number, rfl, k_Cursor_number_0 (PySem.W.mg_of X G aCursor) lCursornumber cCursornumber kpCursornumber ⟨pgCursor, hdCursor, poCursor, saCursor⟩ ⟨atCursornumber, fnCursornumber, kpCursornumber⟩⟩, (List.forall_mem_cons.mpr ⟨⟨d_Cursor_finish, rfl, k_Cursor_finish_0 (PySem.W.mg_of X G aCursor) lCursorfinish cCursorfinish kpCursorfinish ⟨pgCursor, hdCursor, poCursor, saCursor⟩ ⟨atCursorfinish, fnCursorfinish, kpCursorfinish⟩⟩, (by intro _ h; cases h)⟩)⟩)⟩)⟩)⟩)⟩)⟩)⟩)⟩)⟩)
  exact ⟨PySem.W.fnOf "law" "law" (defArgs d_law.st) (defBody d_law.st) (defScope d_law.st) .none kV23 dc23 pm23 an23 cd23 ct23, fun s v => .of_eq rfl, pg_mk hb hc hd he hs hf hq, fun_mk l23 c23 k23, s_law⟩
end K64

set_option Elab.async false
set_option linter.all false
set_option maxRecDepth 100000
set_option maxHeartbeats 4000000
/-! P64a: digits and texts as lists of code points. -/
namespace K64
open PySem L2 Y SX
/-! ### digits -/
def padL : Nat → Nat → List Nat
  | 0, _ => []
  | k + 1, r => padL k (r / 10) ++ [48 + r % 10]
theorem padL_len : ∀ k r, (padL k r).length = k
  | 0, _ => rfl
  | k + 1, r => by simp [padL, padL_len k]
theorem padL_zero : ∀ k, padL k 0 = List.replicate k 48
  | 0 => rfl
  | k + 1 => by rw [List.replicate_succ', ← padL_zero k]; rfl
theorem padL_digits : ∀ k r, NumText.AllDigits (padL k r)
  | 0, _ => fun _ h => nomatch h
  | k + 1, r => fun c hc => by
    rcases List.mem_append.mp hc with h | h
    · exact padL_digits k _ c h
    · rw [List.mem_singleton.mp h]; omega
theorem numL_app {q : Nat} (hq : 0 < q) : ∀ {k r : Nat}, r < 10 ^ k → TL.numL (q * 10 ^ k + r) = TL.numL q ++ padL k r
  | 0, r, h => by
    have : r = 0 := by simpa using h
    subst this; simp [padL]
  | k + 1, r, h => by
    have h2 : r / 10 < 10 ^ k := by rw [Nat.pow_succ] at h; omega
    have hp : 0 < 10 ^ k := Nat.pow_pos (by decide)
    have e1 : q * 10 ^ (k + 1) = 10 * (q * 10 ^ k) := by rw [Nat.pow_succ]; rw [← Nat.mul_assoc, Nat.mul_comm]
    have h1 : 0 < q * 10 ^ k := Nat.mul_pos hq hp
    rw [TL.numL_step (by omega), show (q * 10 ^ (k + 1) + r) / 10 = q * 10 ^ k + r / 10 by omega, numL_app hq h2, show (q * 10 ^ (k + 1) + r) % 10 = r % 10 by omega]
    simp [padL]
theorem padL_num : ∀ {k r : Nat}, 0 < k → r < 10 ^ k → padL k r = List.replicate (k - (TL.numL r).length) 48 ++ TL.numL r
  | k + 1, r, _, h => by
    by_cases h10 : r < 10
    · rw [TL.numL_lt h10]
      show padL k (r / 10) ++ [48 + r % 10] = _
      rw [show r / 10 = 0 by omega, padL_zero, show r % 10 = r by omega]; rfl
    · rw [TL.numL_step (by omega)]
      show padL k (r / 10) ++ [48 + r % 10] = _
      have h2 : r / 10 < 10 ^ k := by rw [Nat.pow_succ] at h; omega
      cases k with
      | zero => simp at h2; omega
      | succ k =>
        rw [padL_num (by omega) h2]
        simp
theorem chunk {k r : Nat} (h : r < 10 ^ k) : (TL.numL (10 ^ k + r)).drop 1 = padL k r := by
  have := numL_app (q := 1) (by decide) h
  rw [Nat.one_mul] at this
  rw [this, TL.numL_lt (by decide)]
  rfl
theorem val_app (a b : List Nat) : NumText.digitsVal (a ++ b) = NumText.digitsVal a * 10 ^ b.length + NumText.digitsVal b := by
  have key : ∀ (b : List Nat) (x : Nat), b.foldl (fun acc c => acc * 10 + (c - 48)) x = x * 10 ^ b.length + b.foldl (fun acc c => acc * 10 + (c - 48)) 0 := by
    intro b
    induction b with
    | nil => intro x; simp
    | cons c b ih =>
      intro x
      rw [List.foldl_cons, List.foldl_cons, ih (x * 10 + (c - 48)), ih (0 * 10 + (c - 48)), List.length_cons, Nat.pow_succ, Nat.add_mul, Nat.add_mul, Nat.mul_assoc x 10, Nat.mul_comm 10]
      omega
  unfold NumText.digitsVal
  rw [List.foldl_append]
  exact key b _
/-! ### texts -/
theorem tl_S (l : List Nat) : (S l).cps.toList = l := rfl
theorem S_eq {a b : List Nat} : (S a = S b) ↔ a = b := ⟨S_inj, fun h => by rw [h]⟩
theorem cutS_S (l : List Nat) (lo hi : Option Int) : cutS (S l) lo hi = S ((l.drop (HT.sIx l.length 0 lo)).take (HT.sIx l.length l.length hi - HT.sIx l.length 0 lo)) := by
  unfold cutS
  rw [S_len]
theorem cutS_A (l : List Nat) (lo hi : Option Int) : cutS (S l) lo hi = S (cutA l lo hi) := cutS_S l lo hi
theorem cutS_from {l : List Nat} {i : Nat} : cutS (S l) (some (i : Int)) none = S (l.drop i) := by rw [cutS_A, cut_from]
theorem cutS_to {l : List Nat} {i : Nat} : cutS (S l) none (some (i : Int)) = S (l.take i) := by rw [cutS_A, cut_to]
theorem cutS_mid {l : List Nat} {i j : Nat} (hj : j ≤ l.length) : cutS (S l) (some (i : Int)) (some (j : Int)) = S ((l.take j).drop i) := by
  rw [cutS_S, sIx_nat, sIx_nat, Nat.min_eq_left hj]
  congr 1
  rw [List.take_drop]
  by_cases h : i ≤ l.length
  · rw [Nat.min_eq_left h]
    by_cases h2 : i ≤ j
    · rw [Nat.add_sub_of_le h2]
    · rw [show i + (j - i) = i by omega, List.drop_of_length_le (by simp; omega), List.drop_of_length_le (by simp; omega)]
  · rw [List.drop_of_length_le (by simp; omega), List.drop_of_length_le (by simp; omega)]
theorem chars_S (l : List Nat) : charsD (S l) = l.map fun c => .str (S [c]) := rfl
theorem pIx_S {l : List Nat} {i : Int} {s : Sto} (h : l.length ≤ sizeLine) : pIx (.str (S l)) (.int i) s = (atI l i).map fun c => (.str (S [c]), s) := by
  unfold pIx
  simp only [S_len, if_pos h]
theorem pLen_S {l : List Nat} {s : Sto} (h : l.length ≤ sizeLine) : pLen [.str (S l)] s = some (.int l.length, s) := by
  unfold pLen
  simp only [S_len, if_pos h]
theorem pIn_S {l : List Nat} {c : Nat} {s : Sto} : pIn (.str (S [c])) (.str (S l)) s = some (.bl (decide (c ∈ l)), s) := by
  unfold pIn inP
  simp only [in_one, Option.map_some]
theorem pNotIn_S {l : List Nat} {c : Nat} {s : Sto} : pNotIn (.str (S [c])) (.str (S l)) s = some (.bl (!decide (c ∈ l)), s) := by
  unfold pNotIn inP
  simp only [in_one, Option.map_some]
theorem pOrd_S {c : Nat} {s : Sto} : pOrd [.str (S [c])] s = some (.int (c : Nat), s) := rfl
theorem pAdd_S {a b : List Nat} {s : Sto} (h : a.length + b.length ≤ sizeLine) : pAdd (.str (S a)) (.str (S b)) s = some (.str (S (a ++ b)), s) := by
  rw [pAdd_str, S_len, S_len, if_pos h, S_cat]
theorem pSl_S {l : List Nat} {lo hi : Option Int} {s : Sto} (h : l.length ≤ sizeLine) : pSl (.str (S l)) lo hi s = some (.str (cutS (S l) lo hi), s) := by
  rw [pSl_str, S_len, if_pos h]
theorem pEq_S {a b : List Nat} {s : Sto} : pEq (.str (S a)) (.str (S b)) s = some (.bl (decide (a = b)), s) := by
  rw [pEq_str, decide_eq_decide.mpr S_eq]
theorem pNe_S {a b : List Nat} {s : Sto} : pNe (.str (S a)) (.str (S b)) s = some (.bl (!decide (a = b)), s) := by
  rw [pNe_str, decide_eq_decide.mpr S_eq]
theorem pStr_nat {n : Nat} {s : Sto} (h : n.log2 < 1900) : pStr [.int (n : Int)] s = some (.str (S (TL.numL n)), s) := by
  rw [pStr_int, Int.natAbs_natCast, if_pos h, num_S]
theorem pInt_S {l : List Nat} {s : Sto} (h : NumText.AllDigits l) (hn : l ≠ []) (hl : l.length ≤ 640) : pIntC [.str (S l)] s = some (.int (NumText.digitsVal l : Nat), s) := by
  rw [pIntC_str, S_len, if_pos hl, intText_digits (x := S l) h hn (by rw [S_len]; omega)]; rfl
theorem sz : sizeLine = 16777216 := szEq
theorem joinL_nil : ∀ xs : List (List Nat), TL.joinL [] xs = xs.flatten
  | [] => rfl
  | [a] => by simp [TL.joinL]
  | a :: b :: r => by rw [TL.joinL, joinL_nil (b :: r)]; simp
theorem joinL_len (w : List Nat) : ∀ xs : List (List Nat), (TL.joinL w xs).length ≤ (xs.map (·.length)).sum + xs.length * w.length
  | [] => by simp [TL.joinL]
  | [a] => by simp [TL.joinL]
  | a :: b :: r => by
    have := joinL_len w (b :: r)
    simp only [TL.joinL, List.length_append, List.map_cons, List.sum_cons, List.length_cons] at this ⊢
    simp only [Nat.add_mul] at this ⊢
    omega
/-- 0-padded to k figures -/
theorem zfill_S {k r : Nat} (hk : 0 < k) (h : r < 10 ^ k) : Txt.zfill (S (TL.numL r)) (k : Int) = S (padL k r) := by
  have hl := TL.numL_len hk h
  rw [padL_num hk h]
  unfold Txt.zfill
  rw [S_len]
  split
  · rename_i e
    have : k - (TL.numL r).length = 0 := by omega
    rw [this]; rfl
  · unfold PySem.zfilled
    have hne := TL.numL_ne r
    have hd := TL.numL_digits r
    rw [S_len]
    generalize TL.numL r = w at hne hd
    cases w with
    | nil => exact absurd rfl hne
    | cons c w =>
      have hc := hd.head
      have e : (S (c :: w)).cps[0]? = some c := by simp
      rw [e]
      split
      · rename_i h43; cases h43; omega
      · rename_i h43; cases h43; omega
      · refine TL.ext_tl ?_
        show ((Array.replicate _ 48 ++ (S (c :: w)).cps ++ Array.replicate 0 48)).toList = _
        simp
end K64

set_option Elab.async false
set_option linter.all false
set_option maxRecDepth 100000
set_option maxHeartbeats 4000000
/-! P64b: figures_of, write_integer. -/
namespace K64
open PySem L2 Y SX
def fig (n : Int) : List Nat := (if n < 0 then [45] else []) ++ TL.numL n.natAbs
theorem lit0 : (Str.ofString "") = S [] := by decide +kernel
theorem litm : (Str.ofString "-") = S [45] := by decide +kernel
theorem lit_0 : (Str.ofString "0") = S [48] := by decide +kernel
theorem pw18 : (10 : Int) ^ 18 = 1000000000000000000 := by decide +kernel
theorem lg18 : Nat.log2 1000000000000000000 < 9000 := by decide +kernel
theorem lgs {n m : Nat} (h : n < 2 ^ m) (hm : m < 1900) : n.log2 < 1900 := Nat.lt_of_le_of_lt (small_log h) hm
def Bd (j : Nat) : Nat := 10 ^ (18 * (400 - j))
theorem Bd_0 : 10 ^ 7200 = Bd 0 := by unfold Bd; congr 1
theorem Bd_step {left j : Nat} (h : left < Bd j) (h1 : 1000000000000000000 ≤ left) : left / 1000000000000000000 < Bd (j + 1) := by
  unfold Bd at h ⊢
  by_cases hj : j < 400
  · rw [show 18 * (400 - j) = 18 * (400 - (j + 1)) + 18 by omega, Nat.pow_add] at h
    exact (Nat.div_lt_iff_lt_mul (by decide)).mpr h
  · rw [show 400 - j = 0 by omega] at h
    simp at h; omega
theorem Bd_log {left j : Nat} (h : left < Bd j) : left.log2 < 90000 := by
  refine Nat.lt_of_le_of_lt (small_log (m := 30000) (Nat.lt_of_lt_of_le h ?_)) (by decide)
  unfold Bd
  refine Nat.le_trans (Nat.pow_le_pow_left (show 10 ≤ 2 ^ 4 by decide) _) ?_
  rw [← Nat.pow_mul]
  exact Nat.pow_le_pow_right (by decide) (by omega)
theorem Bd_end {j : Nat} (h : 400 ≤ j) : Bd j = 1 := by unfold Bd; rw [show 400 - j = 0 by omega]
def figI (n : Int) (s : Sto) (j : Nat) (E : Ev) (s' : Sto) : Prop := s' = s ∧ ∃ (left : Nat) (found : List Nat) (o3 o4 : Option D), E = [some (.int n), some (.int left), some (.str (S found)), o3, o4] ∧ TL.numL left ++ found = TL.numL n.natAbs ∧ left < Bd j
theorem rng_len (n : Nat) : (rngD 0 (n : Int)).length = n := by simp [rngD]
theorem rng40 : 400 ≤ (rngD 0 9999).length := by rw [show (9999 : Int) = ((9999 : Nat) : Int) from rfl, rng_len]; decide
/-- at the loop's end -/
def figZ (n : Int) (s : Sto) (E : Ev) (s' : Sto) : Prop := s' = s ∧ ∃ (left : Nat) (found : List Nat) (o3 o4 : Option D), E = [some (.int n), some (.int left), some (.str (S found)), o3, o4] ∧ TL.numL left ++ found = TL.numL n.natAbs ∧ left < 1000000000000000000
theorem figI_0 {n : Int} {s : Sto} (h : n.natAbs < 10 ^ 7200) : figI n s 0 [some (.int n), some (.int (n.natAbs : Nat)), some (.str (S [])), none, none] s :=
  ⟨rfl, n.natAbs, [], none, none, rfl, List.append_nil _, by rw [← Bd_0]; exact h⟩
theorem big_len {n : Int} (h : n.natAbs < 10 ^ 7200) : (TL.numL n.natAbs).length ≤ 7200 := TL.numL_len (by decide) h
def mFig (N : Int) : SM :=
  (sCons (sSet 1 (eA pAbs (aCons (eVar 0) aNil)))
  (sCons (sSet 2 (eC (.str "")))
  (sCons (sFor (iRng1' (aCons (eC (.int N)) aNil)) (gNm 3) (sCons (sIf (tOfB (eBin (pCmp .Lt) (eVar 1) (eBin (pBin .Pow) (eC (.int 10)) (eC (.int 18))))) (sCons sBreak
  sNil) sNil)
  (sCons (sSet 4 (eBin (pBin .Sub) (eVar 1) (eBin (pBin .Mult) (eBin (pBin .FloorDiv) (eVar 1) (eBin (pBin .Pow) (eC (.int 10)) (eC (.int 18)))) (eBin (pBin .Pow) (eC (.int 10)) (eC (.int 18))))))
  (sCons (sSet 2 (eBin (pBin .Add) (eSl (eA pStr (aCons (eBin (pBin .Add) (eBin (pBin .Pow) (eC (.int 10)) (eC (.int 18))) (eVar 4)) aNil)) (oSome (eC (.int 1))) oNone) (eVar 2)))
  (sCons (sSet 1 (eBin (pBin .FloorDiv) (eVar 1) (eBin (pBin .Pow) (eC (.int 10)) (eC (.int 18)))))
  sNil)))))
  (sCons (sSet 2 (eBin (pBin .Add) (eA pStr (aCons (eVar 1) aNil)) (eVar 2)))
  (sCons (sIf (tOfB (eBin (pCmp .Lt) (eVar 0) (eC (.int 0)))) (sCons (sRet (eBin (pBin .Add) (eC (.str "-")) (eVar 2)))
  sNil) sNil)
  (sCons (sRet (eVar 2))
  sNil))))))

theorem mFig_eq {k : Nat} : m__law_figures_of k = mFig 9999 := rfl
theorem u3 : fitI 9999 = true ∧ 400 ≤ (rngD 0 9999).length := ⟨by decide +kernel, rng40⟩
theorem repr_S (n : Nat) : Str.ofString (Int.repr (n : Int)) = S (TL.numL n) := num_S n
theorem b18 : (1000000000000000000 : Nat) < 2 ^ 60 := by decide +kernel
theorem b18' : (2000000000000000000 : Nat) < 2 ^ 61 := by decide +kernel
theorem fig_fin {n : Int} {left : Nat} {found : List Nat} (e1 : TL.numL left ++ found = TL.numL n.natAbs) (h : left < 1000000000000000000) (hfl : (TL.numL left).length + found.length ≤ 7200) :
    left.log2 < 1900 ∧ (Str.ofString (Int.repr (left : Int))).length + (S found).length ≤ sizeLine ∧
          (n < 0 → (Str.ofString "-").length + (Str.ofString (Int.repr (left : Int)) ++ S found).length ≤ sizeLine ∧ Str.ofString "-" ++ (Str.ofString (Int.repr (left : Int)) ++ S found) = S (fig n)) ∧
            (0 ≤ n → Str.ofString (Int.repr (left : Int)) ++ S found = S (fig n)) := by
  rw [repr_S, S_cat, litm, S_cat, S_len, S_len, S_len, S_len, sz, e1]
  have h2 : (TL.numL n.natAbs).length ≤ 7200 := by rw [← e1, List.length_append]; exact hfl
  refine ⟨lgs (Nat.lt_trans h b18) (by decide), by omega, fun hn => ⟨by simp; omega, ?_⟩, fun hn => ?_⟩
  · unfold fig; rw [if_pos hn]
  · unfold fig; rw [if_neg (by omega)]; rfl
theorem chunk18 {left : Nat} : (TL.numL (1000000000000000000 + left % 1000000000000000000)).drop 1 = padL 18 (left % 1000000000000000000) :=
  chunk (k := 18) (Nat.mod_lt _ (by decide))
theorem split18 {left : Nat} (h : 1000000000000000000 ≤ left) : TL.numL left = TL.numL (left / 1000000000000000000) ++ padL 18 (left % 1000000000000000000) := by
  have := numL_app (q := left / 1000000000000000000) (k := 18) (r := left % 1000000000000000000) (Nat.div_pos h (by decide)) (Nat.mod_lt _ (by decide))
  rw [← this]
  congr 1
  have := Nat.div_add_mod left 1000000000000000000
  omega
theorem log_le {a b : Nat} (h : a ≤ b) : a.log2 ≤ b.log2 := by
  by_cases ha : a = 0
  · subst ha; simp
  · exact (Nat.le_log2 (by omega)).mpr (Nat.le_trans (Nat.log2_self_le ha) h)
theorem fig_step {n : Int} {left : Nat} {found : List Nat} {s : Sto} {j : Nat} {d : D} (e1 : TL.numL left ++ found = TL.numL n.natAbs) (h : 1000000000000000000 ≤ left) (h1 : left < Bd j) (hfl : (TL.numL left).length + found.length ≤ 7200) (hlg : left.log2 < 90000) :
    Nat.log2 1000000000000000000 < 9000 ∧
        ((left : Int) / 1000000000000000000).natAbs.log2 + Nat.log2 1000000000000000000 < 1000000 ∧
          (1000000000000000000 + ((left : Int) - (left : Int) / 1000000000000000000 * 1000000000000000000)).natAbs.log2 < 1900 ∧
            (Res.ofO
                  (pSl
                    (D.str
                      (Str.ofString
                        (1000000000000000000 + ((left : Int) - (left : Int) / 1000000000000000000 * 1000000000000000000)).repr))
                    (some 1) none s)).to
              (fun a s_1 =>
                (Res.ofO (pAdd a (D.str (S found)) s_1)).to
                  (fun d_1 s1 =>
                    Nat.log2 1000000000000000000 < 9000 ∧
                      figI n s (j + 1)
                        [some (D.int n), some (D.int ((left : Int) / 1000000000000000000)), some d_1, some d,
                          some (D.int ((left : Int) - (left : Int) / 1000000000000000000 * 1000000000000000000))]
                        s1)
                  fun x s1 => False)
              fun x s1 => False := by
  have e2 : (left : Int) / 1000000000000000000 = ((left / 1000000000000000000 : Nat) : Int) := rfl
  have hd := Nat.div_add_mod left 1000000000000000000
  have e3 : (1000000000000000000 : Int) + ((left : Int) - (left : Int) / 1000000000000000000 * 1000000000000000000) = ((1000000000000000000 + left % 1000000000000000000 : Nat) : Int) := by omega
  have hm := Nat.mod_lt left (show 0 < 1000000000000000000 by decide)
  have hc := chunk18 (left := left)
  have hs := split18 h
  have hq : (left / 1000000000000000000).log2 ≤ left.log2 := log_le (Nat.div_le_self _ _)
  have hb := Bd_step h1 h
  have hl18 := lg18
  rw [e3, e2, Int.natAbs_natCast, Int.natAbs_natCast, repr_S]
  have hpl := padL_len 18 (left % 1000000000000000000)
  rw [hs, List.length_append, hpl] at hfl
  have hll : (TL.numL (1000000000000000000 + left % 1000000000000000000)).length = 19 := by
    have := congrArg List.length hc
    rw [List.length_drop, hpl] at this
    omega
  refine ⟨hl18, by omega, lgs (m := 61) (Nat.lt_trans (by omega) b18') (by decide), ?_⟩
  have e5 : cutS (S (TL.numL (1000000000000000000 + left % 1000000000000000000))) (some 1) none = S (padL 18 (left % 1000000000000000000)) := by
    rw [← hc]; exact cutS_from (i := 1)
  rw [pSl_S (by rw [sz]; omega), e5, to_some, pAdd_S (by rw [sz]; omega), to_some]
  refine ⟨hl18, rfl, _, _, _, _, rfl, ?_, hb⟩
  rw [← e1, hs, List.append_assoc]
theorem fig_run {n : Int} {s : Sto} (hlen : (TL.numL n.natAbs).length ≤ 7200) (h0 : figI n s 0 [some (.int n), some (.int (n.natAbs : Nat)), some (.str (S [])), none, none] s) {N : Int} (hN : fitI N = true ∧ 400 ≤ (rngD 0 N).length) (ea : (if n < 0 then -n else n) = ((n.natAbs : Nat) : Int)) : (mFig N [some (.int n), none, none, none, none] s).to { rt := fun d' s' => d' = .str (S (fig n)) ∧ ∃ t, s' = s ++ t } := by
  unfold mFig
  simp -implicitDefEqProofs [pAbs, ea, lit0, hN.1]
  have hxl := hN.2
  generalize rngD 0 N = xs at hxl ⊢
  refine forFix (figI n s) h0 ?_ ?_
  · intro j d E s' hj hI
    obtain ⟨hs, left, found, o3, o4, hE, e1, h1⟩ := hI
    rw [hs, hE]
    have hfl : (TL.numL left ++ found).length ≤ 7200 := by rw [e1]; exact hlen
    rw [List.length_append] at hfl
    have hlg : left.log2 < 90000 := Bd_log h1
    simp -implicitDefEqProofs [pw18]
    refine ⟨fun h => fig_fin e1 (by omega) hfl, fun h => fig_step e1 (by omega) h1 hfl hlg⟩
  · intro E s' hI
    obtain ⟨hs, left, found, o3, o4, hE, e1, h1⟩ := hI
    rw [hs, hE]
    have hfl : (TL.numL left ++ found).length ≤ 7200 := by rw [e1]; exact hlen
    rw [List.length_append] at hfl
    rw [Bd_end hxl] at h1
    simp -implicitDefEqProofs
    exact fig_fin e1 (by omega) hfl
theorem figs_ok {k : Nat} {n : Int} {s : Sto} (h : n.natAbs < 10 ^ 7200) : callP pg (k + 1) "_law_figures_of" [.int n] s = .ok (.str (S (fig n))) s := by
  rw [c__law_figures_of, mFig_eq]
  exact gc_pure rfl (fig_run (big_len h) (figI_0 h) u3 (by split <;> omega))
end K64

set_option Elab.async false
set_option linter.all false
set_option maxRecDepth 100000
set_option maxHeartbeats 4000000
/-! P64c: write_integer. -/
namespace K64
open PySem L2 Y SX
theorem lgB : Nat.log2 10000000000000000000000000000000000000000000000000000000000000000 < 9000 := by decide +kernel
theorem bB : (10000000000000000000000000000000000000000000000000000000000000000 : Nat) < 2 ^ 213 := by decide +kernel
theorem eB : (10000000000000000000000000000000000000000000000000000000000000000 : Nat) = 10 ^ 64 := by decide +kernel
theorem pad64 : PadOk 64 = true := by decide +kernel
def wrI (N : Nat) (s : Sto) (E : Ev) (s' : Sto) : Prop := ∃ (m : Nat) (cs : List (List Nat)) (o2 : Option D), E = [some (.int m), some (.loc s.length), o2] ∧ s' = s ++ [.lst (cs.map fun c => .str (S c))] ∧ TL.numL m ++ cs.reverse.flatten = TL.numL N ∧ cs.length ≤ cs.reverse.flatten.length
def wrM (E : Ev) (_ : Sto) : Nat := match E[0]? with
  | some (some (D.int m)) => (TL.numL m.natAbs).length
  | _ => 0
theorem wrM_ap {m : Nat} {r : Ev} {s : Sto} : wrM (some (D.int (m : Int)) :: r) s = (TL.numL m).length := by
  unfold wrM; simp
theorem strsD_map : ∀ xs : List (List Nat), strsD (xs.map fun c => D.str (S c)) = some (xs.map S)
  | [] => rfl
  | a :: r => by rw [List.map_cons, strsD, strsD_map r]; rfl
theorem splitB {m : Nat} (h : 10000000000000000000000000000000000000000000000000000000000000000 ≤ m) : TL.numL m = TL.numL (m / 10000000000000000000000000000000000000000000000000000000000000000) ++ padL 64 (m % 10000000000000000000000000000000000000000000000000000000000000000) := by
  have hm := Nat.mod_lt m (show 0 < 10000000000000000000000000000000000000000000000000000000000000000 by decide)
  have := numL_app (q := m / 10000000000000000000000000000000000000000000000000000000000000000) (k := 64) (r := m % 10000000000000000000000000000000000000000000000000000000000000000) (Nat.div_pos h (by decide)) (by rw [← eB]; exact hm)
  rw [← this, ← eB]
  congr 1
  have := Nat.div_add_mod m 10000000000000000000000000000000000000000000000000000000000000000
  omega
theorem sum_lens (xs : List (List Nat)) : (xs.map (·.length)).sum = xs.flatten.length := by rw [List.length_flatten]
theorem wr_nat {k : Nat} {N : Nat} {s : Sto} (h : (TL.numL N).length ≤ 7200) : callP pg (k + 1) "write_integer" [.int (N : Int)] s = .ok (.str (S (TL.numL N))) s := by
  rw [c_write_integer]
  refine gc_pure rfl ?_
  unfold m_write_integer
  have h0 : ¬ ((N : Int) < 0) := by omega
  simp -implicitDefEqProofs [h0]
  refine sWhile_to (wrI N s) wrM ⟨N, [], none, rfl, rfl, by simp, by simp⟩ (by rw [wrM_ap]; exact Nat.lt_of_le_of_lt h (by decide)) ?_
  intro E s' hI
  obtain ⟨m, cs, o2, hE, hs, e1, hc⟩ := hI
  rw [hE, hs]
  have hk : (s ++ [O.lst (cs.map fun c => D.str (S c))])[s.length]? = some (.lst (cs.map fun c => D.str (S c))) := by simp
  have hfl := congrArg List.length e1
  rw [List.length_append] at hfl
  have hcs : cs.length < sizeLine := by rw [sz]; omega
  unfold c_BASE
  simp -implicitDefEqProofs [meth_append hk, meth_zfill, mAppend, mZfill, pad64, meth_join, mJoin, hcs, lit0]
  constructor
  · intro hB
    have hB' : 10000000000000000000000000000000000000000000000000000000000000000 ≤ m := by omega
    have hs := splitB hB'
    have hm := Nat.mod_lt m (show 0 < 10000000000000000000000000000000000000000000000000000000000000000 by decide)
    have e2 : (m : Int) % 10000000000000000000000000000000000000000000000000000000000000000 = ((m % 10000000000000000000000000000000000000000000000000000000000000000 : Nat) : Int) := rfl
    have e3 : (m : Int) / 10000000000000000000000000000000000000000000000000000000000000000 = ((m / 10000000000000000000000000000000000000000000000000000000000000000 : Nat) : Int) := rfl
    have hp := padL_len 64 (m % 10000000000000000000000000000000000000000000000000000000000000000)
    have hz : Txt.zfill (S (TL.numL (m % 10000000000000000000000000000000000000000000000000000000000000000))) 64 = _ := zfill_S (k := 64) (by decide) (by rw [← eB]; exact hm)
    have hlg := lgs (m := 213) (Nat.lt_trans hm bB) (by decide)
    have hlB := lgB
    rw [e2, e3, Int.natAbs_natCast, repr_S, hz, wrM_ap, wrM_ap]
    rw [hs] at e1 ⊢
    generalize padL 64 (m % 10000000000000000000000000000000000000000000000000000000000000000) = w at *
    refine ⟨hlB, hlg, ⟨_, cs ++ [w], _, rfl, by simp, ?_, ?_⟩, ?_⟩
    · rw [← e1]; simp
    · simp only [List.length_append, List.length_singleton, List.reverse_append, List.reverse_singleton, List.singleton_append, List.flatten_cons, hp]; omega
    · rw [List.length_append, hp]; omega
  · intro hB
    have hB' : m < 10000000000000000000000000000000000000000000000000000000000000000 := by omega
    refine ⟨lgs (m := 213) (Nat.lt_trans hB' bB) (by decide), ?_⟩
    have e4 : (D.str (Str.ofString (Int.repr (m : Int))) :: (List.map (fun c => D.str (S c)) cs).reverse) = (TL.numL m :: cs.reverse).map fun c => D.str (S c) := by
      rw [repr_S, ← List.map_reverse]; rfl
    rw [e4, strsD_map]
    simp only [lens, S_len, List.length_nil, Nat.mul_zero, Nat.add_zero, sum_lens, List.flatten_cons, e1]
    rw [if_pos (by omega)]
    rw [to_some, join_S, joinL_nil, List.flatten_cons, e1]
    exact ⟨rfl, _, rfl⟩
theorem wr_ok {k : Nat} {n : Int} {s : Sto} (h : n.natAbs < 10 ^ 7200) : callP pg (k + 2) "write_integer" [.int n] s = .ok (.str (S (fig n))) s := by
  have hl := big_len h
  by_cases hn : n < 0
  · rw [c_write_integer]
    refine gc_pure rfl ?_
    unfold m_write_integer
    have e : -n = ((n.natAbs : Nat) : Int) := by omega
    have hw := wr_nat (k := k) (s := s) hl
    have hz : (Str.ofString "-").length + (TL.numL n.natAbs).length ≤ sizeLine := by rw [litm, S_len, sz]; simp; omega
    simp -implicitDefEqProofs [hn, e, hw, hz, S_len]
    unfold fig
    rw [if_pos hn, litm, S_cat]
  · have e : n = ((n.natAbs : Nat) : Int) := by omega
    have e2 : fig n = TL.numL n.natAbs := by unfold fig; rw [if_neg hn]; rfl
    rw [e2]
    rw [e, Int.natAbs_natCast]
    exact wr_nat (k := k + 1) hl
end K64

set_option Elab.async false
set_option linter.all false
set_option maxRecDepth 100000
set_option maxHeartbeats 4000000
/-! P64d: the generator. -/
namespace K64
open PySem L2 Y SX
theorem hlp : Hlp pg := ⟨fun k a s => c__law_start, fun k a b s => c__law_draw, fun k a s => c__law_is_int, fun k a b s => c__law_same⟩
theorem gcU {Q : D → Sto → Prop} {X : Str → Sto → Prop} {s s' : Sto} {d : D} (h : Q d s') (h2 : Q d (s'.take s.length)) : (gc s (.ok d s')).to Q X := gc_both h fun _ => h2
theorem lg {m : Int} (h : m.natAbs ≤ 1000 := by decide) : m.natAbs.log2 < 9000 := Nat.lt_of_le_of_lt (small_log (m := 60) (by omega)) (by decide)
theorem pick2 {x y : D} {r : Int} (h0 : 0 ≤ r) (h1 : r < 2) : ∃ c : Bool, atI [x, y] r = some (if c = true then y else x) := by
  rcases (show r = 0 ∨ r = 1 by omega) with rfl | rfl
  · exact ⟨false, by simp⟩
  · exact ⟨true, by simp⟩
theorem draw_new {ns : List Int} {i j C k : Nat} {s : Sto} {xs : List D} {m : Int} {Q : D → Sto → Prop} {X : Str → Sto → Prop} (h : SV ns i j C s) (hm : 0 < m) (hm2 : m.natAbs ≤ 1000) (hC : C < 2 ^ 60)
    (q : ∀ r s', 0 ≤ r → r < m → SV ns i j (C + 1) s' → Up i s s' → s'[s.length]? = some (.lst xs) → Q (.int r) s') : (callP pg (k + 1) "_law_draw" [.loc i, .int m] (s ++ [.lst xs])).to Q X :=
  hlp.draw_then h.app hm (lg hm2) hC fun r s' h1 h2 h3 u l => q r s' h1 h2 h3 (Up.app.trans u) (u.get (by simp) (by have := h.lt.1; omega))
theorem lgi18 : (1000000000000000000 : Int).natAbs.log2 < 9000 := lg18
/-- the long numbers -/
def lnI (ns : List Int) (i j C : Nat) (most : Int) (s : Sto) (t : Nat) (E : Ev) (s' : Sto) : Prop := ∃ (number : Nat) (o : Option D), E = [some (.loc i), some (.int most), some (.int (number : Int)), o] ∧ number < 10 ^ (18 * (t + 1)) ∧ SV ns i j (C + 2 + t) s' ∧ Up i s s'
theorem ln_ok {ns : List Int} {i j C k most : Nat} {s : Sto} (h : SV ns i j C s) (hm : 0 < most) (hm2 : most ≤ 40) (hC : C + 100 < 2 ^ 60) :
    (callP pg (k + 2) "_law_long_number" [.loc i, .int (most : Int)] s).to (fun d s' => ∃ z : Int, d = .int z ∧ z.natAbs < 10 ^ (18 * (most + 1)) ∧ SV ns i j (C + 3 + most) s' ∧ Up i s s') NoX := by
  rw [show k + 2 = (k + 1) + 1 from rfl, c__law_long_number]
  apply gc_to
  unfold m__law_long_number
  simp -implicitDefEqProofs [pw18]
  refine hlp.draw_then h (by decide) lgi18 (by omega) fun r0 s1 a1 a2 h1 u1 l1 => ?_
  refine hlp.draw_then h1 (by omega) (lg (by omega)) (by omega) fun r1 s2 b1 b2 h2 u2 l2 => ?_
  have hf : fitI r1 = true := fitI_iff.mpr (by omega)
  obtain ⟨n1, rfl⟩ : ∃ n : Nat, r1 = n := ⟨r1.toNat, by omega⟩
  obtain ⟨n0, rfl⟩ : ∃ n : Nat, r0 = n := ⟨r0.toNat, by omega⟩
  simp -implicitDefEqProofs [hf]
  refine forFix (lnI ns i j C most s) ⟨n0, none, rfl, by rw [Nat.zero_add, Nat.mul_one]; exact Nat.lt_of_lt_of_le (by omega : n0 < 1000000000000000000) (by decide), h2.mono (by omega), u1.trans u2⟩ ?_ ?_
  · intro t d E s' ht hI
    have htm := (List.getElem?_eq_some_iff.mp ht).1
    rw [rng_len] at htm
    obtain ⟨number, o, hE, hn, hS, hU⟩ := hI
    rw [hE]
    simp -implicitDefEqProofs [pw18]
    have hlg : number.log2 < 90000 := by
      refine Nat.lt_of_le_of_lt (small_log (m := 3000) (Nat.lt_of_lt_of_le hn ?_)) (by decide)
      refine Nat.le_trans (Nat.pow_le_pow_left (show 10 ≤ 2 ^ 4 by decide) _) ?_
      rw [← Nat.pow_mul]
      exact Nat.pow_le_pow_right (by decide) (by omega)
    have hl18 := lg18
    refine ⟨by omega, hlp.draw_then hS (by decide) lgi18 (by omega) fun r s3 c1 c2 h3 u3 l3 => ?_⟩
    obtain ⟨n, rfl⟩ : ∃ n : Nat, r = n := ⟨r.toNat, by omega⟩
    simp -implicitDefEqProofs
    refine ⟨number * 1000000000000000000 + n, some d, by simp, ?_, h3.mono (by omega), hU.trans u3⟩
    rw [show 18 * (t + 1 + 1) = 18 * (t + 1) + 18 by omega, Nat.pow_add, show (10 : Nat) ^ 18 = 1000000000000000000 by decide +kernel]
    omega
  · intro E s' hI
    rw [rng_len] at hI
    obtain ⟨number, o, hE, hn, hS, hU⟩ := hI
    rw [hE]
    simp -implicitDefEqProofs
    refine ⟨by decide +kernel, draw_new hS (by decide) (by decide) (by omega) fun r s3 c1 c2 h3 u3 g3 => ?_⟩
    rw [g3]
    obtain ⟨c, hc⟩ := pick2 (x := .int 1) (y := .int (-1)) c1 c2
    simp -implicitDefEqProofs only [ixO_lst, hc]
    have hlg : number.log2 < 90000 := by
      refine Nat.lt_of_le_of_lt (small_log (m := 3000) (Nat.lt_of_lt_of_le hn ?_)) (by decide)
      refine Nat.le_trans (Nat.pow_le_pow_left (show 10 ≤ 2 ^ 4 by decide) _) ?_
      rw [← Nat.pow_mul]
      exact Nat.pow_le_pow_right (by decide) (by omega)
    have hp : number < 10 ^ (18 * (most + 1)) := Nat.lt_of_lt_of_le hn (Nat.pow_le_pow_right (by decide) (by omega))
    have hlt := h.lt
    have hup := hU.trans u3
    have fin : ∀ z : Int, z.natAbs = number → (gc s (.ok (.int z) s3)).to (fun d s' => ∃ z : Int, d = .int z ∧ z.natAbs < 10 ^ (18 * (most + 1)) ∧ SV ns i j (C + 3 + most) s' ∧ Up i s s') NoX := fun z hz =>
      gcU ⟨z, rfl, by rw [hz]; exact hp, h3.mono (by omega), hup⟩ ⟨z, rfl, by rw [hz]; exact hp, (h3.mono (by omega)).take hlt.1 hlt.2, hup.take⟩
    have l1 : Nat.log2 1 = 0 := by decide +kernel
    cases c with
    | false =>
      refine ⟨_, rfl, ?_⟩
      simp -implicitDefEqProofs [l1]
      exact ⟨by omega, fin _ (by omega)⟩
    | true =>
      refine ⟨_, rfl, ?_⟩
      simp -implicitDefEqProofs [l1]
      exact ⟨by omega, fin _ (by omega)⟩
end K64

set_option Elab.async false
set_option linter.all false
set_option maxRecDepth 100000
set_option maxHeartbeats 4000000
/-! P64e: write_value, write_test, write_tests. -/
namespace K64
open PySem L2 Y SX
theorem fig_len {i : Int} (h : i.natAbs < 10 ^ 7200) : (fig i).length ≤ 7201 := by
  have := big_len h
  unfold fig
  split <;> simp <;> omega
def resV : Res D → Option D
  | .ok d _ => some d
  | _ => none
theorem comp_call {α : Type} {F : D → Res D} {ys : List α} {mk tx : α → D} {E0 : Ev} {j : Nat} {e : EM D} {s : Sto} (hj : j < E0.length) (he : ∀ d, e (E0.set j (some d)) s = F d) (h : ∀ y ∈ ys, F (mk y) = .ok (tx y) s) (hl : ys.length ≤ sizeLine) :
    compS (gNm j) tYesM e E0 (.fix (ys.map mk)) s = .ok (ys.map tx) s := by
  rw [compFix_map (f := fun d => resV (F d)) (by rw [List.length_map]; exact hl)]
  · congr 1
    clear hl
    induction ys with
    | nil => rfl
    | cons y ys ih =>
      rw [List.map_cons, List.filterMap_cons]
      have e := h y (List.mem_cons_self ..)
      have e' : resV (F (mk y)) = some (tx y) := by rw [e]; rfl
      rw [e', List.map_cons]
      dsimp only
      rw [ih fun y hy => h y (List.mem_cons_of_mem _ hy)]
  · intro d hd
    obtain ⟨y, hy, rfl⟩ := List.mem_map.mp hd
    unfold turnC
    have := h y hy
    simp [hj, he, this, noX, resV, gNm, tYesM]
inductive Vl where
  | i (n : Int)
  | t (zs : List Int)
def Vl.d : Vl → D
  | .i n => .int n
  | .t zs => .tup (zs.map D.int)
def Vl.x : Vl → List Nat
  | .i n => fig n
  | .t zs => 91 :: (TL.joinL [44, 32] (zs.map fig) ++ [93])
def okN (n : Int) : Prop := n.natAbs < 10 ^ 7200
def Vl.ok : Vl → Prop
  | .i n => okN n
  | .t zs => zs.length ≤ 5 ∧ ∀ z ∈ zs, okN z
theorem sum_le {l : List Nat} {b : Nat} (h : ∀ x ∈ l, x ≤ b) : l.sum ≤ l.length * b := by
  induction l with
  | nil => simp
  | cons a l ih =>
    have := h a (List.mem_cons_self ..)
    have := ih fun x hx => h x (List.mem_cons_of_mem _ hx)
    rw [List.sum_cons, List.length_cons, Nat.add_mul]; omega
theorem join_le {b : Nat} {ts : List (List Nat)} (h : ∀ t ∈ ts, t.length ≤ b) (h5 : ts.length ≤ 5) : (TL.joinL [44, 32] ts).length ≤ 5 * b + 10 ∧ (ts.map (·.length)).sum ≤ 5 * b := by
  have := joinL_len [44, 32] ts
  have h2 : (ts.map (·.length)).sum ≤ (ts.map (·.length)).length * b := sum_le fun x hx => by
    obtain ⟨t, ht, rfl⟩ := List.mem_map.mp hx
    exact h t ht
  rw [List.length_map] at h2
  have h3 : ts.length * b ≤ 5 * b := Nat.mul_le_mul_right _ h5
  simp only [List.length_cons, List.length_nil] at this
  omega
theorem Vl.len {v : Vl} (h : v.ok) : v.x.length ≤ 36100 := by
  cases v with
  | i n => have := fig_len h; exact Nat.le_trans this (by omega)
  | t zs =>
    obtain ⟨h1, h2⟩ := h
    have := (join_le (ts := zs.map fig) (b := 7201) (fun t ht => by obtain ⟨z, hz, rfl⟩ := List.mem_map.mp ht; exact fig_len (h2 z hz)) (by rw [List.length_map]; exact h1)).1
    unfold Vl.x
    simp
    omega
theorem lit_lb : (Str.ofString "[") = S [91] := by decide +kernel
theorem lit_rb : (Str.ofString "]") = S [93] := by decide +kernel
theorem lit_cs : (Str.ofString ", ") = S [44, 32] := by decide +kernel
theorem lit_lp : (Str.ofString "(") = S [40] := by decide +kernel
theorem lit_rp : (Str.ofString ")") = S [41] := by decide +kernel
theorem lit_nl : (Str.ofString "\n") = S [10] := by decide +kernel
theorem lit_test : (Str.ofString "test ") = S [116, 101, 115, 116, 32] := by decide +kernel
theorem lit_gives : (Str.ofString " gives ") = S [32, 103, 105, 118, 101, 115, 32] := by decide +kernel
theorem lit_leaves : (Str.ofString " leaves ") = S [32, 108, 101, 97, 118, 101, 115, 32] := by decide +kernel
theorem mJoin_ok {w : List Nat} {ts : List (List Nat)} {s0 : Sto} {k : Nat} (hk : s0[k]? = some (.lst (ts.map fun t => D.str (S t)))) (hs : (ts.map (·.length)).sum + ts.length * w.length ≤ sizeLine) : mJoin (.str (S w)) [.loc k] s0 = some (.str (S (TL.joinL w ts)), s0) := by
  unfold mJoin
  rw [sz] at hs
  simp only [hk, strsD_map, lens, S_len, List.length_map, if_pos hs, join_S]
theorem wv_ok {k : Nat} {v : Vl} {s : Sto} (h : v.ok) : callP pg (k + 3) "write_value" [v.d] s = .ok (.str (S v.x)) s := by
  rw [show k + 3 = (k + 2) + 1 from rfl, c_write_value]
  refine gc_pure rfl ?_
  unfold m_write_value
  cases v with
  | i n =>
    have e1 : pIsi [.int n, .ty "tuple"] s = some (.bl false, s) := isi_of rfl (by decide +kernel)
    have e2 := wr_ok (k := k) (s := s) h
    simp -implicitDefEqProofs [Vl.d, Vl.x, e1, e2]
  | t zs =>
    obtain ⟨h5, hz⟩ := h
    have e1 : pIsi [.tup (zs.map D.int), .ty "tuple"] s = some (.bl true, s) := isi_of rfl (by decide +kernel)
    have hc : compS (gNm 1) tYesM (eCall 1 (callP pg (k + 2) "write_integer") (aCons (eVar 1) aNil)) [some (.tup (zs.map D.int)), none] (.fix (zs.map D.int)) s = .ok (zs.map fun z => .str (S (fig z))) s :=
      comp_call (F := fun d => callP pg (k + 2) "write_integer" [d] s) (Nat.lt_succ_self 1) (fun d => by simp) (fun z hzz => wr_ok (hz z hzz)) (by rw [sz]; omega)
    have hb := join_le (ts := zs.map fig) (b := 7201) (fun t ht => by obtain ⟨z, hz', rfl⟩ := List.mem_map.mp ht; exact fig_len (hz z hz')) (by rw [List.length_map]; exact h5)
    have e3 : (zs.map fun z => D.str (S (fig z))) = (zs.map fig).map fun t => D.str (S t) := by rw [List.map_map]; rfl
    have hm : mJoin (.str (S [44, 32])) [.loc s.length] (s ++ [.lst ((zs.map fig).map fun t => D.str (S t))]) = _ := mJoin_ok (w := [44, 32]) (ts := zs.map fig) (by simp) (by rw [sz, List.length_map]; simp only [List.length_cons, List.length_nil]; omega)
    have a1 : ∀ s : Sto, pAdd (.str (S [91])) (.str (S (TL.joinL [44, 32] (zs.map fig)))) s = _ := fun s => pAdd_S (by rw [sz]; simp; omega)
    have a2 : ∀ s : Sto, pAdd (.str (S (91 :: TL.joinL [44, 32] (zs.map fig)))) (.str (S [93])) s = _ := fun s => pAdd_S (by rw [sz]; simp; omega)
    simp -implicitDefEqProofs [-pAdd_str, -List.map_map, Vl.d, Vl.x, e1, meth_join, lit_cs, lit_lb, lit_rb, wipeE, hc, e3, hm, a1]
    rw [a2, to_some]
    exact ⟨by simp, _, rfl⟩
end K64

set_option Elab.async false
set_option linter.all false
set_option maxRecDepth 100000
set_option maxHeartbeats 4000000
/-! P64f: write_test, write_tests. -/
namespace K64
open PySem L2 Y SX
def joinV (vs : List Vl) : List Nat := TL.joinL [44, 32] (vs.map Vl.x)
def okV (vs : List Vl) : Prop := vs.length ≤ 5 ∧ ∀ v ∈ vs, v.ok
theorem joinV_len {vs : List Vl} (h : okV vs) : (joinV vs).length ≤ 180510 ∧ ((vs.map Vl.x).map (·.length)).sum ≤ 180500 := by
  have := join_le (ts := vs.map Vl.x) (b := 36100) (fun t ht => by obtain ⟨z, hz, rfl⟩ := List.mem_map.mp ht; exact Vl.len (h.2 z hz)) (by rw [List.length_map]; exact h.1)
  exact this
theorem jn_ok {K i : Nat} {vs : List Vl} {E : Ev} {s : Sto} (h : okV vs) (hi : E[i]? = some (some (.tup (vs.map Vl.d)))) (h6 : 6 < E.length) :
    (eMeth "join" (eC (.str ", ")) (aCons (eAlloc (fLc (iVal (eVar i)) (gNm 6) tYesM (eCall 1 (callP pg (K + 3) "write_value") (aCons (eVar 6) aNil)) [6])) aNil)) E s = .ok (.str (S (joinV vs))) (s ++ [.lst ((vs.map Vl.x).map fun t => D.str (S t))]) := by
  have hl := joinV_len h
  have hc : compS (gNm 6) tYesM (eCall 1 (callP pg (K + 3) "write_value") (aCons (eVar 6) aNil)) (List.set E 6 none) (.fix (vs.map Vl.d)) s = .ok (vs.map fun z => .str (S z.x)) s :=
    comp_call (F := fun d => callP pg (K + 3) "write_value" [d] s) (by simp; exact h6) (fun d => by simp [h6]) (fun z hzz => wv_ok (h.2 z hzz)) (by rw [sz]; have := h.1; omega)
  have e3 : (vs.map fun z => D.str (S z.x)) = (vs.map Vl.x).map fun t => D.str (S t) := by rw [List.map_map]; rfl
  have hm : mJoin (.str (S [44, 32])) [.loc s.length] (s ++ [.lst ((vs.map Vl.x).map fun t => D.str (S t))]) = _ := mJoin_ok (w := [44, 32]) (ts := vs.map Vl.x) (by simp) (by rw [sz, List.length_map]; have := h.1; simp only [List.length_cons, List.length_nil]; omega)
  simp -implicitDefEqProofs [-List.map_map, meth_join, hi, hc, e3, lit_cs, hm]
  rfl
def tstL : List Nat := [116, 101, 115, 116, 32]
def givL : List Nat := [32, 103, 105, 118, 101, 115, 32]
def leaL : List Nat := [32, 108, 101, 97, 118, 101, 115, 32]
def txt (nm : List Nat) (as rs bs : List Vl) : List Nat := tstL ++ nm ++ [40] ++ joinV as ++ [41] ++ (givL ++ joinV rs) ++ (leaL ++ joinV bs)
def tstD (nm : List Nat) (as rs bs : List Vl) : D := .tup [.str (S nm), .tup (as.map Vl.d), .tup (rs.map Vl.d), .tup (bs.map Vl.d)]
theorem txt_len {nm : List Nat} {as rs bs : List Vl} (hn : nm.length ≤ 100) (ha : okV as) (hr : okV rs) (hb : okV bs) : (txt nm as rs bs).length ≤ 600000 := by
  have h1 := (joinV_len ha).1
  have h2 := (joinV_len hr).1
  have h3 := (joinV_len hb).1
  unfold txt tstL givL leaL
  simp
  omega
theorem pAddB {a b : List Nat} {s : Sto} (h : a.length + b.length ≤ 9000000) : pAdd (.str (S a)) (.str (S b)) s = some (.str (S (a ++ b)), s) := pAdd_S (by rw [sz]; omega)
def jnE (K i : Nat) : EM D := (eMeth "join" (eC (.str ", ")) (aCons (eAlloc (fLc (iVal (eVar i)) (gNm 6) tYesM (eCall 1 (callP pg K "write_value") (aCons (eVar 6) aNil)) [6])) aNil))
def mWt (J2 J3 J4 : EM D) : SM :=
  (sCons (sAsg (gTp 4 (gsCons (gNm 1) (gsCons (gNm 2) (gsCons (gNm 3) (gsCons (gNm 4) gsNil))))) (eVar 0))
  (sCons (sSet 5 (eBin (pBin .Add) (eBin (pBin .Add) (eBin (pBin .Add) (eBin (pBin .Add) (eC (.str "test ")) (eVar 1)) (eC (.str "("))) J2) (eC (.str ")"))))
  (sCons (sIf (tOfT (eVar 3)) (sCons (sAug 5 .Add (eBin (pBin .Add) (eC (.str " gives ")) J3))
  sNil) sNil)
  (sCons (sIf (tOfT (eVar 4)) (sCons (sAug 5 .Add (eBin (pBin .Add) (eC (.str " leaves ")) J4))
  sNil) sNil)
  (sCons (sRet (eVar 5))
  sNil)))))
theorem mWt_eq {k : Nat} : m_write_test k = mWt (jnE k 2) (jnE k 3) (jnE k 4) := rfl
theorem wt_ok {k : Nat} {nm : List Nat} {as rs bs : List Vl} {s : Sto} (hn : nm.length ≤ 100) (ha : okV as) (hr : okV rs) (hb : okV bs) (hr0 : rs ≠ []) (hb0 : bs ≠ []) : callP pg (k + 4) "write_test" [tstD nm as rs bs] s = .ok (.str (S (txt nm as rs bs))) s := by
  rw [show k + 4 = (k + 3) + 1 from rfl, c_write_test]
  refine gc_pure rfl ?_
  rw [mWt_eq]
  unfold tstD
  have h1 := (joinV_len ha).1
  have h2 := (joinV_len hr).1
  have h3 := (joinV_len hb).1
  have t1 : ((rs.map Vl.d).isEmpty) = false := by cases rs with | nil => exact absurd rfl hr0 | cons => rfl
  have t2 : ((bs.map Vl.d).isEmpty) = false := by cases bs with | nil => exact absurd rfl hb0 | cons => rfl
  have j2 : ∀ (E : Ev) (s : Sto), E[2]? = some (some (.tup (as.map Vl.d))) → 6 < E.length → jnE (k + 3) 2 E s = .ok (.str (S (joinV as))) (s ++ [.lst ((as.map Vl.x).map fun t => D.str (S t))]) := fun E s hi h6 => jn_ok ha hi h6
  have j3 : ∀ (E : Ev) (s : Sto), E[3]? = some (some (.tup (rs.map Vl.d))) → 6 < E.length → jnE (k + 3) 3 E s = .ok (.str (S (joinV rs))) (s ++ [.lst ((rs.map Vl.x).map fun t => D.str (S t))]) := fun E s hi h6 => jn_ok hr hi h6
  have j4 : ∀ (E : Ev) (s : Sto), E[4]? = some (some (.tup (bs.map Vl.d))) → 6 < E.length → jnE (k + 3) 4 E s = .ok (.str (S (joinV bs))) (s ++ [.lst ((bs.map Vl.x).map fun t => D.str (S t))]) := fun E s hi h6 => jn_ok hb hi h6
  obtain ⟨p1, e1⟩ : ∃ p, p = tstL ++ nm := ⟨_, rfl⟩
  obtain ⟨p2, e2⟩ : ∃ p, p = p1 ++ [40] := ⟨_, rfl⟩
  obtain ⟨p3, e3⟩ : ∃ p, p = p2 ++ joinV as := ⟨_, rfl⟩
  obtain ⟨p4, e4⟩ : ∃ p, p = p3 ++ [41] := ⟨_, rfl⟩
  obtain ⟨p5, e5⟩ : ∃ p, p = givL ++ joinV rs := ⟨_, rfl⟩
  obtain ⟨p6, e6⟩ : ∃ p, p = p4 ++ p5 := ⟨_, rfl⟩
  obtain ⟨p7, e7⟩ : ∃ p, p = leaL ++ joinV bs := ⟨_, rfl⟩
  obtain ⟨p8, e8⟩ : ∃ p, p = p6 ++ p7 := ⟨_, rfl⟩
  have l1 : p1.length ≤ 105 := by rw [e1]; simp [tstL]; omega
  have l2 : p2.length ≤ 106 := by rw [e2]; simp; omega
  have l3 : p3.length ≤ 180700 := by rw [e3]; simp; omega
  have l4 : p4.length ≤ 180701 := by rw [e4]; simp; omega
  have l5 : p5.length ≤ 180600 := by rw [e5]; simp [givL]; omega
  have l6 : p6.length ≤ 380600 := by rw [e6]; simp; omega
  have l7 : p7.length ≤ 180600 := by rw [e7]; simp [leaL]; omega
  have a1 : ∀ s, pAdd (.str "test ") (.str (S nm)) s = some (.str (S p1), s) := fun s => by rw [lit_test, e1]; exact pAddB (by simp; omega)
  have a2 : ∀ s, pAdd (.str (S p1)) (.str "(") s = some (.str (S p2), s) := fun s => by rw [lit_lp, e2]; exact pAddB (by simp; omega)
  have a3 : ∀ s, pAdd (.str (S p2)) (.str (S (joinV as))) s = some (.str (S p3), s) := fun s => by rw [e3]; exact pAddB (by omega)
  have a4 : ∀ s, pAdd (.str (S p3)) (.str ")") s = some (.str (S p4), s) := fun s => by rw [lit_rp, e4]; exact pAddB (by simp; omega)
  have a5 : ∀ s, pAdd (.str " gives ") (.str (S (joinV rs))) s = some (.str (S p5), s) := fun s => by rw [lit_gives, e5]; exact pAddB (by simp; omega)
  have a6 : ∀ s, pAdd (.str (S p4)) (.str (S p5)) s = some (.str (S p6), s) := fun s => by rw [e6]; exact pAddB (by omega)
  have a7 : ∀ s, pAdd (.str " leaves ") (.str (S (joinV bs))) s = some (.str (S p7), s) := fun s => by rw [lit_leaves, e7]; exact pAddB (by simp; omega)
  have a8 : ∀ s, pAdd (.str (S p6)) (.str (S p7)) s = some (.str (S p8), s) := fun s => by rw [e8]; exact pAddB (by omega)
  have ex : txt nm as rs bs = p8 := by rw [e8, e7, e6, e5, e4, e3, e2, e1]; rfl
  rw [ex]
  generalize jnE (k + 3) 2 = J2 at j2 ⊢
  generalize jnE (k + 3) 3 = J3 at j3 ⊢
  generalize jnE (k + 3) 4 = J4 at j4 ⊢
  unfold mWt
  simp -implicitDefEqProofs [-pAdd_str, -List.map_map, j2, j3, j4, a1, a2, a3, a4, a5, a6, a7, a8, t1, t2, truD, pInp, -List.map_eq_nil_iff]
  rw [S_cat, S_cat, S_len, S_len, S_len, S_len, sz, ← e6, ← e8]
  exact ⟨by omega, by omega, rfl⟩
structure Ts where
  nm : List Nat
  as : List Vl
  rs : List Vl
  bs : List Vl
structure Ts.ok (t : Ts) : Prop where
  hn : t.nm.length ≤ 100
  ha : okV t.as
  hr : okV t.rs
  hb : okV t.bs
  hr0 : t.rs ≠ []
  hb0 : t.bs ≠ []
def Ts.d (t : Ts) : D := tstD t.nm t.as t.rs t.bs
def Ts.x (t : Ts) : List Nat := txt t.nm t.as t.rs t.bs
theorem ws_ok {k : Nat} {ts : List Ts} {s : Sto} (h : ∀ t ∈ ts, t.ok) (h5 : ts.length ≤ 5) : callP pg (k + 5) "write_tests" [.tup (ts.map Ts.d)] s = .ok (.str (S ((ts.map fun t => t.x ++ [10]).flatten))) s := by
  rw [show k + 5 = (k + 4) + 1 from rfl, c_write_tests]
  refine gc_pure rfl ?_
  unfold m_write_tests
  have hw : ∀ t ∈ ts, callP pg (k + 4) "write_test" [t.d] s = .ok (.str (S t.x)) s := fun t ht => let o := h t ht; wt_ok o.hn o.ha o.hr o.hb o.hr0 o.hb0
  have hl : ∀ t ∈ ts, t.x.length ≤ 600000 := fun t ht => let o := h t ht; txt_len o.hn o.ha o.hr o.hb
  have hc : compS (gNm 1) tYesM (eBin pAdd (eCall 1 (callP pg (k + 4) "write_test") (aCons (eVar 1) aNil)) (eC (.str "\n"))) [some (.tup (ts.map Ts.d)), none] (.fix (ts.map Ts.d)) s = .ok (ts.map fun t => .str (S (t.x ++ [10]))) s :=
    comp_call (F := fun d => (callP pg (k + 4) "write_test" [d] s).bind fun x s1 => .ofO (pAdd x (.str "\n") s1)) (Nat.lt_succ_self 1) (fun d => by simp [-pAdd_str]) (fun t ht => by
      have hw' : callP pg (k + 4) (Str.ofString "write_test") [t.d] s = .ok (.str (S t.x)) s := hw t ht
      have := hl t ht
      simp only [hw', Res.bind_ok]
      rw [lit_nl, pAddB (by simp; omega)]; rfl) (by rw [sz]; omega)
  have hs : ((ts.map fun t => t.x ++ [10]).map (·.length)).sum ≤ 5 * 600001 := by
    refine Nat.le_trans (sum_le (b := 600001) fun x hx => ?_) ?_
    · rw [List.map_map] at hx
      obtain ⟨t, ht, rfl⟩ := List.mem_map.mp hx
      have := hl t ht
      simp; omega
    · rw [List.length_map, List.length_map]; exact Nat.mul_le_mul_right _ h5
  have e3 : (ts.map fun t => D.str (S (t.x ++ [10]))) = (ts.map fun t => t.x ++ [10]).map fun t => D.str (S t) := by rw [List.map_map]; rfl
  rw [e3] at hc
  generalize (ts.map fun t => t.x ++ [10]) = us at hc hs
  have hm : mJoin (.str (S [])) [.loc s.length] (s ++ [.lst (us.map fun t => D.str (S t))]) = _ := mJoin_ok (w := []) (ts := us) (by simp) (by rw [sz]; simp only [List.length_nil]; omega)
  simp -implicitDefEqProofs [-List.map_map, meth_join, wipeE, hc, lit0, hm]
  rw [joinL_nil]
end K64

set_option Elab.async false
set_option linter.all false
set_option maxRecDepth 100000
set_option maxHeartbeats 4000000
/-! P64g: tokens. -/
namespace K64
open PySem L2 Y SX
def LET : List Nat := [97, 98, 99, 100, 101, 102, 103, 104, 105, 106, 107, 108, 109, 110, 111, 112, 113, 114, 115, 116, 117, 118, 119, 120, 121, 122]
def DIG : List Nat := [48, 49, 50, 51, 52, 53, 54, 55, 56, 57]
def WRD : List Nat := LET ++ DIG ++ [95]
def SNG : List Nat := [60, 62, 43, 45, 42, 40, 41, 91, 93, 123, 125, 44, 46, 58, 61, 35, 64]
def PRS : List (List Nat) := [[60, 61], [62, 61], [61, 61], [33, 61], [47, 47]]
theorem k_let : c_LETTERS = .str (S LET) := by unfold c_LETTERS; congr 1
theorem k_dig : c_DIGITS = .str (S DIG) := by unfold c_DIGITS; congr 1
theorem k_sng : c_SINGLES = .str (S SNG) := by unfold c_SINGLES; congr 1
theorem k_prs : c_PAIRS = .tup ((PRS.map S).map D.str) := by
  have h : (["<=", ">=", "==", "!=", "//"] : List Str) = PRS.map S := by decide +kernel
  unfold c_PAIRS
  rw [← h]; rfl
theorem lit_us : (Str.ofString "_") = S [95] := by decide +kernel
theorem lit_sp : (Str.ofString " ") = S [32] := by decide +kernel
def twl (sg : List Nat) (r : List Nat) : List Nat := r.takeWhile fun c => decide (c ∈ sg)
theorem twl_cons {sg r : List Nat} {c : Nat} (h : c ∈ sg) : twl sg (c :: r) = c :: twl sg r := by unfold twl; rw [List.takeWhile_cons]; simp [h]
theorem twl_stop {sg r : List Nat} {c : Nat} (h : ¬ c ∈ sg) : twl sg (c :: r) = [] := by unfold twl; rw [List.takeWhile_cons]; simp [h]
theorem twl_le (sg r : List Nat) : (twl sg r).length ≤ r.length := (List.takeWhile_sublist _).length_le
theorem twl_take (sg : List Nat) : ∀ r : List Nat, r.take (twl sg r).length = twl sg r
  | [] => rfl
  | c :: r => by
    by_cases h : c ∈ sg
    · rw [twl_cons h, List.length_cons, List.take_succ_cons, twl_take sg r]
    · rw [twl_stop h]; rfl
theorem drop_get {l : List Nat} {i c : Nat} (h : l[i]? = some c) : l.drop i = c :: l.drop (i + 1) := by
  obtain ⟨hi, rfl⟩ := List.getElem?_eq_some_iff.mp h
  exact List.drop_eq_getElem_cons hi
theorem re_ok {k : Nat} {l sg : List Nat} {i : Nat} {s : Sto} (hi : i ≤ l.length) (hl : l.length ≤ 1000000) : callP pg (k + 1) "run_end" [.str (S l), .int (i : Int), .str (S sg)] s = .ok (.int ((i + (twl sg (l.drop i)).length : Nat) : Int)) s := by
  rw [c_run_end]
  refine gc_pure rfl ?_
  unfold m_run_end
  have hlen : (S l).length ≤ sizeLine := by rw [S_len, sz]; omega
  simp -implicitDefEqProofs
  refine sWhile_to (fun E s' => s' = s ∧ ∃ m : Nat, E = [some (.str (S l)), some (.int (i : Int)), some (.str (S sg)), some (.int ((i + m : Nat) : Int))] ∧ i + m ≤ l.length ∧ m + (twl sg (l.drop (i + m))).length = (twl sg (l.drop i)).length)
    (fun E _ => match E[3]? with | some (some (D.int e)) => l.length - e.toNat | _ => 0) ⟨rfl, 0, rfl, by omega, by simp⟩ ?_ ?_
  · simp
    exact Nat.lt_of_le_of_lt (Nat.sub_le _ _) (Nat.lt_of_le_of_lt hl (by decide))
  · rintro E s' ⟨hs, m, hE, hm, ht⟩
    rw [hs, hE]
    have a1 : ∀ s, pLen [.str (S l)] s = some (.int l.length, s) := fun s => pLen_S (by rw [sz]; omega)
    have a2 : ∀ (j : Int) s, pIx (.str (S l)) (.int j) s = (atI l j).map fun c => (.str (S [c]), s) := fun j s => pIx_S (by rw [sz]; omega)
    have a3 : ∀ (c : Nat) s, pIn (.str (S [c])) (.str (S sg)) s = some (.bl (decide (c ∈ sg)), s) := fun c s => pIn_S
    by_cases hlt : i + m < l.length
    · obtain ⟨c, hc⟩ : ∃ c, l[i + m]? = some c := ⟨_, List.getElem?_eq_getElem hlt⟩
      have hat : atI l ((i : Int) + (m : Int)) = some c := by rw [show (i : Int) + (m : Int) = ((i + m : Nat) : Int) by omega, Y.atI_nat]; exact hc
      have hlt' : (i : Int) + m < l.length := by omega
      rw [drop_get hc] at ht
      by_cases hcs : c ∈ sg
      · rw [twl_cons hcs, List.length_cons] at ht
        simp -implicitDefEqProofs [a1, a2, a3, hat, hlt', hcs]
        refine ⟨⟨m + 1, ?_, ?_, ?_⟩, ?_⟩
        · simp; omega
        · omega
        · rw [show i + (m + 1) = i + m + 1 by omega]; omega
        · omega
      · rw [twl_stop hcs, List.length_nil] at ht
        simp -implicitDefEqProofs [a1, a2, a3, hat, hlt', hcs]
        omega
    · have hlt' : ¬ ((i : Int) + m < l.length) := by omega
      rw [List.drop_of_length_le (by omega)] at ht
      simp [twl] at ht
      simp -implicitDefEqProofs [a1, hlt']
      unfold twl
      omega
end K64

set_option Elab.async false
set_option linter.all false
set_option maxRecDepth 100000
set_option maxHeartbeats 4000000
/-! P64h: word_at, number_at, token_at. -/
namespace K64
open PySem L2 Y SX
def badNext (r : List Nat) : Bool := match r with
  | [] => false
  | c :: _ => decide (c ∈ LET ++ [95])
def lexT (r : List Nat) : Option (List Nat) := match r with
  | [] => none
  | c :: _ =>
    if c ∈ LET then (if (twl WRD r).length ≤ 16 then some (twl WRD r) else none)
    else if c ∈ DIG then (if 6 < (twl DIG r).length ∨ (c = 48 ∧ 1 < (twl DIG r).length) then none else if badNext (r.drop (twl DIG r).length) = true then none else some (twl DIG r))
    else if r.take 2 ∈ PRS then some (r.take 2)
    else if c ∈ SNG then some [c] else none
/-- what a reading of a token gives -/
def TkP (s : Sto) (o : Option (List Nat)) (r : Res D) : Prop := r.to (fun d s' => s' = s ∧ ∃ w, o = some w ∧ d = .str (S w)) (fun x s' => s' = s ∧ x = "WrongLine" ∧ o = none)
theorem gcS {Q : D → Sto → Prop} {X : Str → Sto → Prop} {s : Sto} {d : D} (h : Q d s) : (gc s (.ok d s)).to Q X := gc_both h fun _ => by rw [List.take_length]; exact h
theorem cI (a m : Nat) : (((a : Int)) < (m : Int)) = (a < m) := propext (by omega)
theorem cI1 (m : Nat) : ((1 : Int) < (m : Int)) = (1 < m) := cI 1 m
theorem cI6 (m : Nat) : ((6 : Int) < (m : Int)) = (6 < m) := cI 6 m
theorem cI16 (m : Nat) : ((16 : Int) < (m : Int)) = (16 < m) := cI 16 m
theorem cL1 (m : Nat) : ((m : Int) ≤ 1) = (m ≤ 1) := propext (by omega)
theorem cL6 (m : Nat) : ((m : Int) ≤ 6) = (m ≤ 6) := propext (by omega)
theorem cL16 (m : Nat) : ((m : Int) ≤ 16) = (m ≤ 16) := propext (by omega)
section
variable {k : Nat} {l : List Nat} {i : Nat} {s : Sto}
theorem cut_tw {sg : List Nat} (hi : i ≤ l.length) : cutS (S l) (some (i : Int)) (some ((i : Int) + ((twl sg (l.drop i)).length : Int))) = S (twl sg (l.drop i)) := by
  have h := twl_le sg (l.drop i)
  rw [List.length_drop] at h
  rw [show (i : Int) + ((twl sg (l.drop i)).length : Int) = ((i + (twl sg (l.drop i)).length : Nat) : Int) by omega, cutS_mid (by omega), List.drop_take, Nat.add_sub_cancel_left, twl_take]
theorem wrd_eq : S (LET ++ DIG ++ [95]) = S WRD := rfl
theorem word_ok (hi : i ≤ l.length) (hl : l.length ≤ 1000000) : TkP s (if (twl WRD (l.drop i)).length ≤ 16 then some (twl WRD (l.drop i)) else none) (callP pg (k + 2) "word_at" [.str (S l), .int (i : Int)] s) := by
  unfold TkP
  rw [show k + 2 = (k + 1) + 1 from rfl, c_word_at]
  apply gc_to
  unfold m_word_at
  rw [k_let, k_dig]
  unfold c_MOST_SIGNS
  have hre := re_ok (k := k) (sg := WRD) (s := s) hi hl
  have a1 : ∀ s, pAdd (.str (S LET)) (.str (S DIG)) s = some (.str (S (LET ++ DIG)), s) := fun s => pAddB (by decide)
  have a2 : ∀ s, pAdd (.str (S (LET ++ DIG))) (.str "_") s = some (.str (S WRD), s) := fun s => by rw [lit_us]; exact pAddB (by decide)
  have a3 : ∀ (lo hi : Option Int) s, pSl (.str (S l)) lo hi s = some (.str (cutS (S l) lo hi), s) := fun lo hi s => pSl_S (by rw [sz]; omega)
  have a4 := cut_tw (sg := WRD) hi
  have hw := twl_le WRD (l.drop i)
  rw [List.length_drop] at hw
  generalize twl WRD (l.drop i) = w at *
  have a5 : ∀ s, pLen [.str (S w)] s = some (.int w.length, s) := fun s => pLen_S (by rw [sz]; omega)
  simp -implicitDefEqProofs [-pAdd_str, a1, a2, a3, hre, a4, a5, cI16, cL16]
  by_cases h16 : w.length ≤ 16
  · have h' : ¬ (16 < w.length) := by omega
    simp [h16, h']
    exact gcS (by simp)
  · have h' : 16 < w.length := by omega
    simp [h16, h']
theorem badNext_at {m : Nat} : badNext (l.drop m) = match l[m]? with
    | some c => decide (c ∈ LET ++ [95])
    | none => false := by
  cases h : l[m]? with
  | none =>
    rw [List.drop_of_length_le (List.getElem?_eq_none_iff.mp h)]; rfl
  | some c => rw [drop_get h]; rfl
theorem num_ok {c : Nat} (hc : l[i]? = some c) (hd : c ∈ DIG) (hl : l.length ≤ 1000000) : TkP s (if 6 < (twl DIG (l.drop i)).length ∨ (c = 48 ∧ 1 < (twl DIG (l.drop i)).length) then none else if badNext ((l.drop i).drop (twl DIG (l.drop i)).length) = true then none else some (twl DIG (l.drop i))) (callP pg (k + 2) "number_at" [.str (S l), .int (i : Int)] s) := by
  unfold TkP
  have hi : i ≤ l.length := Nat.le_of_lt (List.getElem?_eq_some_iff.mp hc).1
  rw [show k + 2 = (k + 1) + 1 from rfl, c_number_at]
  apply gc_to
  unfold m_number_at
  rw [k_let, k_dig]
  unfold c_MOST_DIGITS
  have hre := re_ok (k := k) (sg := DIG) (s := s) hi hl
  have a1 : ∀ s, pAdd (.str (S LET)) (.str "_") s = some (.str (S (LET ++ [95])), s) := fun s => by rw [lit_us]; exact pAddB (by decide)
  have a3 : ∀ (lo hi : Option Int) s, pSl (.str (S l)) lo hi s = some (.str (cutS (S l) lo hi), s) := fun lo hi s => pSl_S (by rw [sz]; omega)
  have a4 := cut_tw (sg := DIG) hi
  have hw := twl_le DIG (l.drop i)
  have hcw : ∃ r, twl DIG (l.drop i) = c :: r := by rw [drop_get hc, twl_cons hd]; exact ⟨_, rfl⟩
  rw [List.length_drop] at hw
  rw [List.drop_drop, badNext_at]
  generalize twl DIG (l.drop i) = w at *
  obtain ⟨r, rfl⟩ := hcw
  have a5 : ∀ s, pLen [.str (S (c :: r))] s = some (.int ((c :: r).length : Nat), s) := fun s => pLen_S (by rw [sz]; omega)
  have a6 : ∀ s, pLen [.str (S l)] s = some (.int l.length, s) := fun s => pLen_S (by rw [sz]; omega)
  have a7 : ∀ s, pIx (.str (S (c :: r))) (.int 0) s = some (.str (S [c]), s) := fun s => by rw [pIx_S (by rw [sz]; omega), show (0 : Int) = ((0 : Nat) : Int) from rfl, Y.atI_nat]; rfl
  have a8 : ∀ (j : Int) s, pIx (.str (S l)) (.int j) s = (atI l j).map fun c => (.str (S [c]), s) := fun j s => pIx_S (by rw [sz]; omega)
  have a9 : ∀ s, pEq (.str (S [c])) (.str "0") s = some (.bl (decide (c = 48)), s) := fun s => by rw [lit_0, pEq_S]; simp
  have a10 : ∀ (c : Nat) s, pIn (.str (S [c])) (.str (S (LET ++ [95]))) s = some (.bl (decide (c ∈ LET ++ [95])), s) := fun c s => pIn_S
  generalize hn : (c :: r).length = n at *
  have fin : ((i : Int) + (n : Int) < l.length → ∃ b, atI l ((i : Int) + n) = some b ∧ l[i + n]? = some b) := fun h => by
    have hlt : i + n < l.length := by omega
    refine ⟨l[i + n], ?_, List.getElem?_eq_getElem hlt⟩
    rw [show (i : Int) + (n : Int) = ((i + n : Nat) : Int) by omega, Y.atI_nat]; exact List.getElem?_eq_getElem hlt
  have fin2 : (¬ ((i : Int) + (n : Int) < l.length) → l[i + n]? = none) := fun h => List.getElem?_eq_none_iff.mpr (by omega)
  simp -implicitDefEqProofs [-pAdd_str, hre, a1, a3, a4, a5, a6, a7, a8, a9, a10, cI1, cI6, cL1, cL6]
  by_cases h6 : 6 < n
  · have h6' : ¬ (n ≤ 6) := by omega
    simp [h6, h6']
  · have h6' : n ≤ 6 := by omega
    by_cases h48 : c = 48 ∧ 1 < n
    · obtain ⟨h48a, h48b⟩ := h48
      have h48c : ¬ (n ≤ 1) := by omega
      simp [h48a, h48b, h48c, h6, h6']
    · by_cases hlt : (i : Int) + (n : Int) < l.length
      · obtain ⟨b, hb1, hb2⟩ := fin hlt
        have hlt' : ¬ ((l.length : Int) ≤ (i : Int) + (n : Int)) := by omega
        by_cases hbb : b ∈ LET ++ [95]
        · have hb' := List.mem_append.mp hbb
          rw [List.mem_singleton] at hb'
          have hb'' : b ∈ LET → (b ∈ LET ∨ b = 95) := .inl
          by_cases hc48 : c = 48
          · have hn1 : n ≤ 1 := by omega
            have hn1' : ¬ (1 < n) := by omega
            simp [hc48, hn1, hn1', h6, h6', hlt, hlt', hb1, hb2, hb']
            intro h1 h2; exact absurd hb' (by simp [h1, h2])
          · simp [hc48, h6, h6', hlt, hlt', hb1, hb2, hb']
            intro h1 h2; exact absurd hb' (by simp [h1, h2])
        · have hb1' : ¬ b ∈ LET := fun z => hbb (List.mem_append_left _ z)
          have hb2' : ¬ b = 95 := fun z => hbb (List.mem_append_right _ (by simp [z]))
          by_cases hc48 : c = 48
          · have hn1 : n ≤ 1 := by omega
            have hn1' : ¬ (1 < n) := by omega
            simp [hc48, hn1, hn1', h6, h6', hlt, hlt', hb1, hb2, hb1', hb2']
            exact gcS (by simp)
          · simp [hc48, h6, h6', hlt, hlt', hb1, hb2, hb1', hb2']
            exact gcS (by simp)
      · have hn := fin2 hlt
        have hlt' : (l.length : Int) ≤ (i : Int) + (n : Int) := by omega
        by_cases hc48 : c = 48
        · have hn1 : n ≤ 1 := by omega
          have hn1' : ¬ (1 < n) := by omega
          simp [hc48, hn1, hn1', h6, h6', hlt, hlt', hn]
          exact gcS (by simp)
        · simp [hc48, h6, h6', hlt, hlt', hn]
          exact gcS (by simp)
theorem token_ok {c : Nat} (hc : l[i]? = some c) (hl : l.length ≤ 1000000) : TkP s (lexT (l.drop i)) (callP pg (k + 3) "token_at" [.str (S l), .int (i : Int)] s) := by
  have hi : i ≤ l.length := Nat.le_of_lt (List.getElem?_eq_some_iff.mp hc).1
  have hw := word_ok (k := k) (s := s) hi hl
  have hnum := fun hd => num_ok (k := k) (s := s) hc hd hl
  have e : l.drop i = c :: l.drop (i + 1) := drop_get hc
  unfold lexT
  rw [e] at hw hnum ⊢
  unfold TkP at *
  rw [show k + 3 = (k + 2) + 1 from rfl, c_token_at]
  apply gc_to
  unfold m_token_at
  rw [k_let, k_dig, k_sng, k_prs]
  have a3 : ∀ (lo hi : Option Int) s, pSl (.str (S l)) lo hi s = some (.str (cutS (S l) lo hi), s) := fun lo hi s => pSl_S (by rw [sz]; omega)
  have a8 : ∀ s, pIx (.str (S l)) (.int (i : Int)) s = some (.str (S [c]), s) := fun s => by rw [pIx_S (by rw [sz]; omega), Y.atI_nat, hc]; rfl
  have a10 : ∀ (sg : List Nat) s, pIn (.str (S [c])) (.str (S sg)) s = some (.bl (decide (c ∈ sg)), s) := fun sg s => pIn_S
  have a4 : cutS (S l) (some (i : Int)) (some ((i : Int) + 2)) = S ((l.drop i).take 2) := by
    by_cases h2 : i + 2 ≤ l.length
    · rw [show (i : Int) + 2 = ((i + 2 : Nat) : Int) by omega, cutS_mid h2, List.drop_take, Nat.add_sub_cancel_left]
    · rw [show (i : Int) + 2 = ((i + 2 : Nat) : Int) by omega, cutS_S, sIx_nat, sIx_nat, Nat.min_eq_left hi, Nat.min_eq_right (by omega), List.take_of_length_le (by rw [List.length_drop]; exact Nat.le_refl _), List.take_of_length_le (by rw [List.length_drop]; omega)]
  have a5 : ∀ s, pIn (.str (S ((l.drop i).take 2))) (.tup ((PRS.map S).map D.str)) s = some (.bl (decide ((l.drop i).take 2 ∈ PRS)), s) := fun s => by
    rw [pIn_tupS]
    congr 3
    refine decide_eq_decide.mpr ⟨fun h => ?_, fun h => List.mem_map_of_mem h⟩
    obtain ⟨a, ha, ea⟩ := List.mem_map.mp h
    rw [← S_inj ea]; exact ha
  rw [e] at a4 a5
  generalize l.drop (i + 1) = r at *
  simp -implicitDefEqProofs [-pAdd_str, a3, a8, a10, a4, a5, -List.map_map, -List.take_succ_cons]
  refine ⟨fun h1 => ?_, fun h1 => ⟨fun h2 => ?_, fun h2 => ⟨fun h3 => ?_, fun h3 => ⟨fun h4 => ?_, fun h4 => ?_⟩⟩⟩⟩
  · simp only [h1, if_true] at hw ⊢
    refine Res.to_mono hw ?_ fun x s' z => z
    rintro d s' ⟨rfl, w, hw2, rfl⟩
    exact gcS ⟨rfl, w, hw2, rfl⟩
  · have hnum := hnum h2
    simp only [h1, h2, if_true, if_false] at hnum ⊢
    refine Res.to_mono hnum ?_ fun x s' z => z
    rintro d s' ⟨rfl, w, hw2, rfl⟩
    exact gcS ⟨rfl, w, hw2, rfl⟩
  · simp only [h1, h2, h3, if_true, if_false]
    exact gcS ⟨rfl, _, rfl, rfl⟩
  · simp only [h1, h2, h3, h4, if_true, if_false]
    exact gcS ⟨rfl, _, rfl, rfl⟩
  · simp only [h1, h2, h3, h4, if_false]
end
end K64

set_option Elab.async false
set_option linter.all false
set_option maxRecDepth 100000
set_option maxHeartbeats 4000000
/-! P64i: tokens_of. -/
namespace K64
open PySem L2 Y SX
def lex : Nat → List Nat → Option (List (List Nat))
  | 0, _ => none
  | _ + 1, [] => some []
  | n + 1, c :: r => if c = 32 then lex n r else match lexT (c :: r) with
    | none => none
    | some w => (lex n ((c :: r).drop w.length)).map (w :: ·)
theorem lexT_ne {r w : List Nat} (h : lexT r = some w) : 0 < w.length ∧ w.length ≤ r.length := by
  cases r with
  | nil => cases h
  | cons c r =>
    unfold lexT at h
    simp only at h
    split at h
    · rename_i hc
      split at h
      · cases h
        exact ⟨by rw [twl_cons (by unfold WRD; simp [hc])]; simp, twl_le _ _⟩
      · cases h
    · split at h
      · rename_i hc
        split at h
        · cases h
        · split at h
          · cases h
          · cases h
            exact ⟨by rw [twl_cons hc]; simp, twl_le _ _⟩
      · split at h
        · cases h
          simp; omega
        · split at h
          · cases h; simp
          · cases h
theorem lex_fuel : ∀ (n m : Nat) (r : List Nat), r.length < n → r.length < m → lex n r = lex m r
  | 0, _, _, h, _ => by omega
  | _, 0, _, _, h => by omega
  | n + 1, m + 1, [], _, _ => rfl
  | n + 1, m + 1, c :: r, h1, h2 => by
    rw [List.length_cons] at h1 h2
    unfold lex
    split
    · exact lex_fuel n m r (by omega) (by omega)
    · cases e : lexT (c :: r) with
      | none => rfl
      | some w =>
        have := lexT_ne e
        rw [List.length_cons] at this
        simp only
        rw [lex_fuel n m ((c :: r).drop w.length) (by rw [List.length_drop, List.length_cons]; omega) (by rw [List.length_drop, List.length_cons]; omega)]
def lexR (r : List Nat) : Option (List (List Nat)) := lex (r.length + 1) r
theorem lexR_nil : lexR [] = some [] := rfl
theorem lexR_sp {r : List Nat} : lexR (32 :: r) = lexR r := by
  unfold lexR
  rw [List.length_cons, lex, if_pos rfl]
theorem lexR_tk {c : Nat} {r : List Nat} (h : c ≠ 32) : lexR (c :: r) = match lexT (c :: r) with
    | none => none
    | some w => (lexR ((c :: r).drop w.length)).map (w :: ·) := by
  unfold lexR
  rw [List.length_cons, lex, if_neg h]
  cases e : lexT (c :: r) with
  | none => rfl
  | some w =>
    have := lexT_ne e
    rw [List.length_cons] at this
    simp only
    rw [lex_fuel (r.length + 1) (((c :: r).drop w.length).length + 1) ((c :: r).drop w.length) (by rw [List.length_drop, List.length_cons]; omega) (by omega)]
def lexL (l : List Nat) : Option (List (List Nat)) := match lexR l with
  | some ws => if ws.length ≤ 40 then some ws else none
  | none => none
abbrev tkD (ws : List (List Nat)) : O := O.lst (ws.map fun w => D.str (S w))
theorem cI40 (m : Nat) : ((40 : Int) < (m : Int)) = (40 < m) := cI 40 m
theorem cL40 (m : Nat) : ((m : Int) ≤ 40) = (m ≤ 40) := propext (by omega)
theorem gcT {Q : D → Sto → Prop} {X : Str → Sto → Prop} {s s' : Sto} {n : Nat} (hn : s.length ≤ n) (h : Q (.loc n) s') : (gc s (.ok (.loc n) s')).to Q X := gc_both h fun z => by
  simp only [D.cl, decide_eq_true_eq] at z
  omega
theorem toks_ok {k : Nat} {l : List Nat} {s : Sto} (hl : l.length ≤ 1000000) : (callP pg (k + 4) "tokens_of" [.str (S l)] s).to (fun d s' => d = .loc s.length ∧ ∃ ws, lexL l = some ws ∧ s' = s ++ [tkD ws]) (fun x s' => x = "WrongLine" ∧ lexL l = none) := by
  rw [show k + 4 = (k + 3) + 1 from rfl, c_tokens_of]
  apply gc_to
  unfold m_tokens_of c_MOST_TOKENS
  simp -implicitDefEqProofs
  refine sWhile_to (fun E s' => ∃ (i : Nat) (o3 : Option D) (ws : List (List Nat)), E = [some (.str (S l)), some (.loc s.length), some (.int (i : Int)), o3] ∧ s' = s ++ [tkD ws] ∧ i ≤ l.length ∧ ws.length ≤ i ∧ lexR l = (lexR (l.drop i)).map (ws ++ ·))
    (fun E _ => match E[2]? with | some (some (D.int e)) => l.length - e.toNat | _ => 0) ⟨0, none, [], rfl, rfl, by omega, by simp, by simp⟩ ?_ ?_
  · exact Nat.lt_of_le_of_lt (Nat.sub_le _ _) (Nat.lt_of_le_of_lt hl (by decide))
  · rintro E s' ⟨i, o3, ws, hE, hs, hi, hws, hx⟩
    rw [hs, hE]
    have a1 : ∀ s, pLen [.str (S l)] s = some (.int l.length, s) := fun s => pLen_S (by rw [sz]; omega)
    by_cases hlt : i < l.length
    · obtain ⟨c, hc⟩ : ∃ c, l[i]? = some c := ⟨_, List.getElem?_eq_getElem hlt⟩
      have hd := drop_get hc
      have hlt' : ((i : Int) < (l.length : Int)) := by omega
      have a8 : ∀ s, pIx (.str (S l)) (.int (i : Int)) s = some (.str (S [c]), s) := fun s => by rw [pIx_S (by rw [sz]; omega), Y.atI_nat, hc]; rfl
      have a9 : ∀ s, pEq (.str (S [c])) (.str " ") s = some (.bl (decide (c = 32)), s) := fun s => by rw [lit_sp, pEq_S]; simp
      by_cases h32 : c = 32
      · subst h32
        rw [hd, lexR_sp] at hx
        simp -implicitDefEqProofs [-pEq_str, a1, a8, a9, hlt']
        exact ⟨⟨i + 1, by omega, _, rfl, by omega, by omega, hx⟩, by omega⟩
      · have ht := token_ok (k := k) (s := s ++ [tkD ws]) hc hl
        unfold TkP at ht
        rw [hd] at ht hx
        rw [lexR_tk h32] at hx
        simp -implicitDefEqProofs [-pEq_str, a1, a8, a9, hlt', h32]
        refine Res.to_mono ht ?_ ?_
        · rintro d s2 ⟨rfl, w, hw, rfl⟩
          have hwl := lexT_ne hw
          rw [hw] at hx
          simp only at hx
          rw [← hd, List.drop_drop] at hx
          rw [← hd, List.length_drop] at hwl
          have hk : (s ++ [tkD ws])[s.length]? = some (.lst (ws.map fun w => .str (S w))) := by simp [tkD]
          have a5 : ∀ s, pLen [.str (S w)] s = some (.int w.length, s) := fun s => pLen_S (by rw [sz]; omega)
          have hwz : ws.length < sizeLine := by rw [sz]; omega
          simp -implicitDefEqProofs [meth_append hk, mAppend, hwz, a5]
          refine ⟨⟨i + w.length, by omega, ws ++ [w], by simp [tkD], by omega, by simp; omega, ?_⟩, by omega⟩
          rw [hx]
          cases lexR (l.drop (i + w.length)) with
          | none => rfl
          | some x => simp
        · rintro x s2 ⟨rfl, rfl, hw⟩
          rw [hw] at hx
          refine ⟨rfl, ?_⟩
          unfold lexL
          rw [hx]; rfl
    · have hlt' : ¬ ((i : Int) < (l.length : Int)) := by omega
      have hle' : ((l.length : Int) ≤ (i : Int)) := by omega
      rw [List.drop_of_length_le (by omega), lexR_nil] at hx
      simp at hx
      have hk : (s ++ [tkD ws])[s.length]? = some (.lst (ws.map fun w => .str (S w))) := by simp [tkD]
      have a7 : pLen [.loc s.length] (s ++ [tkD ws]) = some (.int ws.length, s ++ [tkD ws]) := by unfold pLen; simp
      simp -implicitDefEqProofs [a1, hlt', hle', a7, cI40, cL40]
      unfold lexL
      rw [hx]
      simp only
      refine ⟨fun h => ?_, fun h => ?_⟩
      · rw [if_neg (by omega)]
      · rw [if_pos (by omega)]
        exact gcT (Nat.le_refl _) ⟨rfl, ws, rfl, rfl⟩
end K64

set_option Elab.async false
set_option linter.all false
set_option maxRecDepth 100000
set_option maxHeartbeats 4000000
/-! P64j: the cursor. -/
namespace K64
open PySem L2 Y SX
def curD (t a : Nat) : O := .ins "Cursor" [("tokens", .loc t), ("at", .int (a : Int))]
structure CuS (c t : Nat) (ws : List (List Nat)) (a : Nat) (s : Sto) : Prop where
  cu : s[c]? = some (curD t a)
  tk : s[t]? = some (tkD ws)
  ne : t ≠ c
  hw : ws.length ≤ 40
  hl : ∀ w ∈ ws, w ≠ [] ∧ w.length ≤ 1000000
section
variable {k c t a : Nat} {ws : List (List Nat)} {s : Sto}
theorem CuS.step (h : CuS c t ws a s) (b : Nat) : CuS c t ws b (s.set c (curD t b)) where
  cu := List.getElem?_set_self (List.getElem?_eq_some_iff.mp h.cu).1
  tk := by rw [List.getElem?_set_ne (Ne.symm h.ne)]; exact h.tk
  ne := h.ne
  hw := h.hw
  hl := h.hl
theorem CuS.app (h : CuS c t ws a s) (u : Sto) : CuS c t ws a (s ++ u) where
  cu := by rw [List.getElem?_append_left (List.getElem?_eq_some_iff.mp h.cu).1]; exact h.cu
  tk := by rw [List.getElem?_append_left (List.getElem?_eq_some_iff.mp h.tk).1]; exact h.tk
  ne := h.ne
  hw := h.hw
  hl := h.hl
theorem CuS.lt (h : CuS c t ws a s) : c < s.length := (List.getElem?_eq_some_iff.mp h.cu).1
theorem CuS.cl (h : CuS c t ws a s) (b : Nat) : O.cl s.length (curD t b) = true := by
  have := (List.getElem?_eq_some_iff.mp h.tk).1
  simp [curD, O.cl, clA, D.cl, this]
theorem CuS.fa (h : CuS c t ws a s) : fldD pg.fld "at" (.loc c) s = some (.int (a : Int)) := fldD_ins h.cu (by kernel_rfl!) (by kernel_rfl!)
theorem CuS.ft (h : CuS c t ws a s) : fldD pg.fld "tokens" (.loc c) s = some (.loc t) := fldD_ins h.cu (by kernel_rfl!) (by kernel_rfl!)
theorem put_at {t a : Nat} {b : Int} : putD "at" (.int b) [(("tokens" : Str), D.loc t), (("at" : Str), D.int (a : Int))] = [(("tokens" : Str), D.loc t), (("at" : Str), D.int b)] := by kernel_rfl!
theorem CuS.sa (h : CuS c t ws a s) : setFD pg.fld "at" (.loc c) (.int ((a : Int) + 1)) s = some (s.set c (curD t (a + 1))) := by
  rw [setFD_ins h.cu (by kernel_rfl!) (show 2 < 1000 by decide), put_at]
  rfl
theorem CuS.cls (h : CuS c t ws a s) : clsD (.loc c) s = some ("Cursor" : Str) := by unfold clsD; simp only [h.cu, curD]
theorem CuS.mt (h : CuS c t ws a s) {m : Str} {n : Nat} {r : Option (List D × (List D → Sto → Res D))} (hn : List.lookup m [(("tokens" : Str), D.loc t), (("at" : Str), D.int (a : Int))] = none) (hm : (pg.ctx k).mth "Cursor" m n = r) : mthF (pg.ctx k).mth m n (.loc c) s = r := mthF_ins h.cu hn hm
def tok (ws : List (List Nat)) (a : Nat) : List Nat := (ws[a]?).getD []
theorem CuS.tl (h : CuS c t ws a s) : (tok ws a).length ≤ 1000000 := by
  unfold tok
  cases e : ws[a]? with
  | none => simp
  | some w => exact (h.hl w (List.mem_of_getElem? e)).2
theorem peek_ok (h : CuS c t ws a s) : callP pg (k + 1) "Cursor.peek" [.loc c, .int 0] s = .ok (.str (S (tok ws a))) s := by
  rw [c_Cursor_peek]
  refine gc_pure rfl ?_
  unfold m_Cursor_peek
  have f1 := h.fa
  have f2 := h.ft
  have a7 : pLen [.loc t] s = some (.int ws.length, s) := by unfold pLen; simp [h.tk]
  have a8 : pIx (.loc t) (.int (a : Int)) s = (ws[a]?).map fun w => (.str (S w), s) := by
    unfold pIx
    simp only [h.tk, Y.atI_nat, List.getElem?_map]
    cases ws[a]? <;> rfl
  by_cases hlt : a < ws.length
  · have hlt' : (a : Int) < ws.length := by omega
    have hw : ws[a]? = some ws[a] := List.getElem?_eq_getElem hlt
    simp -implicitDefEqProofs [f1, f2, a7, a8, hlt', hw, tok]
  · have hlt' : ¬ ((a : Int) < ws.length) := by omega
    have hw : ws[a]? = none := List.getElem?_eq_none_iff.mpr (by omega)
    simp -implicitDefEqProofs [f1, f2, a7, a8, hlt', hw, tok, lit0]
theorem aug_ok (h : CuS c t ws a s) : pInp .Add (.int (a : Int)) (.int 1) s = some (.int ((a : Int) + 1), s) := rfl
theorem gc_step (h : CuS c t ws a s) {d : D} (hd : D.cl s.length d = true) {b : Nat} : gc s (.ok d (s.set c (curD t b))) = .ok d (s.set c (curD t b)) := by
  have := gc_set (t := []) hd (h.cl b) (k := c)
  rw [List.append_nil] at this
  exact this
theorem gc_eq {r : SR} {d : D} {s s' : Sto} (h : r.to { rt := fun d' s2 => d' = d ∧ s2 = s', nx := fun _ s2 => d = .non ∧ s2 = s' }) : gc s (resS r) = gc s (.ok d s') := by
  cases r with
  | rt d' s2 => obtain ⟨rfl, rfl⟩ := h; rfl
  | nx E s2 => obtain ⟨rfl, rfl⟩ := h; rfl
  | _ => exact h.elim
theorem take_ok (h : CuS c t ws a s) {w : List Nat} (hw : ws[a]? = some w) : callP pg (k + 2) "Cursor.take" [.loc c] s = .ok (.str (S w)) (s.set c (curD t (a + 1))) := by
  rw [show k + 2 = (k + 1) + 1 from rfl, c_Cursor_take]
  have hp := peek_ok (k := k) h
  rw [← gc_step h rfl]
  apply gc_eq
  unfold m_Cursor_take
  have e : tok ws a = w := by unfold tok; rw [hw]; rfl
  rw [e] at hp
  have hne := (h.hl w (List.mem_of_getElem? hw)).1
  have m1 := h.mt (m := "peek") (n := 0) (by kernel_rfl!) (t_Cursor_peek_0 (k := k + 1))
  have a9 : ∀ s, pEq (.str (S w)) (.str "") s = some (.bl false, s) := fun s => by rw [lit0, pEq_S]; simp [hne]
  simp -implicitDefEqProofs [-pEq_str, m1, hp, a9, st_fldaug, h.fa, h.sa, h.cls, pInp]
  exact ⟨_, _, ⟨rfl, rfl⟩, h.sa, h.cls.symm⟩
theorem skip_ok (h : CuS c t ws a s) {v w : List Nat} (hw : tok ws a = w) : callP pg (k + 2) "Cursor.skip" [.loc c, .str (S v)] s = .ok (.bl (decide (w = v))) (if w = v then s.set c (curD t (a + 1)) else s) := by
  rw [show k + 2 = (k + 1) + 1 from rfl, c_Cursor_skip]
  have hp := peek_ok (k := k) h
  rw [hw] at hp
  have m1 := h.mt (m := "peek") (n := 0) (by kernel_rfl!) (t_Cursor_peek_0 (k := k + 1))
  have a9 : ∀ s, pNe (.str (S w)) (.str (S v)) s = some (.bl (!decide (w = v)), s) := fun s => pNe_S
  by_cases hv : w = v
  · rw [if_pos hv, decide_eq_true hv, ← gc_step h rfl]
    apply gc_eq
    unfold m_Cursor_skip
    simp -implicitDefEqProofs [m1, hp, a9, hv, st_fldaug, h.fa, pInp]
    exact ⟨_, _, ⟨rfl, rfl⟩, h.sa, rfl⟩
  · rw [if_neg hv, decide_eq_false hv]
    refine gc_pure rfl ?_
    unfold m_Cursor_skip
    simp -implicitDefEqProofs [m1, hp, a9, hv]
theorem expect_ok (h : CuS c t ws a s) {v : List Nat} (hw : tok ws a = v) : callP pg (k + 3) "Cursor.expect" [.loc c, .str (S v)] s = .ok .non (s.set c (curD t (a + 1))) := by
  rw [show k + 3 = (k + 2) + 1 from rfl, c_Cursor_expect]
  have hp := skip_ok (k := k) h hw (v := v)
  rw [if_pos rfl, decide_eq_true rfl] at hp
  have m1 := h.mt (m := "skip") (n := 1) (by kernel_rfl!) (t_Cursor_skip_1 (k := k + 2))
  rw [← gc_step h rfl]
  apply gc_eq
  unfold m_Cursor_expect
  simp -implicitDefEqProofs [m1, hp]
def RES : List (List Nat) := ["record", "field", "end", "proc", "gives", "int", "local", "need", "hint", "ensure", "try", "set", "push", "to", "pop", "from", "if", "else", "while", "call", "give", "pause", "not", "and", "or", "mod", "result"].map fun x => (Str.ofString x).cps.toList
theorem k_res : c_RESERVED = .tup ((RES.map S).map D.str) := by
  have h : (["record", "field", "end", "proc", "gives", "int", "local", "need", "hint", "ensure", "try", "set", "push", "to", "pop", "from", "if", "else", "while", "call", "give", "pause", "not", "and", "or", "mod", "result"] : List Str) = RES.map S := by decide +kernel
  unfold c_RESERVED
  rw [← h]; rfl
theorem name_ok (h : CuS c t ws a s) {w : List Nat} {ch : Nat} (hw : ws[a]? = some w) (hc : w[0]? = some ch) (hl : ch ∈ LET) (hr : w ∉ RES) : callP pg (k + 3) "Cursor.name" [.loc c] s = .ok (.str (S w)) (s.set c (curD t (a + 1))) := by
  rw [show k + 3 = (k + 2) + 1 from rfl, c_Cursor_name]
  have hp := take_ok (k := k) h hw
  have m1 := h.mt (m := "take") (n := 0) (by kernel_rfl!) (t_Cursor_take_0 (k := k + 2))
  have hlw := (h.hl w (List.mem_of_getElem? hw)).2
  have a1 : ∀ s, pIx (.str (S w)) (.int 0) s = some (.str (S [ch]), s) := fun s => by rw [pIx_S (by rw [sz]; omega), show (0 : Int) = ((0 : Nat) : Int) from rfl, Y.atI_nat, hc]; rfl
  have a2 : ∀ s, pNotIn (.str (S [ch])) (.str (S LET)) s = some (.bl false, s) := fun s => by rw [pNotIn_S]; simp [hl]
  have a3 : ∀ s, pIn (.str (S w)) (.tup ((RES.map S).map D.str)) s = some (.bl false, s) := fun s => by
    rw [pIn_tupS, decide_eq_false]
    intro hm
    obtain ⟨b, hb, eb⟩ := List.mem_map.mp hm
    exact hr (S_inj eb ▸ hb)
  rw [← gc_step h rfl]
  apply gc_eq
  unfold m_Cursor_name
  rw [k_let, k_res]
  simp -implicitDefEqProofs [m1, hp, a1, a2, a3, -List.map_map]
theorem atnum_ok (h : CuS c t ws a s) {w : List Nat} (hw : tok ws a = w) : callP pg (k + 2) "Cursor.at_number" [.loc c] s = .ok (.bl (match w with | ch :: _ => decide (ch ∈ DIG) | [] => false)) s := by
  rw [show k + 2 = (k + 1) + 1 from rfl, c_Cursor_at_number]
  have hp := peek_ok (k := k) h
  rw [hw] at hp
  have hlw := h.tl
  rw [hw] at hlw
  have m1 := h.mt (m := "peek") (n := 0) (by kernel_rfl!) (t_Cursor_peek_0 (k := k + 1))
  refine gc_pure rfl ?_
  unfold m_Cursor_at_number
  rw [k_dig]
  have a3 : ∀ s, pSl (.str (S w)) none (some 1) s = some (.str (S (w.take 1)), s) := fun s => by
    rw [pSl_S (by rw [sz]; omega), show (1 : Int) = ((1 : Nat) : Int) from rfl, cutS_to]
  have a4 : ∀ s, pNe (.str (S (w.take 1))) (.str "") s = some (.bl (!decide (w.take 1 = [])), s) := fun s => by rw [lit0]; exact pNe_S
  cases w with
  | nil =>
    have a4' : ∀ s, pNe (.str (S [])) (.str "") s = some (.bl false, s) := fun s => by rw [lit0, pNe_S]; simp
    simp -implicitDefEqProofs [-pNe_str, m1, hp, a3, a4']
  | cons ch r =>
    have a1 : ∀ s, pIx (.str (S (ch :: r))) (.int 0) s = some (.str (S [ch]), s) := fun s => by rw [pIx_S (by rw [sz]; omega), show (0 : Int) = ((0 : Nat) : Int) from rfl, Y.atI_nat]; rfl
    have a2 : ∀ s, pIn (.str (S [ch])) (.str (S DIG)) s = some (.bl (decide (ch ∈ DIG)), s) := fun s => pIn_S
    rw [show (ch :: r).take 1 = [ch] from rfl] at a3 a4
    have a4' : ∀ s, pNe (.str (S [ch])) (.str "") s = some (.bl true, s) := fun s => by rw [a4]; simp
    simp -implicitDefEqProofs [-pNe_str, m1, hp, a3, a4', a1, a2]
theorem number_ok (h : CuS c t ws a s) {w : List Nat} (hw : ws[a]? = some w) (hd : NumText.AllDigits w) (hD : ∀ x ∈ w, x ∈ DIG) (hl : w.length ≤ 600) : callP pg (k + 3) "Cursor.number" [.loc c] s = .ok (.int (NumText.digitsVal w : Nat)) (s.set c (curD t (a + 1))) := by
  rw [show k + 3 = (k + 2) + 1 from rfl, c_Cursor_number]
  have e : tok ws a = w := by unfold tok; rw [hw]; rfl
  have hne := (h.hl w (List.mem_of_getElem? hw)).1
  have hp := take_ok (k := k) h hw
  have hq := atnum_ok (k := k) h e
  have hq' : callP pg (k + 2) (Str.ofString "Cursor.at_number") [.loc c] s = .ok (.bl true) s := by
    rw [show callP pg (k + 2) (Str.ofString "Cursor.at_number") [.loc c] s = _ from hq]
    cases w with
    | nil => exact absurd rfl hne
    | cons ch r => simp [hD ch (List.mem_cons_self ..)]
  have m1 := h.mt (m := "take") (n := 0) (by kernel_rfl!) (t_Cursor_take_0 (k := k + 2))
  have m2 := h.mt (m := "at_number") (n := 0) (by kernel_rfl!) (t_Cursor_at_number_0 (k := k + 2))
  have a1 : ∀ s, pIntC [.str (S w)] s = some (.int (NumText.digitsVal w : Nat), s) := fun s => pInt_S hd hne (by omega)
  rw [← gc_step h rfl]
  apply gc_eq
  unfold m_Cursor_number
  simp -implicitDefEqProofs [-pIntC_str, m1, m2, hp, hq', a1]
theorem finish_ok (h : CuS c t ws a s) (hw : ws[a]? = none) : callP pg (k + 2) "Cursor.finish" [.loc c] s = .ok .non s := by
  rw [show k + 2 = (k + 1) + 1 from rfl, c_Cursor_finish]
  have hp := peek_ok (k := k) h
  have e : tok ws a = [] := by unfold tok; rw [hw]; rfl
  rw [e] at hp
  have m1 := h.mt (m := "peek") (n := 0) (by kernel_rfl!) (t_Cursor_peek_0 (k := k + 1))
  have e1 : gc s (Res.ok .non s) = .ok .non s := gc_self rfl
  rw [← e1]
  apply gc_eq
  unfold m_Cursor_finish
  simp -implicitDefEqProofs [m1, hp, lit0]
end
end K64

set_option Elab.async false
set_option linter.all false
set_option maxRecDepth 100000
set_option maxHeartbeats 4000000
/-! P64k: values read. -/
namespace K64
open PySem L2 Y SX
/-- F reads the tokens ts as v -/
def Rd (F : List D → Sto → Res D) (ts : List (List Nat)) (v : D) : Prop := ∀ (c t a : Nat) (ws : List (List Nat)) (s : Sto) (rest : List (List Nat)), CuS c t ws a s → ws.drop a = ts ++ rest → F [.loc c] s = .ok v (s.set c (curD t (a + ts.length)))
theorem drop_at {ws : List (List Nat)} {a : Nat} {w : List Nat} {r : List (List Nat)} (h : ws.drop a = w :: r) : ws[a]? = some w ∧ tok ws a = w ∧ ws.drop (a + 1) = r := by
  have e : ws[a]? = some w := by
    have := congrArg (·[0]?) h
    simpa using this
  refine ⟨e, by unfold tok; rw [e]; rfl, ?_⟩
  rw [← List.drop_drop, h]; rfl
theorem drop_end {ws : List (List Nat)} {a : Nat} (h : ws.drop a = []) : ws[a]? = none := List.getElem?_eq_none_iff.mpr (List.drop_eq_nil_iff.mp h)
theorem drop_more {ws ts rest : List (List Nat)} {a : Nat} (h : ws.drop a = ts ++ rest) : ws.drop (a + ts.length) = rest := by rw [← List.drop_drop, h, List.drop_left]
section
variable {k c t a : Nat} {ws : List (List Nat)} {s : Sto}
theorem lit_mi : (Str.ofString "-") = S [45] := by decide +kernel
theorem lit_cm : (Str.ofString ",") = S [44] := by decide +kernel
def sgT (neg : Bool) (w : List Nat) : List (List Nat) := (if neg = true then [[45]] else []) ++ [w]
def sgV (neg : Bool) (w : List Nat) : Int := if neg = true then -(NumText.digitsVal w : Nat) else (NumText.digitsVal w : Nat)
structure Dg (w : List Nat) : Prop where
  d : NumText.AllDigits w
  D : ∀ x ∈ w, x ∈ DIG
  l : w.length ≤ 600
  m : w ≠ [45]
theorem rs_ok {neg : Bool} {w : List Nat} (h : Dg w) : Rd (callP pg (k + 4) "read_signed") (sgT neg w) (.int (sgV neg w)) := by
  intro c t a ws s rest hc hd
  rw [show k + 4 = (k + 3) + 1 from rfl, c_read_signed, ← gc_step hc rfl]
  apply gc_eq
  unfold m_read_signed
  have m1 := hc.mt (m := "skip") (n := 1) (by kernel_rfl!) (t_Cursor_skip_1 (k := k + 3))
  cases neg with
  | true =>
    obtain ⟨e1, e2, e3⟩ := drop_at (w := [45]) (r := w :: rest) hd
    obtain ⟨e4, e5, e6⟩ := drop_at e3
    have hk := skip_ok (k := k + 1) hc e2 (v := [45])
    rw [if_pos rfl, decide_eq_true rfl] at hk
    have hc' := hc.step (a + 1)
    have hn := number_ok (k := k) hc' e4 h.d h.D h.l
    rw [List.set_set] at hn
    have m2 := hc'.mt (m := "number") (n := 0) (by kernel_rfl!) (t_Cursor_number_0 (k := k + 3))
    have hk' : callP pg (k + 3) (Str.ofString "Cursor.skip") [.loc c, .str (Str.ofString "-")] s = .ok (.bl true) (s.set c (curD t (a + 1))) := by rw [lit_mi]; exact hk
    simp -implicitDefEqProofs [m1, hk', m2, hn, sgT, sgV]
  | false =>
    obtain ⟨e4, e5, e6⟩ := drop_at (w := w) (r := rest) hd
    have hk := skip_ok (k := k + 1) hc e5 (v := [45])
    rw [if_neg h.m, decide_eq_false h.m] at hk
    have hn := number_ok (k := k) hc e4 h.d h.D h.l
    have m2 := hc.mt (m := "number") (n := 0) (by kernel_rfl!) (t_Cursor_number_0 (k := k + 3))
    have hk' : callP pg (k + 3) (Str.ofString "Cursor.skip") [.loc c, .str (Str.ofString "-")] s = .ok (.bl false) s := by rw [lit_mi]; exact hk
    simp -implicitDefEqProofs [m1, hk', m2, hn, sgT, sgV]
/-- a cursor and a new list -/
def stL (s : Sto) (c t a : Nat) (vs : List D) : Sto := s.set c (curD t a) ++ [.lst vs]
theorem CuS.stL (h : CuS c t ws a s) (b : Nat) (vs : List D) : CuS c t ws b (stL s c t b vs) := (h.step b).app _
theorem stL_c (hc : c < s.length) {b b' : Nat} {vs : List D} : (stL s c t b vs).set c (curD t b') = stL s c t b' vs := by
  unfold K64.stL
  rw [List.set_append_left _ _ (by rw [List.length_set]; exact hc), List.set_set]
theorem stL_f {b : Nat} {vs us : List D} : (stL s c t b vs).set s.length (.lst us) = stL s c t b us := by
  unfold K64.stL
  rw [List.set_append_right _ _ (by rw [List.length_set]; exact Nat.le_refl _), List.length_set, Nat.sub_self]; rfl
theorem stL_g {b : Nat} {vs : List D} : (stL s c t b vs)[s.length]? = some (.lst vs) := by
  unfold K64.stL
  rw [List.getElem?_append_right (by rw [List.length_set]; exact Nat.le_refl _), List.length_set, Nat.sub_self]; rfl
theorem set_self {s : Sto} {c : Nat} {o : O} (h : s[c]? = some o) : s.set c o = s := by
  apply List.ext_getElem?
  intro i
  rw [List.getElem?_set]
  split
  · rename_i e; subst e
    rw [if_pos (List.getElem?_eq_some_iff.mp h).1, h]
  · rfl
theorem stL_0 (h : CuS c t ws a s) {vs : List D} : s ++ [.lst vs] = stL s c t a vs := by
  unfold K64.stL
  rw [set_self h.cu]
/-- the loop of a list in brackets -/
def mLp (K : Nat) (cl : Str) (R : EM D) : SM :=
  (sWhile (tNt (tOfT (eMethI (pg.ctx K).mth "skip" 1 (eVar 0) (aCons (eC (.str cl)) aNil)))) (sCons (sIf (tOfT (eVar 1)) (sCons (sExpr (eMethI (pg.ctx K).mth "expect" 1 (eVar 0) (aCons (eC (.str ",")) aNil)))
  sNil) sNil)
  (sCons (sExpr (eMeth "append" (eVar 1) (aCons R aNil)))
  sNil)))
abbrev Item := List (List Nat) × D
def seps : Bool → List Item → List (List Nat)
  | _, [] => []
  | true, it :: r => it.1 ++ seps false r
  | false, it :: r => [44] :: (it.1 ++ seps false r)
theorem lp_ok {F : List D → Sto → Res D} {cl : List Nat} {items : List Item} {rest : List (List Nat)} (hR : ∀ it ∈ items, Rd F it.1 it.2 ∧ ∃ h tl, it.1 = h :: tl ∧ h ≠ cl) (hcl : [44] ≠ cl) (h5 : items.length ≤ 40) (hc : CuS c t ws a s) (hd : ws.drop a = seps true items ++ cl :: rest) {P : Post}
    (hP : P.nx [some (.loc c), some (.loc s.length)] (stL s c t (a + (seps true items).length + 1) (items.map (·.2)))) :
    (mLp (k + 3) (S cl) (eCall 1 F (aCons (eVar 0) aNil)) [some (.loc c), some (.loc s.length)] (s ++ [.lst []])).to P := by
  have hclt := hc.lt
  unfold mLp
  refine sWhile_to (fun E s' => ∃ (done todo : List Item) (n : Nat), items = done ++ todo ∧ E = [some (.loc c), some (.loc s.length)] ∧ s' = stL s c t (a + n) (done.map (·.2)) ∧ ws.drop (a + n) = seps done.isEmpty todo ++ cl :: rest ∧ n + (seps done.isEmpty todo).length = (seps true items).length)
    (fun _ s' => match s'[s.length]? with | some (O.lst xs) => items.length - xs.length | _ => 0) ⟨[], items, 0, rfl, rfl, stL_0 hc, hd, by simp⟩ ?_ ?_
  · simp
    exact Nat.lt_of_le_of_lt h5 (by decide)
  · rintro E s' ⟨done, todo, n, ei, hE, hs, hx, hn⟩
    rw [hs, hE]
    have hc' := hc.stL (a + n) (done.map (·.2))
    have m1 := hc'.mt (m := "skip") (n := 1) (by kernel_rfl!) (t_Cursor_skip_1 (k := k + 3))
    cases todo with
    | nil =>
      simp [seps] at hx hn
      obtain ⟨e1, e2, e3⟩ := drop_at hx
      have hk := skip_ok (k := k + 1) hc' e2 (v := cl)
      rw [if_pos rfl, decide_eq_true rfl, stL_c hclt] at hk
      simp -implicitDefEqProofs [m1, hk]
      rw [List.append_nil] at ei
      subst ei
      rw [hn]
      exact hP
    | cons it todo =>
      obtain ⟨hRd, hd0, tl, e0, hne⟩ := hR it (by rw [ei]; simp)
      cases done with
      | nil =>
        have hx' : ws.drop (a + n) = it.1 ++ (seps false todo ++ cl :: rest) := by rw [hx]; simp [seps]
        obtain ⟨e1, e2, e3⟩ := drop_at (by rw [hx', e0]; rfl)
        have hk := skip_ok (k := k + 1) hc' e2 (v := cl)
        rw [if_neg hne, decide_eq_false hne] at hk
        have hF := hRd c t (a + n) ws _ _ hc' hx'
        rw [stL_c hclt] at hF
        have hg : (stL s c t (a + n + it.1.length) [])[s.length]? = some (.lst []) := stL_g
        have hg0 : (stL s c t (a + n) [])[s.length]? = some (.lst []) := stL_g
        have hz : 0 < sizeLine := by decide +kernel
        simp -implicitDefEqProofs only [List.map_nil] at m1 hk hF ⊢
        simp -implicitDefEqProofs [m1, hk, hF, truD, hg0, meth_append hg0, mAppend_ap hg, hz, stL_f, stL_g]
        refine ⟨⟨[it], todo, ei, n + it.1.length, ?_, ?_, ?_⟩, ?_⟩
        · simp; rw [show a + (n + it.1.length) = a + n + it.1.length by omega]
        · rw [show a + (n + it.1.length) = a + n + it.1.length by omega]; exact drop_more hx'
        · simp [seps] at hn ⊢; omega
        · rw [ei]; simp
      | cons d0 done =>
        have hx' : ws.drop (a + n) = [44] :: (it.1 ++ (seps false todo ++ cl :: rest)) := by rw [hx]; simp [seps]
        obtain ⟨e1, e2, e3⟩ := drop_at hx'
        have hk := skip_ok (k := k + 1) hc' e2 (v := cl)
        rw [if_neg hcl, decide_eq_false hcl] at hk
        have hex := expect_ok (k := k) hc' e2
        rw [stL_c hclt] at hex
        have hc2 := hc.stL (a + n + 1) ((d0 :: done).map (·.2))
        have m2 := hc'.mt (m := "expect") (n := 1) (by kernel_rfl!) (t_Cursor_expect_1 (k := k + 3))
        have hF := hRd c t (a + n + 1) ws _ _ hc2 e3
        rw [stL_c hclt] at hF
        have hg : (stL s c t (a + n + 1 + it.1.length) ((d0 :: done).map (·.2)))[s.length]? = some (.lst ((d0 :: done).map (·.2))) := stL_g
        have hg0 : (stL s c t (a + n) ((d0 :: done).map (·.2)))[s.length]? = some (.lst ((d0 :: done).map (·.2))) := stL_g
        have hg1 : (stL s c t (a + n + 1) ((d0 :: done).map (·.2)))[s.length]? = some (.lst ((d0 :: done).map (·.2))) := stL_g
        have hz : ((d0 :: done).map (·.2)).length < sizeLine := by
          have := congrArg List.length ei
          rw [List.length_append] at this
          rw [List.length_map, sz]; omega
        have hex' : callP pg (k + 3) (Str.ofString "Cursor.expect") [.loc c, .str (Str.ofString ",")] (stL s c t (a + n) ((d0 :: done).map (·.2))) = .ok .non (stL s c t (a + n + 1) ((d0 :: done).map (·.2))) := by rw [lit_cm]; exact hex
        have hne0 : ((d0 :: done).map (·.2)).isEmpty = false := rfl
        have hd1 : (List.isEmpty (d0 :: done)) = false := rfl
        rw [hd1] at hn
        have hii : ((d0 :: done).map (·.2)).length = (d0 :: done).length := List.length_map _
        have hln := congrArg List.length ei
        rw [List.length_append, List.length_cons] at hln
        generalize hv : ((d0 :: done).map (·.2)) = vs at *
        simp -implicitDefEqProofs [m1, hk, m2, hex', truD, hg0, hne0, meth_append hg1, hF, mAppend_ap hg, hz, stL_f, stL_g]
        refine ⟨⟨(d0 :: done) ++ [it], todo, by rw [ei]; simp, n + 1 + it.1.length, ?_, ?_, ?_⟩, ?_⟩
        · rw [List.map_append, hv, show a + (n + 1 + it.1.length) = a + n + 1 + it.1.length by omega]; rfl
        · rw [show a + (n + 1 + it.1.length) = a + n + 1 + it.1.length by omega]; exact drop_more e3
        · simp [seps] at hn ⊢; omega
        · have : (it :: todo).length = todo.length + 1 := rfl
          simp at hii hln
          omega
end
end K64

set_option Elab.async false
set_option linter.all false
set_option maxRecDepth 100000
set_option maxHeartbeats 4000000
/-! P64l: rows and tests read. -/
namespace K64
open PySem L2 Y SX
section
variable {k c t a : Nat} {ws : List (List Nat)} {s : Sto}
theorem D.cl_ints {n : Nat} : ∀ {items : List Item}, (∀ it ∈ items, ∀ n, D.cl n it.2 = true) → D.clL n (items.map (·.2)) = true
  | [], _ => by simp [D.clL]
  | it :: r, h => by
    rw [List.map_cons]
    simp only [D.clL, h it (List.mem_cons_self ..) n, Bool.true_and]
    exact D.cl_ints fun it hi => h it (List.mem_cons_of_mem _ hi)
theorem gc_stL (h : CuS c t ws a s) {d : D} (hd : D.cl s.length d = true) {b : Nat} {vs : List D} : gc s (.ok d (stL s c t b vs)) = .ok d (s.set c (curD t b)) := gc_set hd (h.cl b)
theorem rv_num {neg : Bool} {w : List Nat} (h : Dg w) (hb : w ≠ [91]) : Rd (callP pg (k + 5) "read_value") (sgT neg w) (.int (sgV neg w)) := by
  intro c t a ws s rest hc hd
  have hF := rs_ok (k := k) (neg := neg) h c t a ws s rest hc hd
  rw [show k + 5 = (k + 4) + 1 from rfl, c_read_value, ← gc_step hc rfl]
  apply gc_eq
  unfold m_read_value
  have m1 := hc.mt (m := "skip") (n := 1) (by kernel_rfl!) (t_Cursor_skip_1 (k := k + 4))
  have htk : ∃ w', tok ws a = w' ∧ w' ≠ [91] := by
    cases neg with
    | true => exact ⟨[45], (drop_at (w := [45]) (r := w :: rest) hd).2.1, by decide⟩
    | false => exact ⟨w, (drop_at (w := w) (r := rest) hd).2.1, hb⟩
  obtain ⟨w', e1, e2⟩ := htk
  have hk := skip_ok (k := k + 2) hc e1 (v := [91])
  rw [if_neg e2, decide_eq_false e2, ← lit_lb] at hk
  simp -implicitDefEqProofs [m1, hk, hF]
theorem rv_arr {items : List Item} (hR : ∀ it ∈ items, (∀ k, Rd (callP pg (k + 4) "read_signed") it.1 it.2) ∧ (∃ h tl, it.1 = h :: tl ∧ h ≠ [93]) ∧ ∀ n, D.cl n it.2 = true) (h5 : items.length ≤ 40) : Rd (callP pg (k + 5) "read_value") ([91] :: (seps true items ++ [[93]])) (.tup (items.map (·.2))) := by
  intro c t a ws s rest hc hd
  have hcl : D.cl s.length (.tup (items.map (·.2))) = true := by
    simp only [D.cl]; exact D.cl_ints fun it hi => (hR it hi).2.2
  rw [show k + 5 = (k + 4) + 1 from rfl, c_read_value, ← gc_stL hc hcl (vs := items.map (·.2))]
  apply gc_eq
  unfold m_read_value
  have m1 := hc.mt (m := "skip") (n := 1) (by kernel_rfl!) (t_Cursor_skip_1 (k := k + 4))
  have hd' : ws.drop a = [91] :: (seps true items ++ [93] :: rest) := by rw [hd]; simp
  obtain ⟨e1, e2, e3⟩ := drop_at hd'
  have hk := skip_ok (k := k + 2) hc e2 (v := [91])
  rw [if_pos rfl, decide_eq_true rfl, ← lit_lb] at hk
  have hc' := hc.step (a + 1)
  have hloop := fun (P : Post) hP => lp_ok (k := k + 1) (F := callP pg (k + 4) "read_signed") (cl := [93]) (items := items) (fun it hi => ⟨(hR it hi).1 k, (hR it hi).2.1⟩) (by decide) h5 hc' e3 (P := P) hP
  rw [← lit_rb] at hloop
  have hl : (s.set c (curD t (a + 1))).length = s.length := List.length_set
  rw [hl] at hloop
  unfold mLp at hloop
  simp -implicitDefEqProofs [m1, hk]
  refine hloop _ ?_
  have e5 : stL (s.set c (curD t (a + 1))) c t (a + 1 + (seps true items).length + 1) (items.map (·.2)) = stL s c t (a + 1 + (seps true items).length + 1) (items.map (·.2)) := by unfold stL; rw [List.set_set]
  have hg : (stL s c t (a + 1 + (seps true items).length + 1) (items.map (·.2)))[s.length]? = some (.lst (items.map (·.2))) := stL_g
  have hz : (items.map (·.2)).length ≤ sizeLine := by rw [List.length_map, sz]; omega
  rw [e5]
  simp -implicitDefEqProofs [hg, lTup, hz]
  rw [show a + 1 + (seps true items).length + 1 = a + ((seps true items).length + 1 + 1) by omega]
end
end K64

set_option Elab.async false
set_option linter.all false
set_option maxRecDepth 100000
set_option maxHeartbeats 4000000
/-! P64m: tests read. -/
namespace K64
open PySem L2 Y SX
section
variable {k c t a : Nat} {ws : List (List Nat)} {s : Sto}
theorem ra_ok {items : List Item} (hR : ∀ it ∈ items, (∀ k, Rd (callP pg (k + 5) "read_value") it.1 it.2) ∧ (∃ h tl, it.1 = h :: tl ∧ h ≠ [41]) ∧ ∀ n, D.cl n it.2 = true) (h5 : items.length ≤ 40) : Rd (callP pg (k + 6) "read_arguments") ([40] :: (seps true items ++ [[41]])) (.tup (items.map (·.2))) := by
  intro c t a ws s rest hc hd
  have hcl : D.cl s.length (.tup (items.map (·.2))) = true := by
    simp only [D.cl]; exact D.cl_ints fun it hi => (hR it hi).2.2
  rw [show k + 6 = (k + 5) + 1 from rfl, c_read_arguments, ← gc_stL hc hcl (vs := items.map (·.2))]
  apply gc_eq
  unfold m_read_arguments
  have m1 := hc.mt (m := "expect") (n := 1) (by kernel_rfl!) (t_Cursor_expect_1 (k := k + 5))
  have hd' : ws.drop a = [40] :: (seps true items ++ [41] :: rest) := by rw [hd]; simp
  obtain ⟨e1, e2, e3⟩ := drop_at hd'
  have hk := expect_ok (k := k + 2) hc e2
  rw [← lit_lp] at hk
  have hc' := hc.step (a + 1)
  have hloop := fun (P : Post) hP => lp_ok (k := k + 2) (F := callP pg (k + 5) "read_value") (cl := [41]) (items := items) (fun it hi => ⟨(hR it hi).1 k, (hR it hi).2.1⟩) (by decide) h5 hc' e3 (P := P) hP
  rw [← lit_rp] at hloop
  have hl : (s.set c (curD t (a + 1))).length = s.length := List.length_set
  rw [hl] at hloop
  unfold mLp at hloop
  simp -implicitDefEqProofs [m1, hk]
  refine hloop _ ?_
  have e5 : stL (s.set c (curD t (a + 1))) c t (a + 1 + (seps true items).length + 1) (items.map (·.2)) = stL s c t (a + 1 + (seps true items).length + 1) (items.map (·.2)) := by unfold stL; rw [List.set_set]
  have hg : (stL s c t (a + 1 + (seps true items).length + 1) (items.map (·.2)))[s.length]? = some (.lst (items.map (·.2))) := stL_g
  have hz : (items.map (·.2)).length ≤ sizeLine := by rw [List.length_map, sz]; omega
  rw [e5]
  simp -implicitDefEqProofs [hg, lTup, hz]
  rw [show a + 1 + (seps true items).length + 1 = a + ((seps true items).length + 1 + 1) by omega]
/-- a row of one -/
theorem row_ok {ts rest : List (List Nat)} {v : D} (hR : Rd (callP pg (k + 5) "read_value") ts v) (hv : ∀ n, D.cl n v = true) (hc : CuS c t ws a s) (hd : ws.drop a = ts ++ rest) (hn : tok ws (a + ts.length) ≠ [44]) : callP pg (k + 6) "read_row" [.loc c] s = .ok (.tup [v]) (s.set c (curD t (a + ts.length))) := by
  have hcl : D.cl s.length (.tup [v]) = true := by simp [D.cl, D.clL, hv]
  have hF := hR c t a ws s rest hc hd
  rw [show k + 6 = (k + 5) + 1 from rfl, c_read_row, ← gc_stL hc hcl (vs := [v])]
  apply gc_eq
  unfold m_read_row
  have hc' := hc.stL (a + ts.length) [v]
  have m1 := hc'.mt (m := "skip") (n := 1) (by kernel_rfl!) (t_Cursor_skip_1 (k := k + 5))
  have hk := skip_ok (k := k + 3) hc' rfl (v := [44])
  rw [if_neg hn, decide_eq_false hn, ← lit_cm] at hk
  have e5 : List.set s c (curD t (a + ts.length)) ++ [O.lst [v]] = stL s c t (a + ts.length) [v] := rfl
  have hg : (stL s c t (a + ts.length) [v])[s.length]? = some (.lst [v]) := stL_g
  have hz : 1 ≤ sizeLine := by decide +kernel
  simp -implicitDefEqProofs [hF, mkLst, hz]
  rw [e5]
  refine sWhile_to (fun E s' => E = [some (.loc c), some (.loc s.length)] ∧ s' = stL s c t (a + ts.length) [v]) (fun _ _ => 0) ⟨rfl, rfl⟩ (by decide) ?_
  rintro E s' ⟨hE, hs⟩
  rw [hE, hs]
  simp -implicitDefEqProofs [m1, hk, hg, lTup, hz]
theorem lit_test' : (Str.ofString "test") = S [116, 101, 115, 116] := by decide +kernel
theorem lit_gv : (Str.ofString "gives") = S [103, 105, 118, 101, 115] := by decide +kernel
theorem lit_lv : (Str.ofString "leaves") = S [108, 101, 97, 118, 101, 115] := by decide +kernel
/-- a test with one result and one array -/
theorem rt_ok {nm : List Nat} {ch : Nat} {ta tr tb : List (List Nat)} {va vr vb : D} (hc : CuS c t ws 0 s) (hd : ws = [116, 101, 115, 116] :: nm :: (ta ++ [103, 105, 118, 101, 115] :: (tr ++ [108, 101, 97, 118, 101, 115] :: tb)))
    (hn1 : nm[0]? = some ch) (hn2 : ch ∈ LET) (hn3 : nm ∉ RES) (ra : Rd (callP pg (k + 6) "read_arguments") ta va) (rr : Rd (callP pg (k + 5) "read_value") tr vr) (rb : Rd (callP pg (k + 5) "read_value") tb vb)
    (ca : ∀ n, D.cl n va = true) (cr : ∀ n, D.cl n vr = true) (cb : ∀ n, D.cl n vb = true) : callP pg (k + 7) "read_test" [.loc c] s = .ok (.tup [.str (S nm), va, .tup [vr], .tup [vb]]) (s.set c (curD t ws.length)) := by
  have hcl : D.cl s.length (.tup [.str (S nm), va, .tup [vr], .tup [vb]]) = true := by simp [D.cl, D.clL, ca, cr, cb]
  rw [show k + 7 = (k + 6) + 1 from rfl, c_read_test, ← gc_step hc hcl]
  apply gc_eq
  unfold m_read_test
  have d0 : ws.drop 0 = [116, 101, 115, 116] :: nm :: (ta ++ [103, 105, 118, 101, 115] :: (tr ++ [108, 101, 97, 118, 101, 115] :: tb)) := by rw [List.drop_zero]; exact hd
  obtain ⟨e1, e2, d1⟩ := drop_at d0
  obtain ⟨e3, e4, d2⟩ := drop_at d1
  have d3 := drop_more d2
  obtain ⟨e5, e6, d4⟩ := drop_at d3
  have d5 := drop_more d4
  obtain ⟨e7, e8, d6⟩ := drop_at d5
  have d6' : ws.drop (0 + 1 + 1 + ta.length + 1 + tr.length + 1) = tb ++ [] := by rw [List.append_nil]; exact d6
  have d7 := drop_more d6'
  have hend := drop_end d7
  have m1 := hc.mt (m := "expect") (n := 1) (by kernel_rfl!) (t_Cursor_expect_1 (k := k + 6))
  have h1 := expect_ok (k := k + 3) hc e2
  have hc1 := hc.step (0 + 1)
  have m2 := hc1.mt (m := "name") (n := 0) (by kernel_rfl!) (t_Cursor_name_0 (k := k + 6))
  have h2 := name_ok (k := k + 3) hc1 e3 hn1 hn2 hn3
  have hc2 := hc.step (0 + 1 + 1)
  have h3 := ra c t (0 + 1 + 1) ws _ _ hc2 d2
  have hc3 := hc.step (0 + 1 + 1 + ta.length)
  have m3 := hc3.mt (m := "skip") (n := 1) (by kernel_rfl!) (t_Cursor_skip_1 (k := k + 6))
  have h4 := skip_ok (k := k + 4) hc3 e6 (v := [103, 105, 118, 101, 115])
  have hc4 := hc.step (0 + 1 + 1 + ta.length + 1)
  have h5 := row_ok (k := k) rr cr hc4 d4 (by rw [e8]; decide)
  have hc5 := hc.step (0 + 1 + 1 + ta.length + 1 + tr.length)
  have m4 := hc5.mt (m := "skip") (n := 1) (by kernel_rfl!) (t_Cursor_skip_1 (k := k + 6))
  have h6 := skip_ok (k := k + 4) hc5 e8 (v := [108, 101, 97, 118, 101, 115])
  have hc6 := hc.step (0 + 1 + 1 + ta.length + 1 + tr.length + 1)
  have h7 := row_ok (k := k) rb cb hc6 d6' (by unfold tok; rw [hend]; simp)
  have hc7 := hc.step (0 + 1 + 1 + ta.length + 1 + tr.length + 1 + tb.length)
  have m5 := hc7.mt (m := "finish") (n := 0) (by kernel_rfl!) (t_Cursor_finish_0 (k := k + 6))
  have h8 := finish_ok (k := k + 4) hc7 hend
  rw [List.set_set] at h2 h3 h5 h7
  rw [if_pos rfl, decide_eq_true rfl, List.set_set] at h4 h6
  rw [← lit_test'] at h1
  rw [← lit_gv] at h4
  rw [← lit_lv] at h6
  have hlen : ws.length = 0 + 1 + 1 + ta.length + 1 + tr.length + 1 + tb.length := by rw [hd]; simp; omega
  rw [hlen]
  generalize 0 + 1 + 1 + ta.length + 1 + tr.length + 1 + tb.length = p7 at *
  generalize 0 + 1 + 1 + ta.length + 1 + tr.length + 1 = p6 at *
  generalize 0 + 1 + 1 + ta.length + 1 + tr.length = p5 at *
  generalize 0 + 1 + 1 + ta.length + 1 = p4 at *
  generalize 0 + 1 + 1 + ta.length = p3 at *
  generalize 0 + 1 + 1 = p2 at *
  generalize 0 + 1 = p1 at *
  have hz : 4 ≤ sizeLine := by decide +kernel
  simp -implicitDefEqProofs [m1, h1, m2, h2, h3, mkTup, m3, h4, h5, m4, h6, h7, m5, h8, hz]
end
theorem plain_ok {k : Nat} {s : Sto} {nm va : D} {n : Int} {vs : List D} : callP pg (k + 1) "is_plain" [.tup [nm, va, .tup [.int n], .tup [.tup vs]]] s = .ok (.bl true) s := by
  rw [c_is_plain]
  refine gc_pure rfl ?_
  unfold m_is_plain
  have e1 : ∀ s, pIsi [.int n, .ty "tuple"] s = some (.bl false, s) := fun s => isi_of rfl (by decide +kernel)
  have e2 : ∀ s, pIsi [.tup vs, .ty "tuple"] s = some (.bl true, s) := fun s => isi_of rfl (by decide +kernel)
  have hz : 1 ≤ sizeLine := by decide +kernel
  have c1 : ∀ (x : D) (b : Bool) (E0 : Ev) (_ : 1 < E0.length) (_ : ∀ s, pIsi [x, .ty "tuple"] s = some (.bl b, s)), compS (gNm 1) tYesM (eA pIsi (aCons (eVar 1) (aCons (eC (.ty "tuple")) aNil))) E0 (.fix [x]) s = .ok [.bl b] s := fun x b E0 hE h => by
    rw [compFix_map (f := fun _ => some (.bl b)) (by simpa using hz)]
    · rfl
    · intro d hd
      rw [List.mem_singleton.mp hd]
      unfold turnC
      simp [gNm, hE, h, noX, tYesM]
  have q1 := fun E0 h => c1 (.int n) false E0 h e1
  have q2 := fun E0 h => c1 (.tup vs) true E0 h e2
  have b1 : blsD [.bl false] = some [false] := rfl
  have b2 : blsD [.bl true] = some [true] := rfl
  simp -implicitDefEqProofs [wipeE, q1, q2, lAny, lAll, b1, b2, Res.ofL, truD]
theorem init_ok {k c t : Nat} {s : Sto} (hc : s[c]? = some (.ins "Cursor" [])) : callP pg (k + 1) "Cursor.__init__" [.loc c, .loc t] s = gc s (.ok .non (s.set c (curD t 0))) := by
  rw [c_Cursor___init__]
  apply gc_eq
  unfold m_Cursor___init__
  have hlt : c < s.length := (List.getElem?_eq_some_iff.mp hc).1
  have h1 : setFD pg.fld "tokens" (.loc c) (.loc t) s = some (s.set c (.ins "Cursor" [("tokens", .loc t)])) := by
    rw [setFD_ins hc (by kernel_rfl!) (by decide)]; rfl
  have g : (s.set c (.ins "Cursor" [("tokens", .loc t)]))[c]? = some (.ins "Cursor" [("tokens", .loc t)]) := List.getElem?_set_self hlt
  have h2 : setFD pg.fld "at" (.loc c) (.int 0) (s.set c (.ins "Cursor" [("tokens", .loc t)])) = some (s.set c (curD t 0)) := by
    rw [setFD_ins g (by kernel_rfl!) (show 1 < 1000 by decide), List.set_set]
    have : putD "at" (.int 0) [(("tokens" : Str), D.loc t)] = [(("tokens" : Str), D.loc t), (("at" : Str), D.int 0)] := by kernel_rfl!
    rw [this]; rfl
  simp -implicitDefEqProofs [st_fld, h1, h2]
end K64

set_option Elab.async false
set_option linter.all false
set_option maxRecDepth 100000
set_option maxHeartbeats 4000000
/-! P64n: read_tests of one line. -/
namespace K64
open PySem L2 Y SX
theorem spl10 : ∀ (l acc : List Nat), 10 ∉ l → TL.spl [10] 0 acc (l ++ [10]) = [acc ++ l, []]
  | [], acc, _ => by simp [TL.spl, TL.pre]
  | c :: l, acc, h => by
    have hc : c ≠ 10 := fun e => h (by simp [e])
    have hl : 10 ∉ l := fun e => h (by simp [e])
    rw [List.cons_append, TL.spl]
    have : TL.pre [10] (c :: (l ++ [10])) = false := by simp [TL.pre]; exact hc
    rw [this]
    simp only [Bool.false_eq_true, if_false]
    rw [spl10 l (acc ++ [c]) hl]
    simp
theorem split_line {l : List Nat} (h : 10 ∉ l) : Txt.split (S (l ++ [10])) (S [10]) = [S l, S []] := by
  rw [split_S (by decide) (by decide), spl10 l [] h]
  rfl
def mTurn (k : Nat) : SM := (sCons (sTryQ (sCons (sSet 4 (eMake "Cursor" 1 [] (callP pg (k - 1) "Cursor.__init__") (aCons (eCall 1 (callP pg k "tokens_of") (aCons (eVar 3) aNil)) aNil)))
  (sCons (sIf (tOfB (eBin (pCmp .NotEq) (eMethI (pg.ctx k).mth "peek" 0 (eVar 4) aNil) (eC (.str "")))) (sCons (sExpr (eMeth "append" (eVar 1) (aCons (eCall 1 (callP pg k "read_test") (aCons (eVar 4) aNil)) aNil)))
  sNil) sNil)
  sNil)))
  (sCons (sIf (tAn (tOfT (eVar 1)) (tNt (tOfT (eCall 1 (callP pg k "is_plain") (aCons (eBin pIx (eVar 1) (eUn pNeg (eC (.int 1)))) aNil))))) (sCons sErr
  sNil) sNil)
  sNil))
theorem m_rts {k : Nat} : m_read_tests k = (sCons (sSet 1 (eA mkLst aNil))
  (sCons (sFor (iEnumF (fSplit (eVar 0) (eC (.str "\n")))) (gTp 2 (gsCons (gNm 2) (gsCons (gNm 3) gsNil))) (mTurn k))
  (sCons (sRet (eL lTup (lOfE (eVar 1))))
  sNil))) := rfl
section
variable {k : Nat} {s : Sto} {x0 : D} {o2 : Option D}
/-- a cursor is made -/
theorem make_ok {s1 : Sto} {ws : List (List Nat)} : callP pg (k + 1) "Cursor.__init__" [.loc (s1 ++ [tkD ws]).length, .loc s1.length] ((s1 ++ [tkD ws]) ++ [.ins "Cursor" []]) = .ok .non ((s1 ++ [tkD ws]) ++ [curD s1.length 0]) := by
  have hg : ((s1 ++ [tkD ws]) ++ [O.ins "Cursor" []])[(s1 ++ [tkD ws]).length]? = some (.ins "Cursor" []) := by simp
  rw [init_ok hg]
  have e : ((s1 ++ [tkD ws]) ++ [O.ins "Cursor" []]).set (s1 ++ [tkD ws]).length (curD s1.length 0) = (s1 ++ [tkD ws]) ++ [curD s1.length 0] := by
    rw [List.set_append_right _ _ (Nat.le_refl _), Nat.sub_self]; rfl
  have h2 := gc_set (s := (s1 ++ [tkD ws]) ++ [O.ins "Cursor" []]) (t := []) (d := .non) (k := (s1 ++ [tkD ws]).length) (o := curD s1.length 0) rfl (by
    simp [curD, O.cl, clA, D.cl])
  rw [List.append_nil] at h2
  rw [h2, e]
theorem cu_made {s1 : Sto} {ws : List (List Nat)} (hw : ws.length ≤ 40) (hl : ∀ w ∈ ws, w ≠ [] ∧ w.length ≤ 1000000) : CuS (s1 ++ [tkD ws]).length s1.length ws 0 ((s1 ++ [tkD ws]) ++ [curD s1.length 0]) where
  cu := by simp
  tk := by simp
  ne := by simp
  hw := hw
  hl := hl
theorem toks_eq {k : Nat} {l : List Nat} {s : Sto} {ws : List (List Nat)} (hl : l.length ≤ 1000000) (h : lexL l = some ws) : callP pg (k + 4) "tokens_of" [.str (S l)] s = .ok (.loc s.length) (s ++ [tkD ws]) := by
  have := toks_ok (k := k) (s := s) hl
  cases e : callP pg (k + 4) (Str.ofString "tokens_of") [.str (S l)] s with
  | ok d s' =>
    rw [e] at this
    obtain ⟨rfl, ws', h2, rfl⟩ := this
    rw [h] at h2; cases h2; rfl
  | exc x s' =>
    rw [e] at this
    obtain ⟨_, h2⟩ := this
    rw [h] at h2; cases h2
  | err => rw [e] at this; exact this.elim
structure OneT (k : Nat) (l : List Nat) (ws : List (List Nat)) (tst : D) : Prop where
  lx : lexL l = some ws
  ll : l.length ≤ 1000000
  nl : 10 ∉ l
  n40 : ws.length ≤ 40
  wl : ∀ w ∈ ws, w ≠ [] ∧ w.length ≤ 1000000
  t0 : tok ws 0 ≠ []
  rd : ∀ (c t : Nat) (s : Sto), CuS c t ws 0 s → callP pg k "read_test" [.loc c] s = .ok tst (s.set c (curD t ws.length))
  pl : ∀ s, callP pg k "is_plain" [tst] s = .ok (.bl true) s
  cl : ∀ n, D.cl n tst = true
theorem enumD_len {xs : List D} : (enumD xs).length = xs.length := by simp [enumD]
/-- one turn, by the stores it goes through -/
theorem turn_run2 {K n t c : Nat} {x l : List Nat} {tst v : D} {vs : List D} {sA sB sC sD sE : Sto} {y2 o4 : Option D} {P : Post}
    (ht : callP pg (K + 1) "tokens_of" [.str (S l)] sA = .ok (.loc t) sB) (hB : sB.length = c) (hm : callP pg K "Cursor.__init__" [.loc c, .loc t] (sB ++ [.ins "Cursor" []]) = .ok .non sC)
    (m1 : mthF (pg.ctx (K + 1)).mth "peek" 0 (.loc c) sC = some ([.int 0], callP pg (K + 1) "Cursor.peek")) (hp : callP pg (K + 1) "Cursor.peek" [.loc c, .int 0] sC = .ok (.str (S x)) sC)
    (h : (x ≠ [] ∧ sC[n]? = some (.lst vs) ∧ vs.length < sizeLine ∧ callP pg (K + 1) "read_test" [.loc c] sC = .ok v sD ∧ sD[n]? = some (.lst vs) ∧ sD.set n (.lst (vs ++ [v])) = sE) ∨ (x = [] ∧ sE = sC))
    (g : sE[n]? = some (.lst [tst])) (hpl : callP pg (K + 1) "is_plain" [tst] sE = .ok (.bl true) sE) (hP : P.nx [some x0, some (.loc n), y2, some (.str (S l)), some (.loc c)] sE) :
    (mTurn (K + 1) [some x0, some (.loc n), y2, some (.str (S l)), o4] sA).to P := by
  unfold mTurn
  have b9 : ∀ s, pNe (.str (S x)) (.str "") s = some (.bl (!decide (x = [])), s) := fun s => by rw [lit0, pNe_S]
  have hat : atI [tst] (-1) = some tst := rfl
  have htr : truD (.loc n) sE = some true := by unfold truD; simp [g]
  rcases h with ⟨hx, g1, hz, hr, g2, hE⟩ | ⟨hx, hE⟩
  · simp -implicitDefEqProofs [-pNe_str, ht, hB, hm, m1, hp, b9, hx, meth_append g1, hr, mAppend_ap g2, hz, hE, htr, g, hat, hpl]
    exact hP
  · subst hE
    subst hx
    have b9' : ∀ s, pNe (.str (S [])) (.str "") s = some (.bl false, s) := fun s => by rw [b9]; simp
    simp -implicitDefEqProofs [-pNe_str, ht, hB, hm, m1, hp, b9', htr, g, hat, hpl]
    exact hP
theorem turn0 {l : List Nat} {ws : List (List Nat)} {tst : D} (h : OneT (k + 8) l ws tst) {o2 o4 : Option D} {P : Post} (hP : ∀ o2 o3 o4 u, P.nx [some x0, some (.loc s.length), o2, o3, o4] (s ++ ([.lst [tst]] ++ u))) :
    (mTurn (k + 8) [some x0, some (.loc s.length), o2, some (.str (S l)), o4] (s ++ [.lst []])).to P := by
  have hlc : ((s ++ [O.lst []]) ++ [tkD ws]).length = s.length + 2 := by simp
  have hlt : (s ++ [O.lst []]).length = s.length + 1 := by simp
  have ht := toks_eq (k := k + 4) (s := s ++ [.lst []]) h.ll h.lx
  have hm := make_ok (k := k + 6) (s1 := s ++ [.lst []]) (ws := ws)
  have hc := cu_made (s1 := s ++ [.lst []]) h.n40 h.wl
  have hr := h.rd _ _ _ hc
  rw [hlc, hlt] at hc hm hr
  rw [hlt] at ht
  have e1 : (((s ++ [O.lst []]) ++ [tkD ws]) ++ [curD (s.length + 1) 0]).set (s.length + 2) (curD (s.length + 1) ws.length) = s ++ ([O.lst []] ++ [tkD ws, curD (s.length + 1) ws.length]) := by
    rw [← hlc, List.set_append_right _ _ (Nat.le_refl _), Nat.sub_self]; simp
  rw [e1] at hr
  exact turn_run2 (K := k + 7) (vs := []) ht hlc hm (hc.mt (by kernel_rfl!) (t_Cursor_peek_0 (k := k + 8))) (peek_ok (k := k + 7) hc)
    (.inl ⟨h.t0, by simp, by decide +kernel, hr, by simp, by simp; rfl⟩) (by simp) (h.pl _) (hP _ _ _ _)
theorem turn1 {l : List Nat} {ws : List (List Nat)} {tst : D} (h : OneT (k + 8) l ws tst) {o2 o4 : Option D} {u : Sto} {P : Post} (hP : ∀ o2 o3 o4 u, P.nx [some x0, some (.loc s.length), o2, o3, o4] (s ++ ([.lst [tst]] ++ u))) :
    (mTurn (k + 8) [some x0, some (.loc s.length), o2, some (.str (S [])), o4] (s ++ ([.lst [tst]] ++ u))).to P := by
  have hsl : (s ++ ([O.lst [tst]] ++ u)).length = s.length + 1 + u.length := by simp; omega
  have ht := toks_eq (k := k + 4) (l := []) (ws := []) (s := s ++ ([.lst [tst]] ++ u)) (by simp) rfl
  have hm := make_ok (k := k + 6) (s1 := s ++ ([.lst [tst]] ++ u)) (ws := [])
  have hc := cu_made (s1 := s ++ ([.lst [tst]] ++ u)) (ws := []) (by simp) (by intro w hw; cases hw)
  have hlc : ((s ++ ([O.lst [tst]] ++ u)) ++ [tkD []]).length = (s ++ ([O.lst [tst]] ++ u)).length + 1 := by rw [List.length_append]; rfl
  rw [hlc] at hc hm
  refine turn_run2 (K := k + 7) (vs := []) (v := .non) (sD := []) ht hlc hm (hc.mt (by kernel_rfl!) (t_Cursor_peek_0 (k := k + 8))) (peek_ok (k := k + 7) hc)
    (.inr ⟨rfl, rfl⟩) (by simp) (h.pl _) ?_
  have := hP o2 (some (.str (S []))) (some (.loc ((s ++ ([O.lst [tst]] ++ u)).length + 1))) (u ++ [tkD [], curD (s ++ ([O.lst [tst]] ++ u)).length 0])
  simpa using this
theorem rts_ok {l : List Nat} {ws : List (List Nat)} {tst : D} (h : OneT (k + 8) l ws tst) : callP pg (k + 9) "read_tests" [.str (S (l ++ [10]))] s = .ok (.tup [tst]) s := by
  rw [show k + 9 = ((k + 7) + 1) + 1 from rfl, c_read_tests]
  refine gc_pure (by simp [D.cl, D.clL, h.cl]) ?_
  rw [m_rts]
  have hz0 : (0 : Nat) ≤ sizeLine := Nat.zero_le _
  have hz1 : (0 : Nat) < sizeLine := by decide +kernel
  have hz2 : (1 : Nat) ≤ sizeLine := by decide +kernel
  have hsp := split_line h.nl
  have hlen : (S (l ++ [10])).length + 2 ≤ sizeLine := by rw [S_len, sz]; simp; have := h.ll; omega
  have hlen2 : l.length + 1 + 2 ≤ sizeLine := by rw [sz]; have := h.ll; omega
  simp -implicitDefEqProofs [mkLst, hz0, fSplit_ap, lit_nl, S_len, hlen2, hsp]
  refine forFix (fun i E s' => (i = 0 → E = [some (.str (S (l ++ [10]))), some (.loc s.length), none, none, none] ∧ s' = s ++ [.lst []]) ∧ (i ≠ 0 → ∃ o2 o3 o4 u, E = [some (.str (S (l ++ [10]))), some (.loc s.length), o2, o3, o4] ∧ s' = s ++ ([.lst [tst]] ++ u)))
    ⟨fun _ => ⟨rfl, rfl⟩, fun e => absurd rfl e⟩ ?_ ?_
  · intro i d E s' hi hI
    rw [enumD_at] at hi
    match i, hi with
    | 0, hi =>
      simp at hi
      subst hi
      obtain ⟨hE, hs⟩ := hI.1 rfl
      rw [hE, hs]
      simp -implicitDefEqProofs
      exact turn0 h fun o2 o3 o4 u => ⟨⟨o2, o3, o4, rfl⟩, u, rfl⟩
    | 1, hi =>
      simp at hi
      subst hi
      obtain ⟨o2, o3, o4, u, hE, hs⟩ := hI.2 (by decide)
      rw [hE, hs]
      simp -implicitDefEqProofs
      exact turn1 h fun o2 o3 o4 u => ⟨⟨o2, o3, o4, rfl⟩, u, rfl⟩
    | n + 2, hi => simp at hi
  · intro E s' hI
    obtain ⟨o2, o3, o4, u, hE, hs⟩ := hI.2 (by rw [enumD_len]; exact Nat.succ_ne_zero _)
    rw [hE, hs]
    simp -implicitDefEqProofs [lTup, hz2]
end
end K64

set_option Elab.async false
set_option linter.all false
set_option maxRecDepth 100000
set_option maxHeartbeats 4000000
/-! P64o: the small test. -/
namespace K64
open PySem L2 Y SX
structure NmOk (nm : List Nat) : Prop where
  lt : ∀ c ∈ nm, c ∈ LET
  l4 : nm.length ≤ 4
  ne : nm ≠ []
  nr : nm ∉ RES
theorem NmOk.head {nm : List Nat} (h : NmOk nm) : ∃ ch r, nm = ch :: r ∧ ch ∈ LET := by
  cases nm with
  | nil => exact absurd rfl h.ne
  | cons ch r => exact ⟨ch, r, rfl, h.lt ch (List.mem_cons_self ..)⟩
def smA : List Vl := [.i 3, .t [4, -5]]
def smR : List Vl := [.i 6]
def smB : List Vl := [.t []]
def smX (nm : List Nat) : List Nat := txt nm smA smR smB
def smD (nm : List Nat) : D := tstD nm smA smR smB
/-- what stands behind the name -/
def smT : List Nat := [40, 51, 44, 32, 91, 52, 44, 32, 45, 53, 93, 41, 32, 103, 105, 118, 101, 115, 32, 54, 32, 108, 101, 97, 118, 101, 115, 32, 91, 93]
theorem smT_eq : [40] ++ joinV smA ++ [41] ++ (givL ++ joinV smR) ++ (leaL ++ joinV smB) = smT := by decide +kernel
theorem smX_eq {nm : List Nat} : smX nm = tstL ++ (nm ++ smT) := by
  have := smT_eq
  unfold smX txt
  rw [← smT_eq]
  simp
def smW : List (List Nat) := [[40], [51], [44], [91], [52], [44], [45], [53], [93], [41], [103, 105, 118, 101, 115], [54], [108, 101, 97, 118, 101, 115], [91], [93]]
theorem lex_smT : lexR smT = some smW := by decide +kernel
theorem lex_nm {nm : List Nat} (h : NmOk nm) : lexR (nm ++ smT) = some (nm :: smW) := by
  obtain ⟨ch, r, e, hc⟩ := h.head
  have h32 : ch ≠ 32 := fun e => by rw [e] at hc; exact absurd hc (by decide)
  have htw : ∀ l : List Nat, (∀ c ∈ l, c ∈ LET) → twl WRD (l ++ smT) = l := by
    intro l
    induction l with
    | nil => intro _; rfl
    | cons c l ih =>
      intro hl
      rw [List.cons_append, twl_cons (by unfold WRD; simp [hl c (List.mem_cons_self ..)]), ih fun c hc => hl c (List.mem_cons_of_mem _ hc)]
  have ht := htw nm h.lt
  have hT : lexT (nm ++ smT) = some nm := by
    have hl := h.l4
    rw [e, List.cons_append] at ht ⊢
    unfold lexT
    simp only
    rw [if_pos hc, ht, if_pos (by rw [← e]; omega)]
  have e2 : nm ++ smT = ch :: (r ++ smT) := by rw [e]; rfl
  rw [e2, lexR_tk h32, ← e2, hT]
  simp only
  rw [List.drop_left, lex_smT]
  rfl
theorem lex_sm {nm : List Nat} (h : NmOk nm) : lexL (smX nm) = some ([116, 101, 115, 116] :: nm :: smW) := by
  have hT : lexT (tstL ++ (nm ++ smT)) = some [116, 101, 115, 116] := rfl
  have : lexR (smX nm) = some ([116, 101, 115, 116] :: nm :: smW) := by
    rw [smX_eq]
    have e2 : tstL ++ (nm ++ smT) = 116 :: ([101, 115, 116, 32] ++ (nm ++ smT)) := rfl
    rw [e2, lexR_tk (by decide), ← e2, hT]
    simp only
    rw [show (tstL ++ (nm ++ smT)).drop ([116, 101, 115, 116] : List Nat).length = 32 :: (nm ++ smT) from rfl, lexR_sp, lex_nm h]
    rfl
  unfold lexL
  rw [this]
  rfl
theorem dg1 {c : Nat} (h : c ∈ DIG) : Dg [c] where
  d := fun x hx => by
    rw [List.mem_singleton.mp hx]
    unfold DIG at h
    simp at h
    omega
  D := fun x hx => by rw [List.mem_singleton.mp hx]; exact h
  l := by simp
  m := fun e => by
    cases e
    exact absurd h (by decide)
theorem cl_int {z : Int} : ∀ n, D.cl n (.int z) = true := fun n => by simp [D.cl]
def smIt : List Item := [(sgT false [52], .int (sgV false [52])), (sgT true [53], .int (sgV true [53]))]
def smArr : List (List Nat) := [91] :: (seps true smIt ++ [[93]])
theorem rd_arr {k : Nat} : Rd (callP pg (k + 5) "read_value") smArr (.tup (smIt.map (·.2))) := rv_arr (by
  intro it hi
  unfold smIt at hi
  simp at hi
  rcases hi with rfl | rfl
  · exact ⟨fun k => rs_ok (dg1 (by decide)), ⟨[52], [], rfl, by decide⟩, cl_int⟩
  · exact ⟨fun k => rs_ok (dg1 (by decide)), ⟨[45], [[53]], rfl, by decide⟩, cl_int⟩) (by decide)
def smArg : List Item := [(sgT false [51], .int (sgV false [51])), (smArr, .tup (smIt.map (·.2)))]
theorem rd_arg {k : Nat} : Rd (callP pg (k + 6) "read_arguments") ([40] :: (seps true smArg ++ [[41]])) (.tup (smArg.map (·.2))) := ra_ok (by
  intro it hi
  unfold smArg at hi
  simp at hi
  rcases hi with rfl | rfl
  · exact ⟨fun k => rv_num (dg1 (by decide)) (by decide), ⟨[51], [], rfl, by decide⟩, cl_int⟩
  · exact ⟨fun k => rd_arr, ⟨[91], _, rfl, by decide⟩, fun n => by simp [smIt, D.cl, D.clL]⟩) (by decide)
theorem rd_six {k : Nat} : Rd (callP pg (k + 5) "read_value") (sgT false [54]) (.int (sgV false [54])) := rv_num (dg1 (by decide)) (by decide)
theorem rd_emp {k : Nat} : Rd (callP pg (k + 5) "read_value") ([91] :: (seps true [] ++ [[93]])) (.tup []) := rv_arr (items := []) (fun it hi => by cases hi) (by decide)
theorem smD_eq {nm : List Nat} : smD nm = .tup [.str (S nm), .tup (smArg.map (·.2)), .tup [.int (sgV false [54])], .tup [.tup []]] := by
  have e1 : sgV false [54] = 6 := by decide +kernel
  have e2 : sgV false [51] = 3 := by decide +kernel
  have e3 : sgV false [52] = 4 := by decide +kernel
  have e4 : sgV true [53] = -5 := by decide +kernel
  unfold smD tstD smArg smIt smA smR smB
  simp [e1, e2, e3, e4, Vl.d]
theorem oneT {k : Nat} {nm : List Nat} (h : NmOk nm) : OneT (k + 8) (smX nm) ([116, 101, 115, 116] :: nm :: smW) (smD nm) where
  lx := lex_sm h
  ll := by rw [smX_eq]; have := h.l4; simp [tstL, smT]; omega
  nl := by
    rw [smX_eq]
    intro hm
    rcases List.mem_append.mp hm with hm | hm
    · exact absurd hm (by decide)
    · rcases List.mem_append.mp hm with hm | hm
      · exact absurd (h.lt _ hm) (by decide)
      · exact absurd hm (by decide)
  n40 := by simp [smW]
  wl := by
    intro w hw
    rcases List.mem_cons.mp hw with rfl | hw
    · exact ⟨by decide, by decide⟩
    · rcases List.mem_cons.mp hw with rfl | hw
      · exact ⟨h.ne, by have := h.l4; omega⟩
      · have : ∀ w ∈ smW, w ≠ [] ∧ w.length ≤ 1000000 := by decide +kernel
        exact this w hw
  t0 := by simp [tok]
  rd := fun c t s hc => by
    obtain ⟨ch, r, e, hcl⟩ := h.head
    rw [smD_eq]
    exact rt_ok (k := k + 1) (ch := ch) hc (ta := [40] :: (seps true smArg ++ [[41]])) (tr := sgT false [54]) (tb := [91] :: (seps true [] ++ [[93]])) rfl (by rw [e]; rfl) hcl h.nr rd_arg rd_six rd_emp
      (fun n => by simp [smArg, smIt, D.cl, D.clL]) cl_int (fun n => by simp [D.cl, D.clL])
  pl := fun s => by rw [smD_eq]; exact plain_ok
  cl := fun n => by rw [smD_eq]; simp [smArg, smIt, D.cl, D.clL]
end K64

set_option Elab.async false
set_option linter.all false
set_option maxRecDepth 100000
set_option maxHeartbeats 4000000
/-! P64p: words. -/
namespace K64
open PySem L2 Y SX
def QXZ : List Nat := [113, 120, 122]
theorem lit_abc : (Str.ofString "abcdefghijklmnopqrstuvwxyz") = S LET := by decide +kernel
theorem lit_qxz : (Str.ofString "qxz") = S QXZ := by decide +kernel
theorem res_ok : ∀ w ∈ RES, w.length ≠ 1 ∧ 113 ∉ w := by decide +kernel
theorem nm_res {nm : List Nat} (h : nm.length = 1 ∨ 113 ∈ nm) : nm ∉ RES := fun hm => by
  obtain ⟨h1, h2⟩ := res_ok nm hm
  rcases h with h | h
  · exact h1 h
  · exact h2 h
theorem qxz_take (r : Nat) : (∀ c ∈ QXZ.take r, c ∈ LET) ∧ (QXZ.take r).length ≤ 3 ∧ (QXZ.take r = [] ∨ 113 ∈ QXZ.take r) := by
  refine ⟨fun c hc => ?_, by rw [List.length_take]; exact Nat.min_le_right _ _, ?_⟩
  · have : ∀ c ∈ QXZ, c ∈ LET := by decide +kernel
    exact this c (List.mem_of_mem_take hc)
  · cases r with
    | zero => exact .inl rfl
    | succ r => exact .inr (by simp [QXZ])
theorem nm_ok {r ch : Nat} (hc : ch ∈ LET) : NmOk (QXZ.take r ++ [ch]) ∧ NmOk ([ch] ++ QXZ.take r) := by
  obtain ⟨h1, h2, h3⟩ := qxz_take r
  refine ⟨⟨fun c h => ?_, by rw [List.length_append, List.length_singleton]; omega, by simp, nm_res ?_⟩, ⟨fun c h => ?_, by rw [List.length_append, List.length_singleton]; omega, by simp, nm_res ?_⟩⟩
  · rcases List.mem_append.mp h with h | h
    · exact h1 c h
    · rw [List.mem_singleton.mp h]; exact hc
  · rcases h3 with h3 | h3
    · rw [h3]; exact .inl rfl
    · exact .inr (List.mem_append_left _ h3)
  · rcases List.mem_append.mp h with h | h
    · rw [List.mem_singleton.mp h]; exact hc
    · exact h1 c h
  · rcases h3 with h3 | h3
    · rw [h3]; exact .inl rfl
    · exact .inr (List.mem_append_right _ h3)
section
variable {ns : List Int} {i j C k : Nat} {s : Sto}
theorem words_ok (h : SV ns i j C s) (hC : C + 100 < 2 ^ 60) : (callP pg (k + 2) "_law_words" [.loc i, .int 1] s).to (fun d s' => ∃ l nm, d = .loc l ∧ s'[l]? = some (.lst [.str (S nm)]) ∧ NmOk nm ∧ SV ns i j (C + 4) s' ∧ Up i s s') NoX := by
  rw [show k + 2 = (k + 1) + 1 from rfl, c__law_words]
  apply gc_to
  unfold m__law_words
  simp -implicitDefEqProofs
  refine hlp.draw_then h (by decide) lg (by omega) fun r0 s1 a1 a2 h1 u1 l1 => ?_
  refine hlp.draw_then h1 (by decide) lg (by omega) fun r1 s2 b1 b2 h2 u2 l2 => ?_
  have hr1 : r1.natAbs.log2 < 9000 := lg (by omega)
  have k2 : Nat.log2 2 = 1 := by decide +kernel
  simp -implicitDefEqProofs [k2]
  refine ⟨by omega, hlp.draw_then h2 (by decide) lg (by omega) fun r2 s3 c1 c2 h3 u3 l3 => ?_⟩
  obtain ⟨n2, rfl⟩ : ∃ n : Nat, r2 = n := ⟨r2.toNat, by omega⟩
  have a3 : ∀ s, pSl (.str "qxz") none (some (n2 : Int)) s = some (.str (S (QXZ.take n2)), s) := fun s => by
    rw [lit_qxz, pSl_S (by decide +kernel), cutS_to]
  simp -implicitDefEqProofs [a3]
  refine hlp.draw_then h3 (by decide) lg (by omega) fun r3 s4 d1 d2 h4 u4 l4 => ?_
  have hup : Up i s s4 := ((u1.trans u2).trans u3).trans u4
  have hlen : s4.length = s.length := by omega
  have hlt : r0.toNat < LET.length := by
    have : LET.length = 26 := rfl
    omega
  obtain ⟨ch, hch⟩ : ∃ ch, LET[r0.toNat]? = some ch := ⟨_, List.getElem?_eq_getElem hlt⟩
  have hcl := List.mem_of_getElem? hch
  obtain ⟨q1, q2⟩ := nm_ok (r := n2) hcl
  have a4 : ∀ s, pIx (.str "abcdefghijklmnopqrstuvwxyz") (.int r0) s = some (.str (S [ch]), s) := fun s => by
    rw [lit_abc, pIx_S (by decide +kernel), show r0 = ((r0.toNat : Nat) : Int) by omega, Y.atI_nat, hch]; rfl
  have hql := (qxz_take n2).2.1
  generalize QXZ.take n2 = sh at *
  have a5 : ∀ s, pAdd (.str (S sh)) (.str (S [ch])) s = some (.str (S (sh ++ [ch])), s) := fun s => pAddB (by simp; omega)
  have a6 : ∀ s, pAdd (.str (S [ch])) (.str (S sh)) s = some (.str (S ([ch] ++ sh)), s) := fun s => pAddB (by simp; omega)
  have hm : r0 % 26 = r0 := Int.emod_eq_of_lt a1 a2
  have k0 : Nat.log2 0 = 0 := by decide +kernel
  have hlg : (1 + 2 * r1).natAbs.log2 < 9000 := lg (by omega)
  have hlg' : (1 + 2 * r1).natAbs.log2 < 1000000 := by omega
  have hrng : rngD 0 1 = ([0] : List Int).map D.int := rfl
  have c1 : ∀ s, compS (gNm 6) tYesM (eBin pAdd (eVar 5) (eBin pIx (eVar 2) (eBin pMod (eA pIntC (aCons (eBin pAdd (eVar 3) (eBin pMul (eVar 6) (eVar 4))) aNil)) (eC (.int 26))))) [some (.loc i), some (.int 1), some (.str (Str.ofString "abcdefghijklmnopqrstuvwxyz")), some (.int r0), some (.int (1 + 2 * r1)), some (.str (S sh)), none] (.fix (rngD 0 1)) s = .ok [.str (S (sh ++ [ch]))] s := fun s => by
    rw [hrng]
    exact comp_call (tx := fun _ => .str (S (sh ++ [ch]))) (Nat.lt_succ_self 6) (fun d => rfl) (fun y hy => by
      rw [List.mem_singleton.mp hy]
      simp -implicitDefEqProofs [-pAdd_str, k0, hlg', hm, a4, a5]) (by decide +kernel)
  have c2 : ∀ s, compS (gNm 6) tYesM (eBin pAdd (eBin pIx (eVar 2) (eBin pMod (eA pIntC (aCons (eBin pAdd (eVar 3) (eBin pMul (eVar 6) (eVar 4))) aNil)) (eC (.int 26)))) (eVar 5)) [some (.loc i), some (.int 1), some (.str (Str.ofString "abcdefghijklmnopqrstuvwxyz")), some (.int r0), some (.int (1 + 2 * r1)), some (.str (S sh)), none] (.fix (rngD 0 1)) s = .ok [.str (S ([ch] ++ sh))] s := fun s => by
    rw [hrng]
    exact comp_call (tx := fun _ => .str (S ([ch] ++ sh))) (Nat.lt_succ_self 6) (fun d => rfl) (fun y hy => by
      rw [List.mem_singleton.mp hy]
      simp -implicitDefEqProofs [-pAdd_str, k0, hlg', hm, a4, a6]) (by decide +kernel)
  have fin : ∀ nm, NmOk nm → (gc s (.ok (.loc s4.length) (s4 ++ [.lst [.str (S nm)]]))).to (fun d s' => ∃ l, d = .loc l ∧ ∃ x, s'[l]? = some (.lst [.str (S x)]) ∧ NmOk x ∧ SV ns i j (C + 4) s' ∧ Up i s s') NoX := fun nm hnm =>
    gcT (by omega) ⟨_, rfl, nm, by simp, hnm, h4.app, hup.trans Up.app⟩
  by_cases h0 : r3 = 0
  · simp -implicitDefEqProofs [h0, c1]
    exact fin _ q1
  · simp -implicitDefEqProofs [h0, c2]
    exact fin _ q2
end
end K64

set_option Elab.async false
set_option linter.all false
set_option maxRecDepth 100000
set_option maxHeartbeats 4000000
/-! L64a: the law's parts. -/
namespace K64
open PySem L2 Y SX
theorem rep2 (l : List Nat) : repS (S l) 2 = S (l ++ l) := by
  unfold repS
  rw [if_neg (by decide)]
  split
  · rename_i h
    have : l = [] := by simpa [S_len] using h
    subst this; rfl
  · refine TL.ext_tl ?_
    show ((List.replicate (2 : Int).toNat (S l).cps).foldl (· ++ ·) #[]).toList = l ++ l
    simp [List.replicate]
structure LK (K : Nat) : Prop where
  fig : ∀ (n : Int) (s : Sto), okN n → callP pg K "_law_figures_of" [.int n] s = .ok (.str (S (fig n))) s
  st : ∀ (ns : List Int), ns.length ≤ 63 → callP pg K "_law_start" [.ro (ns.map D.int)] [] = .ok (.loc 1) [.lst (ns.map D.int), .lst [.loc 0, .int 0, .int 0, .int 0]]
  dr : ∀ {ns : List Int} {i j C : Nat} {s : Sto} {m : Int} {Q : D → Sto → Prop} {X : Str → Sto → Prop}, SV ns i j C s → 0 < m → m.natAbs.log2 < 9000 → C < 2 ^ 60 → (∀ r s', 0 ≤ r → r < m → SV ns i j (C + 1) s' → Up i s s' → s'.length = s.length → Q (.int r) s') → (callP pg K "_law_draw" [.loc i, .int m] s).to Q X
  ln : ∀ {ns : List Int} {i j C : Nat} {s : Sto} (most : Nat), 0 < most → most ≤ 40 → SV ns i j C s → C + 100 < 2 ^ 60 → (callP pg K "_law_long_number" [.loc i, .int (most : Int)] s).to (fun d s' => ∃ z : Int, d = .int z ∧ z.natAbs < 10 ^ (18 * (most + 1)) ∧ SV ns i j (C + 3 + most) s' ∧ Up i s s') NoX
  wd : ∀ {ns : List Int} {i j C : Nat} {s : Sto}, SV ns i j C s → C + 100 < 2 ^ 60 → (callP pg K "_law_words" [.loc i, .int 1] s).to (fun d s' => ∃ l nm, d = .loc l ∧ s'[l]? = some (.lst [.str (S nm)]) ∧ NmOk nm ∧ SV ns i j (C + 4) s' ∧ Up i s s') NoX
  ws : ∀ (ts : List Ts) (s : Sto), (∀ t ∈ ts, t.ok) → ts.length ≤ 5 → callP pg K "write_tests" [.tup (ts.map Ts.d)] s = .ok (.str (S ((ts.map fun t => t.x ++ [10]).flatten))) s
  sm : ∀ {n : Nat} {d : D} (s : Sto), n ≤ 12 → datB n d = true → callP pg K "_law_same" [d, d] s = .ok (.bl true) s
  rts : ∀ {nm : List Nat} (s : Sto), NmOk nm → callP pg K "read_tests" [.str (S (smX nm ++ [10]))] s = .ok (.tup [smD nm]) s
theorem lk (m : Nat) : LK (m + 20) where
  fig n s h := by rw [show m + 20 = (m + 19) + 1 by omega]; exact figs_ok h
  st ns h := by rw [show m + 20 = (m + 19) + 1 by omega]; exact hlp.start_ok _ (by rw [List.length_map, sz]; omega)
  dr h h1 h2 h3 q := by rw [show m + 20 = (m + 19) + 1 by omega]; exact hlp.draw_then h h1 h2 h3 q
  ln most h0 h1 h h2 := by rw [show m + 20 = (m + 18) + 2 by omega]; exact ln_ok h h0 h1 h2
  wd h h1 := by rw [show m + 20 = (m + 18) + 2 by omega]; exact words_ok h h1
  ws ts s h h5 := by rw [show m + 20 = (m + 15) + 5 by omega]; exact ws_ok h h5
  sm {n} {d} s hn h := by rw [show m + 20 = n + (m + 18 - n) + 2 by omega]; exact hlp.same_ok n _ d s h
  rts {nm} s h := by rw [show m + 20 = (m + 11) + 9 by omega]; exact rts_ok (oneT (k := m + 11) h)
theorem lit_tl : (Str.ofString "(3, [4, -5]) gives 6 leaves []\n") = S (smT ++ [10]) := by decide +kernel
theorem sz_ge : (9000000 : Nat) ≤ sizeLine := by decide +kernel
def smTs (nm : List Nat) : Ts := ⟨nm, smA, smR, smB⟩
theorem smTs_ok {nm : List Nat} (h : NmOk nm) : (smTs nm).ok where
  hn := by have := h.l4; show nm.length ≤ 100; omega
  ha := ⟨show 2 ≤ 5 by decide, fun v hv => by
    simp [smTs, smA] at hv
    rcases hv with rfl | rfl
    · show okN 3; unfold okN; exact Nat.lt_of_lt_of_le (by decide : Int.natAbs 3 < 10) (Nat.le_self_pow (by decide) 10)
    · refine ⟨by decide, fun z hz => ?_⟩
      simp at hz
      rcases hz with rfl | rfl
      · unfold okN; exact Nat.lt_of_lt_of_le (by decide : Int.natAbs 4 < 10) (Nat.le_self_pow (by decide) 10)
      · unfold okN; exact Nat.lt_of_lt_of_le (by decide : Int.natAbs (-5) < 10) (Nat.le_self_pow (by decide) 10)⟩
  hr := ⟨show 1 ≤ 5 by decide, fun v hv => by
    simp [smTs, smR] at hv
    subst hv
    show okN 6; unfold okN; exact Nat.lt_of_lt_of_le (by decide : Int.natAbs 6 < 10) (Nat.le_self_pow (by decide) 10)⟩
  hb := ⟨show 1 ≤ 5 by decide, fun v hv => by
    simp [smTs, smB] at hv
    subst hv
    exact ⟨by decide, fun z hz => by cases hz⟩⟩
  hr0 := by simp [smTs, smR]
  hb0 := by simp [smTs, smB]
theorem sm_dat {nm : List Nat} : datB 10 (smD nm) = true := by
  have hz : (10 : Nat) ≤ sizeLine := by decide +kernel
  simp [smD, tstD, smA, smR, smB, Vl.d, datB]
  omega
end K64

set_option Elab.async false
set_option linter.all false
set_option maxRecDepth 100000
set_option maxHeartbeats 4000000
/-! L64b: the law. -/
namespace K64
open PySem L2 Y SX
def lwC (k : Nat) : SM :=
  (sCons (sSet 9 (eA mkTup (aCons (eVar 5) (aCons (eA mkTup (aCons (eC (.int 3)) (aCons (eA mkTup (aCons (eC (.int 4)) (aCons (eUn pNeg (eC (.int 5))) aNil))) aNil))) (aCons (eA mkTup (aCons (eC (.int 6)) aNil)) (aCons (eA mkTup (aCons (eA mkTup aNil) aNil)) aNil))))))
  (sCons (sSet 10 (eCall 1 (callP pg k "write_tests") (aCons (eA mkTup (aCons (eVar 9) aNil)) aNil)))
  (sCons (sIf (tNt (tOfT (eCall 2 (callP pg k "_law_same") (aCons (eVar 10) (aCons (eBin (pBin .Add) (eBin (pBin .Add) (eC (.str "test ")) (eVar 5)) (eC (.str "(3, [4, -5]) gives 6 leaves []\n"))) aNil))))) (sCons (sRet (eC (.bl false)))
  sNil) sNil)
  (sCons (sRet (eCall 2 (callP pg k "_law_same") (aCons (eCall 1 (callP pg k "read_tests") (aCons (eVar 10) aNil)) (aCons (eA mkTup (aCons (eVar 9) aNil)) aNil))))
  sNil))))
def lwB (k : Nat) : SM :=
  (sCons (sSet 6 (eA mkTup (aCons (eVar 5) (aCons (eA mkTup (aCons (eVar 2) (aCons (eVar 4) aNil))) (aCons (eA mkTup (aCons (eUn pNeg (eVar 2)) aNil)) (aCons (eA mkTup (aCons (eVar 4) aNil)) aNil))))))
  (sCons (sSet 7 (eMeth "join" (eC (.str ", ")) (aCons (eAlloc (fLc (iVal (eVar 4)) (gNm 11) tYesM (eCall 1 (callP pg k "_law_figures_of") (aCons (eVar 11) aNil)) [11])) aNil)))
  (sCons (sSet 8 (eBin (pBin .Add) (eBin (pBin .Add) (eBin (pBin .Add) (eBin (pBin .Add) (eBin (pBin .Add) (eBin (pBin .Add) (eBin (pBin .Add) (eC (.str "test ")) (eVar 5)) (eC (.str "("))) (eCall 1 (callP pg k "_law_figures_of") (aCons (eVar 2) aNil))) (eC (.str ", ["))) (eVar 7)) (eC (.str "]) gives "))) (eCall 1 (callP pg k "_law_figures_of") (aCons (eUn pNeg (eVar 2)) aNil))))
  (sCons (sIf (tNt (tOfT (eCall 2 (callP pg k "_law_same") (aCons (eCall 1 (callP pg k "write_tests") (aCons (eA mkTup (aCons (eVar 6) (aCons (eVar 6) aNil))) aNil)) (aCons (eBin (pBin .Mult) (eBin (pBin .Add) (eBin (pBin .Add) (eBin (pBin .Add) (eVar 8) (eC (.str " leaves ["))) (eVar 7)) (eC (.str "]\n"))) (eC (.int 2))) aNil))))) (sCons (sRet (eC (.bl false)))
  sNil) sNil)
  (lwC k)))))
def lwA (k : Nat) : SM :=
  (sCons (sSet 4 (eSl (eA mkTup (aCons (eCall 2 (callP pg k "_law_long_number") (aCons (eVar 1) (aCons (eC (.int 3)) aNil))) (aCons (eC (.int 0)) (aCons (eVar 2) aNil)))) oNone (oSome (eCall 2 (callP pg k "_law_draw") (aCons (eVar 1) (aCons (eC (.int 4)) aNil))))))
  (sCons (sSet 5 (eBin pIx (eCall 2 (callP pg k "_law_words") (aCons (eVar 1) (aCons (eC (.int 1)) aNil))) (eC (.int 0))))
  (lwB k)))
theorem lw_eq {k : Nat} : m_law k =   (sCons (sSet 1 (eCall 1 (callP pg k "_law_start") (aCons (eVar 0) aNil)))
  (sCons (sSet 2 (eCall 2 (callP pg k "_law_long_number") (aCons (eVar 1) (aCons (eC (.int 40)) aNil))))
  (sCons (sFor (iRng1' (aCons (eBin pIx (eA mkLst (aCons (eC (.int 1)) (aCons (eC (.int 260)) aNil))) (eA pIntC (aCons (eBin (pCmp .Eq) (eCall 2 (callP pg k "_law_draw") (aCons (eVar 1) (aCons (eC (.int 3)) aNil))) (eC (.int 0))) aNil))) aNil)) (gNm 3) (sCons (sSet 2 (eBin (pBin .Add) (eBin (pBin .Mult) (eVar 2) (eBin (pBin .Pow) (eC (.int 10)) (eC (.int 18)))) (eCall 2 (callP pg k "_law_draw") (aCons (eVar 1) (aCons (eBin (pBin .Pow) (eC (.int 10)) (eC (.int 18))) aNil)))))
  sNil))
  (lwA k)))) := rfl
section
variable {K : Nat} (G : LK K) {ns : List Int} {C : Nat} {s : Sto} {a0 o3 o6 o7 o8 o9 o10 o11 : Option D}
include G
theorem lwC_ok {nm : List Nat} (hn : NmOk nm) {o2 o4 : Option D} {P : Post} (hP : ∀ s', P.rt (.bl true) s') : (lwC K [a0, some (.loc 1), o2, o3, o4, some (.str (S nm)), o6, o7, o8, o9, o10, o11] s).to P := by
  unfold lwC
  have hw : ∀ s, callP pg K "write_tests" [.tup [smD nm]] s = .ok (.str (S (smX nm ++ [10]))) s := fun s => by
    have := G.ws [smTs nm] s (fun t ht => by rw [List.mem_singleton.mp ht]; exact smTs_ok hn) (show 1 ≤ 5 by decide)
    have e : ([smTs nm].map fun t => t.x ++ [10]).flatten = smX nm ++ [10] := by
      show (smX nm ++ [10]) ++ [] = _
      simp
    rw [e] at this
    exact this
  have hr := fun s => G.rts (nm := nm) s hn
  have hz : (4 : Nat) ≤ sizeLine := by decide +kernel
  have hz2 : (2 : Nat) ≤ sizeLine := by decide +kernel
  have hz1 : (1 : Nat) ≤ sizeLine := by decide +kernel
  have hz0 : (0 : Nat) ≤ sizeLine := Nat.zero_le _
  have ed : D.tup [.str (S nm), .tup [.int 3, .tup [.int 4, .int (-5)]], .tup [.int 6], .tup [.tup []]] = smD nm := by simp [smD, tstD, smA, smR, smB, Vl.d]
  have hl := hn.l4
  have a1 : ∀ s, pAdd (.str "test ") (.str (S nm)) s = some (.str (S (tstL ++ nm)), s) := fun s => by rw [lit_test]; exact pAddB (by simp; omega)
  have a2 : ∀ s, pAdd (.str (S (tstL ++ nm))) (.str "(3, [4, -5]) gives 6 leaves []\n") s = some (.str (S (smX nm ++ [10])), s) := fun s => by
    rw [lit_tl, pAddB (by simp [tstL, smT]; omega), smX_eq]
    simp
  have s1 := fun s => G.sm (n := 0) (d := .str (S (smX nm ++ [10]))) s (by decide) rfl
  have s2 : ∀ s, callP pg K "_law_same" [.tup [smD nm], .tup [smD nm]] s = .ok (.bl true) s := fun s => G.sm (n := 11) s (by omega) (by
    have := sm_dat (nm := nm)
    simp [datB, this]; exact hz1)
  simp -implicitDefEqProofs [-pAdd_str, mkTup, hz, hz2, hz1, hz0, ed, hw, a1, a2, s1, hr, s2]
  exact hP _
theorem lwB_ok {nm : List Nat} (hn : NmOk nm) {z : Int} {zs : List Int} (hz : okN z) (h5 : zs.length ≤ 5) (hzs : ∀ x ∈ zs, okN x) {P : Post} (hP : ∀ s', P.rt (.bl true) s') : (lwB K [a0, some (.loc 1), some (.int z), o3, some (.tup (zs.map D.int)), some (.str (S nm)), o6, o7, o8, o9, o10, o11] s).to P := by
  unfold lwB
  have hl := hn.l4
  have hnz : okN (-z) := by unfold okN at hz ⊢; rw [Int.natAbs_neg]; exact hz
  have hV : (Vl.t zs).ok := ⟨h5, hzs⟩
  have hts : ∀ t ∈ [(⟨nm, [.i z, .t zs], [.i (-z)], [.t zs]⟩ : Ts), ⟨nm, [.i z, .t zs], [.i (-z)], [.t zs]⟩], t.ok := fun t ht => by
    have : t = ⟨nm, [.i z, .t zs], [.i (-z)], [.t zs]⟩ := by simpa using ht
    rw [this]
    exact ⟨by show nm.length ≤ 100; omega, ⟨show 2 ≤ 5 by decide, fun v hv => by
      simp at hv
      rcases hv with rfl | rfl
      · exact hz
      · exact hV⟩, ⟨show 1 ≤ 5 by decide, fun v hv => by
      simp at hv
      subst hv
      exact hnz⟩, ⟨show 1 ≤ 5 by decide, fun v hv => by
      simp at hv
      subst hv
      exact hV⟩, by simp, by simp⟩
  have hw := fun s => G.ws _ s hts (show 2 ≤ 5 by decide)
  have hf := fun n (h : okN n) (s : Sto) => G.fig n s h
  have hvl := Vl.len (v := .t zs) hV
  have hfz := fig_len hz
  have hfn := fig_len hnz
  obtain ⟨vals, ev⟩ : ∃ v, v = TL.joinL [44, 32] (zs.map fig) := ⟨_, rfl⟩
  have hvx : (Vl.t zs).x = 91 :: (vals ++ [93]) := by rw [ev]; rfl
  have hvals : vals.length ≤ 36100 := by rw [hvx] at hvl; simp at hvl; omega
  have hjE : ∀ (E : Ev) (s : Sto), E[4]? = some (some (.tup (zs.map D.int))) → 11 < E.length → (eMeth "join" (eC (.str ", ")) (aCons (eAlloc (fLc (iVal (eVar 4)) (gNm 11) tYesM (eCall 1 (callP pg K "_law_figures_of") (aCons (eVar 11) aNil)) [11])) aNil)) E s = .ok (.str (S vals)) (s ++ [.lst ((zs.map fig).map fun t => D.str (S t))]) := fun E s hi h11 => by
    have hc : compS (gNm 11) tYesM (eCall 1 (callP pg K "_law_figures_of") (aCons (eVar 11) aNil)) (List.set E 11 none) (.fix (zs.map D.int)) s = .ok (zs.map fun x => .str (S (fig x))) s :=
      comp_call (F := fun d => callP pg K "_law_figures_of" [d] s) (by simp; exact h11) (fun d => by simp [h11]) (fun x hx => G.fig x s (hzs x hx)) (by rw [sz]; omega)
    have e3 : (zs.map fun x => D.str (S (fig x))) = (zs.map fig).map fun t => D.str (S t) := by rw [List.map_map]; rfl
    have hb := join_le (ts := zs.map fig) (b := 7201) (fun t ht => by obtain ⟨x, hx, rfl⟩ := List.mem_map.mp ht; exact fig_len (hzs x hx)) (by rw [List.length_map]; exact h5)
    have hm : mJoin (.str (S [44, 32])) [.loc s.length] (s ++ [.lst ((zs.map fig).map fun t => D.str (S t))]) = _ := mJoin_ok (w := [44, 32]) (ts := zs.map fig) (by simp) (by rw [sz, List.length_map]; simp only [List.length_cons, List.length_nil]; omega)
    simp -implicitDefEqProofs [-List.map_map, meth_join, hi, hc, e3, lit_cs, hm]
    rw [ev]
  generalize hJ : (eMeth "join" (eC (.str ", ")) (aCons (eAlloc (fLc (iVal (eVar 4)) (gNm 11) tYesM (eCall 1 (callP pg K "_law_figures_of") (aCons (eVar 11) aNil)) [11])) aNil)) = J at hjE ⊢
  obtain ⟨p1, e1⟩ : ∃ p, p = tstL ++ nm := ⟨_, rfl⟩
  obtain ⟨p2, e2⟩ : ∃ p, p = p1 ++ [40] := ⟨_, rfl⟩
  obtain ⟨p3, e3⟩ : ∃ p, p = p2 ++ fig z := ⟨_, rfl⟩
  obtain ⟨p4, e4⟩ : ∃ p, p = p3 ++ [44, 32, 91] := ⟨_, rfl⟩
  obtain ⟨p5, e5⟩ : ∃ p, p = p4 ++ vals := ⟨_, rfl⟩
  obtain ⟨p6, e6⟩ : ∃ p, p = p5 ++ [93, 41, 32, 103, 105, 118, 101, 115, 32] := ⟨_, rfl⟩
  obtain ⟨p7, e7⟩ : ∃ p, p = p6 ++ fig (-z) := ⟨_, rfl⟩
  obtain ⟨p8, e8⟩ : ∃ p, p = p7 ++ [32, 108, 101, 97, 118, 101, 115, 32, 91] := ⟨_, rfl⟩
  obtain ⟨p9, e9⟩ : ∃ p, p = p8 ++ vals := ⟨_, rfl⟩
  obtain ⟨p10, e10⟩ : ∃ p, p = p9 ++ [93, 10] := ⟨_, rfl⟩
  have l1 : p1.length ≤ 105 := by rw [e1]; simp [tstL]; omega
  have l2 : p2.length ≤ 106 := by rw [e2]; simp; omega
  have l3 : p3.length ≤ 7400 := by rw [e3]; simp; omega
  have l4 : p4.length ≤ 7410 := by rw [e4]; simp; omega
  have l5 : p5.length ≤ 43600 := by rw [e5]; simp; omega
  have l6 : p6.length ≤ 43700 := by rw [e6]; simp; omega
  have l7 : p7.length ≤ 51000 := by rw [e7]; simp; omega
  have l8 : p8.length ≤ 51100 := by rw [e8]; simp; omega
  have l9 : p9.length ≤ 87300 := by rw [e9]; simp; omega
  have l10 : p10.length ≤ 87400 := by rw [e10]; simp; omega
  have a1 : ∀ s, pAdd (.str "test ") (.str (S nm)) s = some (.str (S p1), s) := fun s => by rw [lit_test, e1]; exact pAddB (by simp; omega)
  have a2 : ∀ s, pAdd (.str (S p1)) (.str "(") s = some (.str (S p2), s) := fun s => by rw [lit_lp, e2]; exact pAddB (by simp; omega)
  have a3 : ∀ s, pAdd (.str (S p2)) (.str (S (fig z))) s = some (.str (S p3), s) := fun s => by rw [e3]; exact pAddB (by omega)
  have a4 : ∀ s, pAdd (.str (S p3)) (.str ", [") s = some (.str (S p4), s) := fun s => by rw [show (Str.ofString ", [") = S [44, 32, 91] by decide +kernel, e4]; exact pAddB (by simp; omega)
  have a5 : ∀ s, pAdd (.str (S p4)) (.str (S vals)) s = some (.str (S p5), s) := fun s => by rw [e5]; exact pAddB (by omega)
  have a6 : ∀ s, pAdd (.str (S p5)) (.str "]) gives ") s = some (.str (S p6), s) := fun s => by rw [show (Str.ofString "]) gives ") = S [93, 41, 32, 103, 105, 118, 101, 115, 32] by decide +kernel, e6]; exact pAddB (by simp; omega)
  have a7 : ∀ s, pAdd (.str (S p6)) (.str (S (fig (-z)))) s = some (.str (S p7), s) := fun s => by rw [e7]; exact pAddB (by omega)
  have a8 : ∀ s, pAdd (.str (S p7)) (.str " leaves [") s = some (.str (S p8), s) := fun s => by rw [show (Str.ofString " leaves [") = S [32, 108, 101, 97, 118, 101, 115, 32, 91] by decide +kernel, e8]; exact pAddB (by simp; omega)
  have a9 : ∀ s, pAdd (.str (S p8)) (.str (S vals)) s = some (.str (S p9), s) := fun s => by rw [e9]; exact pAddB (by omega)
  have a10 : ∀ s, pAdd (.str (S p9)) (.str "]\n") s = some (.str (S p10), s) := fun s => by rw [show (Str.ofString "]\n") = S [93, 10] by decide +kernel, e10]; exact pAddB (by simp; omega)
  have a11 : ∀ s, pMul (.str (S p10)) (.int 2) s = some (.str (S (p10 ++ p10)), s) := fun s => by
    unfold pMul
    simp only [rep2, S_len]
    rw [if_pos ⟨by decide +kernel, by rw [sz, show (2 : Int).toNat = 2 from rfl]; omega⟩]
  have ex : (([(⟨nm, [.i z, .t zs], [.i (-z)], [.t zs]⟩ : Ts), ⟨nm, [.i z, .t zs], [.i (-z)], [.t zs]⟩]).map fun t => t.x ++ [10]).flatten = p10 ++ p10 := by
    have e : txt nm [.i z, .t zs] [.i (-z)] [.t zs] ++ [10] = p10 := by
      rw [e10, e9, e8, e7, e6, e5, e4, e3, e2, e1]
      simp [txt, joinV, TL.joinL, hvx, givL, leaL, Vl.x, ← ev]
    simp [Ts.x, e]
  rw [ex] at hw
  have hw' : ∀ s, callP pg K "write_tests" [.tup [tstD nm [.i z, .t zs] [.i (-z)] [.t zs], tstD nm [.i z, .t zs] [.i (-z)] [.t zs]]] s = _ := hw
  have ed : tstD nm [.i z, .t zs] [.i (-z)] [.t zs] = D.tup [.str (S nm), .tup [.int z, .tup (zs.map D.int)], .tup [.int (-z)], .tup [.tup (zs.map D.int)]] := rfl
  rw [ed] at hw'
  have s1 := fun s => G.sm (n := 0) (d := .str (S (p10 ++ p10))) s (by decide) rfl
  have hz4 : (4 : Nat) ≤ sizeLine := by decide +kernel
  have hz2 : (2 : Nat) ≤ sizeLine := by decide +kernel
  have hz1 : (1 : Nat) ≤ sizeLine := by decide +kernel
  have f1 := fun s => G.fig z s hz
  have f2 := fun s => G.fig (-z) s hnz
  simp -implicitDefEqProofs [-pAdd_str, mkTup, hz4, hz2, hz1, hjE, a1, a2, a3, a4, a5, a6, a7, a8, a9, a10, a11, f1, f2, hw', s1]
  exact lwC_ok G hn hP
end
end K64

set_option Elab.async false
set_option linter.all false
set_option maxRecDepth 100000
set_option maxHeartbeats 4000000
/-! L64: the law. -/
namespace K64
open PySem L2 Y SX
theorem okN_pow {z : Int} {e : Nat} (h : z.natAbs < 10 ^ e) (he : e ≤ 7200) : okN z := Nat.lt_of_lt_of_le h (Nat.pow_le_pow_right (by decide) he)
section
variable {K : Nat} (G : LK K) {ns : List Int} {C : Nat} {s : Sto} {a0 o3 o4 o5 o6 o7 o8 o9 o10 o11 : Option D}
include G
theorem lwA_ok {z : Int} (hz : okN z) (h : SV ns 1 0 C s) (hC : C + 1000 < 2 ^ 60) {P : Post} (hx : P.exc = fun _ _ _ => False) (hP : ∀ s', P.rt (.bl true) s') : (lwA K [a0, some (.loc 1), some (.int z), o3, o4, o5, o6, o7, o8, o9, o10, o11] s).to P := by
  unfold lwA
  have hz3 : (3 : Nat) ≤ sizeLine := by decide +kernel
  simp -implicitDefEqProofs [hx]
  refine Res.to_mono (G.ln 3 (by decide) (by decide) h (by omega)) ?_ fun _ _ e => e
  rintro d s1 ⟨z0, rfl, hz0, h1, u1⟩
  simp -implicitDefEqProofs [mkTup, hz3]
  refine G.dr h1 (by decide) (lg (by decide)) (by omega) fun r s2 c1 c2 h2 u2 l2 => ?_
  obtain ⟨n, rfl⟩ : ∃ n : Nat, r = n := ⟨r.toNat, by omega⟩
  obtain ⟨zs, ezs⟩ : ∃ zs, zs = [z0, 0, z].take n := ⟨_, rfl⟩
  have hcut : cutA [D.int z0, D.int 0, D.int z] none (some (n : Int)) = zs.map D.int := by rw [cut_to, ezs, List.map_take]; rfl
  have hzl : zs.length ≤ 5 := by rw [ezs, List.length_take]; exact Nat.le_trans (Nat.min_le_right _ _) (show 3 ≤ 5 by decide)
  have hzk : ∀ x ∈ zs, okN x := fun x hxm => by
    rw [ezs] at hxm
    have hm := List.mem_of_mem_take hxm
    simp at hm
    rcases hm with rfl | rfl | rfl
    · exact okN_pow hz0 (by omega)
    · exact okN_pow (e := 1) (by decide) (by omega)
    · exact hz
  simp -implicitDefEqProofs [hcut]
  refine Res.to_mono (G.wd h2 (by omega)) ?_ fun _ _ e => e
  rintro d s3 ⟨l, nm, rfl, hg, hn, h3, u3⟩
  have hat : atI [D.str (S nm)] 0 = some (.str (S nm)) := rfl
  simp -implicitDefEqProofs [hg, hat]
  exact lwB_ok G hn hz hzl hzk hP
def lwI (ns : List Int) (C : Nat) (a0 : Option D) (t : Nat) (E : Ev) (s : Sto) : Prop := ∃ (z : Int) (o3 : Option D), E = [a0, some (.loc 1), some (.int z), o3, none, none, none, none, none, none, none, none] ∧ z.natAbs < 10 ^ (18 * (41 + t)) ∧ SV ns 1 0 (C + t) s
end
theorem law_eq' {k : Nat} (ns : List Int) (hl : ns.length ≤ 63) : (callP pg (k + 21) "law" [.ro (ns.map D.int)] []).to (fun d _ => d = .bl true) NoX := by
  have G := lk k
  rw [show k + 21 = (k + 20) + 1 from rfl]
  generalize k + 20 = K at *
  rw [c_law, lw_eq]
  apply gc_to
  simp -implicitDefEqProofs [G.st ns hl]
  have h0 : SV ns 1 0 0 [.lst (ns.map D.int), .lst [.loc 0, .int 0, .int 0, .int 0]] := ⟨0, 0, 0, by decide, by decide, by decide, by decide, rfl, rfl⟩
  generalize [O.lst (ns.map D.int), .lst [.loc 0, .int 0, .int 0, .int 0]] = s0 at h0 ⊢
  refine Res.to_mono (G.ln 40 (by decide) (by decide) h0 (by decide)) ?_ fun _ _ e => e
  rintro d s1 ⟨z0, rfl, hz0, h1, u1⟩
  have hz2 : (2 : Nat) ≤ sizeLine := by decide +kernel
  simp -implicitDefEqProofs [mkLst, hz2]
  have happ : SV ns 1 0 (0 + 3 + 40) (s1 ++ [.lst [.int 1, .int 260]]) := h1.app
  have hlt := h1.lt
  refine G.dr happ (by decide) (lg (by decide)) (by decide) fun r s2 c1 c2 h2 u2 l2 => ?_
  have hg : s2[s1.length]? = some (.lst [.int 1, .int 260]) := u2.get (by simp) (by omega)
  have key : ∀ N : Nat, N ≤ 260 → (forS (gNm 3) (sCons (sSet 2 (eBin pAdd (eBin pMul (eVar 2) (eBin pPow (eC (.int 10)) (eC (.int 18)))) (eCall 2 (callP pg K "_law_draw") (aCons (eVar 1) (aCons (eBin pPow (eC (.int 10)) (eC (.int 18))) aNil))))) sNil) (.fix (rngD 0 (N : Int)))
      [some (.ro (ns.map D.int)), some (.loc 1), some (.int z0), none, none, none, none, none, none, none, none, none] s2).to
      { nx := fun E s => (lwA K E s).to { nx := fun _ s' => (gc [] (.ok .non s')).to (fun d _ => d = .bl true) NoX, rt := fun d s' => (gc [] (.ok d s')).to (fun d _ => d = .bl true) NoX }, rt := fun d s' => (gc [] (.ok d s')).to (fun d _ => d = .bl true) NoX } := fun N hN => by
    refine forFix (xs := rngD 0 (N : Int)) (lwI ns (0 + 3 + 40 + 1) (some (.ro (ns.map D.int)))) ⟨z0, none, rfl, hz0, h2⟩ ?_ ?_
    · intro t d E S hd hI
      have ht := (List.getElem?_eq_some_iff.mp hd).1
      rw [rng_len] at ht
      obtain ⟨z, o3, hE, hzb, hv⟩ := hI
      rw [hE]
      simp -implicitDefEqProofs [pw18]
      have hlg : z.natAbs.log2 < 90000 := by
        refine Nat.lt_of_le_of_lt (small_log (m := 30000) (Nat.lt_of_lt_of_le hzb ?_)) (by decide)
        refine Nat.le_trans (Nat.pow_le_pow_left (show 10 ≤ 2 ^ 4 by decide) _) ?_
        rw [← Nat.pow_mul]
        exact Nat.pow_le_pow_right (by decide) (by omega)
      have hl18 := lg18
      refine ⟨by omega, G.dr hv (by decide) lgi18 (by
        have : (0 + 3 + 40 + 1 + 300 : Nat) < 2 ^ 60 := by decide +kernel
        omega) fun r' s3 d1 d2 h3 u3 l3 => ?_⟩
      simp -implicitDefEqProofs
      refine ⟨_, some d, rfl, ?_, h3.mono (by omega)⟩
      rw [show 18 * (41 + (t + 1)) = 18 * (41 + t) + 18 by omega, Nat.pow_add, show (10 : Nat) ^ 18 = 1000000000000000000 by decide +kernel]
      generalize 10 ^ (18 * (41 + t)) = B at hzb ⊢
      omega
    · intro E S hI
      rw [rng_len] at hI
      obtain ⟨z, o3, hE, hzb, hv⟩ := hI
      rw [hE]
      exact lwA_ok G (okN_pow hzb (by omega)) hv (by
        have : (0 + 3 + 40 + 1 + 260 + 1000 : Nat) < 2 ^ 60 := by decide +kernel
        omega) rfl fun s' => by
          dsimp only
          exact gc_both rfl fun _ => rfl
  have hat : ∀ b : Bool, ixO (some (.lst [.int 1, .int 260])) (.int (if b = true then 1 else 0)) = some (.int (if b = true then 260 else 1)) := fun b => by cases b <;> rfl
  have f260 : fitI 260 = true := by decide +kernel
  have f1 : fitI 1 = true := by decide +kernel
  have k1 := key 1 (by decide)
  have k260 := key 260 (by decide)
  have hatt : ixO (some (.lst [.int 1, .int 260])) (.int 1) = some (.int 260) := rfl
  have hatf : ixO (some (.lst [.int 1, .int 260])) (.int 0) = some (.int 1) := rfl
  by_cases h0 : r = 0
  · subst h0
    simp -implicitDefEqProofs [pIntC, hg, hatt, rng1, f260, -ixO_lst]
    exact k260
  · simp -implicitDefEqProofs [h0, pIntC, hg, hatf, rng1, f1, -ixO_lst]
    exact k1
def depth : Nat := 40
theorem law_eq : ∀ ns : List Int, ns.length ≤ 63 → (∀ z ∈ ns, Builtin.Int.intBits z ≤ 1048576) → ∃ s, callP pg depth "law" [.ro (ns.map D.int)] [] = .ok (.bl true) s := fun ns h _ => by
  obtain ⟨d, s, e, h⟩ := Res.to_ex (law_eq' (k := 19) ns h)
  exact ⟨s, by rw [← h]; exact e⟩
end K64

open PySem PySem.W PyProof.Rows in
set_option maxRecDepth 100000 in
set_option maxHeartbeats 0 in
theorem PySem.Challenge.cw_testsenough_k64_great_numbers_in_tests_holds : PySem.Challenge.rw_testsenough_k64_great_numbers_in_tests.Holds := by
  w_on; o_law; k_head; (case hw => w_witness2)
  k_fill
  refine Y.walkY (l := PySem.Challenge.rw_testsenough_k64_great_numbers_in_tests) (T := K64.pg) (k := K64.depth) (dl := K64.d_law) ⟨rfl, by decide, by decide⟩ rfl rfl (fun w h Y => PySem.W.kIn_of Y) rfl rfl K64.law_eq ?F
  case F =>
    intro w mg fa h KX G hmg
    refine' K64.all_mk KX G hmg ?a0 ?l0 ?c0 ?k0 ?a1 ?l1 ?c1 ?k1 ?a2 ?l2 ?c2 ?k2 ?a3 ?l3 ?c3 ?k3 ?a4 ?l4 ?c4 ?k4 ?a5 ?l5 ?c5 ?k5 ?a6 ?l6 ?c6 ?k6 ?a7 ?l7 ?c7 ?k7 ?a8 ?l8 ?c8 ?k8 ?a9 ?l9 ?c9 ?k9 ?a10 ?l10 ?c10 ?k10 ?a11 ?l11 ?c11 ?k11 ?a12 ?l12 ?c12 ?k12 ?a13 ?l13 ?c13 ?k13 ?a14 ?l14 ?c14 ?k14 ?a15 ?l15 ?c15 ?k15 ?a16 ?l16 ?c16 ?k16 ?a17 ?l17 ?c17 ?k17 ?a18 ?l18 ?c18 ?k18 ?a19 ?l19 ?c19 ?k19 ?a20 ?l20 ?c20 ?k20 ?a21 ?l21 ?c21 ?k21 ?a22 ?l22 ?c22 ?k22 ?a23 ?l23 ?c23 ?k23 ?aCursor ?pgCursor ?hdCursor ?poCursor ?saCursor ?naCursor0 ?naCursor1 ?atCursor__init__ ?fnCursor__init__ ?kpCursor__init__ ?lCursor__init__ ?cCursor__init__ ?mkCursor ?kcCursor ?atCursorpeek ?fnCursorpeek ?kpCursorpeek ?lCursorpeek ?cCursorpeek ?ltCursorpeek ?atCursortake ?fnCursortake ?kpCursortake ?lCursortake ?cCursortake ?atCursorskip ?fnCursorskip ?kpCursorskip ?lCursorskip ?cCursorskip ?atCursorexpect ?fnCursorexpect ?kpCursorexpect ?lCursorexpect ?cCursorexpect ?atCursorname ?fnCursorname ?kpCursorname ?lCursorname ?cCursorname ?atCursorat_number ?fnCursorat_number ?kpCursorat_number ?lCursorat_number ?cCursorat_number ?atCursornumber ?fnCursornumber ?kpCursornumber ?lCursornumber ?cCursornumber ?atCursorfinish ?fnCursorfinish ?kpCursorfinish ?lCursorfinish ?cCursorfinish ?n0 ?n1 ?n2 ?v2_0 ?n3 ?n4 ?n5 ?n6 ?n7 ?v7_0 ?n8 ?b0 ?b1 ?b2 ?b3 ?b4 ?b5 ?b6 ?b7 ?b8 ?b9 ?b10 ?b11 ?b12 ?y0 ?eb0 ?et0 ?ed0 ?eq0 ?ek0 ?eg0 ?eh0 ?ec0 ?em0 ?en ?ev ?es0
    (case a0 => k_is)
    (case l0 => k_is)
    (case c0 => k_is)
    (case k0 => k_is)
    (case a1 => k_is)
    (case l1 => k_is)
    (case c1 => k_is)
    (case k1 => k_is)
    (case a2 => k_is)
    (case l2 => k_is)
    (case c2 => k_is)
    (case k2 => k_is)
    (case a3 => k_is)
    (case l3 => k_is)
    (case c3 => k_is)
    (case k3 => k_is)
    (case a4 => k_is)
    (case l4 => k_is)
    (case c4 => k_is)
    (case k4 => k_is)
    (case a5 => k_is)
    (case l5 => k_is)
    (case c5 => k_is)
    (case k5 => k_is)
    (case a6 => k_is)
    (case l6 => k_is)
    (case c6 => k_is)
    (case k6 => k_is)
    (case a7 => k_is)
    (case l7 => k_is)
    (case c7 => k_is)
    (case k7 => k_is)
    (case a8 => k_is)
    (case l8 => k_is)
    (case c8 => k_is)
    (case k8 => k_is)
    (case a9 => k_is)
    (case l9 => k_is)
    (case c9 => k_is)
    (case k9 => k_is)
    (case a10 => k_is)
    (case l10 => k_is)
    (case c10 => k_is)
    (case k10 => k_is)
    (case a11 => k_is)
    (case l11 => k_is)
    (case c11 => k_is)
    (case k11 => k_is)
    (case a12 => k_is)
    (case l12 => k_is)
    (case c12 => k_is)
    (case k12 => k_is)
    (case a13 => k_is)
    (case l13 => k_is)
    (case c13 => k_is)
    (case k13 => k_is)
    (case a14 => k_is)
    (case l14 => k_is)
    (case c14 => k_is)
    (case k14 => k_is)
    (case a15 => k_is)
    (case l15 => k_is)
    (case c15 => k_is)
    (case k15 => k_is)
    (case a16 => k_is)
    (case l16 => k_is)
    (case c16 => k_is)
    (case k16 => k_is)
    (case a17 => k_is)
    (case l17 => k_is)
    (case c17 => k_is)
    (case k17 => k_is)
    (case a18 => k_is)
    (case l18 => k_is)
    (case c18 => k_is)
    (case k18 => k_is)
    (case a19 => k_is)
    (case l19 => k_is)
    (case c19 => k_is)
    (case k19 => k_is)
    (case a20 => k_is)
    (case l20 => k_is)
    (case c20 => k_is)
    (case k20 => k_is)
    (case a21 => k_is)
    (case l21 => k_is)
    (case c21 => k_is)
    (case k21 => k_is)
    (case a22 => k_is)
    (case l22 => k_is)
    (case c22 => k_is)
    (case k22 => k_is)
    (case a23 => k_is)
    (case l23 => k_is)
    (case c23 => k_is)
    (case k23 => k_is)
    (case aCursor => k_is)
    (case pgCursor => k_is)
    (case hdCursor => k_is)
    (case poCursor => k_is)
    (case saCursor => k_is)
    (case naCursor0 => k_is)
    (case naCursor1 => k_is)
    (case atCursor__init__ => k_is)
    (case fnCursor__init__ => k_is)
    (case kpCursor__init__ => k_is)
    (case lCursor__init__ => k_is)
    (case cCursor__init__ => k_is)
    (case mkCursor => k_is)
    (case kcCursor => k_is)
    (case atCursorpeek => k_is)
    (case fnCursorpeek => k_is)
    (case kpCursorpeek => k_is)
    (case lCursorpeek => k_is)
    (case cCursorpeek => k_is)
    (case ltCursorpeek => k_is)
    (case atCursortake => k_is)
    (case fnCursortake => k_is)
    (case kpCursortake => k_is)
    (case lCursortake => k_is)
    (case cCursortake => k_is)
    (case atCursorskip => k_is)
    (case fnCursorskip => k_is)
    (case kpCursorskip => k_is)
    (case lCursorskip => k_is)
    (case cCursorskip => k_is)
    (case atCursorexpect => k_is)
    (case fnCursorexpect => k_is)
    (case kpCursorexpect => k_is)
    (case lCursorexpect => k_is)
    (case cCursorexpect => k_is)
    (case atCursorname => k_is)
    (case fnCursorname => k_is)
    (case kpCursorname => k_is)
    (case lCursorname => k_is)
    (case cCursorname => k_is)
    (case atCursorat_number => k_is)
    (case fnCursorat_number => k_is)
    (case kpCursorat_number => k_is)
    (case lCursorat_number => k_is)
    (case cCursorat_number => k_is)
    (case atCursornumber => k_is)
    (case fnCursornumber => k_is)
    (case kpCursornumber => k_is)
    (case lCursornumber => k_is)
    (case cCursornumber => k_is)
    (case atCursorfinish => k_is)
    (case fnCursorfinish => k_is)
    (case kpCursorfinish => k_is)
    (case lCursorfinish => k_is)
    (case cCursorfinish => k_is)
    (case n0 => k_is)
    (case n1 => k_is)
    (case n2 => k_is)
    (case v2_0 => k_is)
    (case n3 => k_is)
    (case n4 => k_is)
    (case n5 => k_is)
    (case n6 => k_is)
    (case n7 => k_is)
    (case v7_0 => k_is)
    (case n8 => k_is)
    (case b0 => k_is)
    (case b1 => k_is)
    (case b2 => k_is)
    (case b3 => k_is)
    (case b4 => k_is)
    (case b5 => k_is)
    (case b6 => k_is)
    (case b7 => k_is)
    (case b8 => k_is)
    (case b9 => k_is)
    (case b10 => k_is)
    (case b11 => k_is)
    (case b12 => k_is)
    (case y0 => k_is)
    (case eb0 => k_is)
    (case et0 => k_is)
    (case ed0 => k_is)
    (case eq0 => k_exc)
    (case ek0 => k_is)
    (case eg0 => k_is)
    (case eh0 => k_is)
    (case ec0 => k_is)
    (case em0 => k_is)
    (case en => k_is)
    (case ev => k_is)
    (case es0 => k_is)
