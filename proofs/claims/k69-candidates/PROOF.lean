import PyProof.Rows.All
import Wide.All
import OpenK.AllK
import Wide.FinOn
import HandS.ForMost
import HandS.ForExc
import HandS.EndBits
import HandS.Flow
import HandS.TupAny
import HandS.Deep
import HandS.Wide
import HandS.IsInst
import HandS.Strs
import HandS.Style
import HandS.SortInts
import HandS.DictComp
import PyProof.AutoSeq1
import HandS.WideMore
import HandS.Zip
import PySem.Challenge.RW_testsenough_k69_candidates
set_option Elab.async false
set_option linter.all false
set_option maxRecDepth 100000
/-! Y1: values as plain data (D), a store of mutable objects (Sto), how they lie in the layer's abstract heap. -/
namespace Y
open PySem L2

inductive D where
  | non | bl (b : Bool) | int (i : Int) | str (x : Str) | tup (xs : List D) | ro (xs : List D) | loc (k : Nat) | gl (x : Str) | ty (n : String)

inductive O where
  | lst (xs : List D)
  | dic (kvs : List (Key × D))
  | ins (c : Str) (fs : List (Str × D))

abbrev Sto := List O
abbrev Ev := List (Option D)

structure Wd where
  K : PySem.W.Frag
  mg : Str → Option Value
abbrev wd (X : Cx) : Wd := ⟨X.K, X.mg⟩

/-- a list that nobody writes -/
def SqR (K : PySem.W.Frag) (H : Hp) (a : Addr) (xs : List V) : Prop :=
  (∃ o, H a = some (.frz o (.lst xs))) ∨
    ∃ (o : Obj) (its : Array Value) (n : Nat), K.lookup a = some o ∧ o.cls = .type "list" ∧ o.dict = none ∧ o.data = .seq its n ∧ its.size ≤ sizeLine ∧ Vals xs its.toList
theorem SqR.sqL {K : PySem.W.Frag} {H : Hp} {a : Addr} {xs : List V} (h : SqR K H a xs) : SqL K H a xs := by
  rcases h with ⟨o, h⟩ | h
  · exact .inl (.inr ⟨o, h⟩)
  · exact .inr h

/-- a tuple: tracked, or of the written part -/
def SqU (K : PySem.W.Frag) (H : Hp) (a : Addr) (xs : List V) : Prop :=
  H a = some (.tup xs) ∨
    ∃ (o : Obj) (its : Array Value) (n : Nat), K.lookup a = some o ∧ o.cls = .type "tuple" ∧ o.data = .seq its n ∧ its.size ≤ sizeLine ∧ Vals xs its.toList
theorem SqU.sqT {K : PySem.W.Frag} {H : Hp} {a : Addr} {xs : List V} (h : SqU K H a xs) : SqT K H a xs := by
  rcases h with h | h
  · exact .inl (.inl h)
  · exact .inr h
theorem SqU.of {K : PySem.W.Frag} {H : Hp} {a : Addr} {xs : List V} (h : H a = some (.tup xs)) : SqU K H a xs := .inl h

mutual
def Rp (w : Wd) (ρ : Nat → Addr) (n : Nat) (H : Hp) : V → D → Prop
  | v, .non => v = .non
  | v, .bl b => v = .bl b
  | v, .int i => v = .int i
  | v, .str x => v = .str x
  | v, .tup xs => ∃ a vs, v = .ref a ∧ SqU w.K H a vs ∧ RpL w ρ n H vs xs
  | v, .ro xs => ∃ a vs, v = .ref a ∧ SqR w.K H a vs ∧ RpL w ρ n H vs xs
  | v, .loc k => k < n ∧ v = .ref (ρ k)
  | v, .gl x => ∃ u, w.mg x = some u ∧ RelV v u
  | v, .ty n => v = .ty n
def RpL (w : Wd) (ρ : Nat → Addr) (n : Nat) (H : Hp) : List V → List D → Prop
  | vs, [] => vs = []
  | vs, d :: ds => ∃ v r, vs = v :: r ∧ Rp w ρ n H v d ∧ RpL w ρ n H r ds
end
def RpA {κ : Type} (w : Wd) (ρ : Nat → Addr) (n : Nat) (H : Hp) : List (κ × V) → List (κ × D) → Prop
  | vs, [] => vs = []
  | vs, (k, d) :: ds => ∃ v r, vs = (k, v) :: r ∧ Rp w ρ n H v d ∧ RpA w ρ n H r ds

def RO (w : Wd) (ρ : Nat → Addr) (n : Nat) (H : Hp) : HO → O → Prop
  | ho, .lst xs => ∃ vs, ho = .lst vs ∧ RpL w ρ n H vs xs
  | ho, .dic kvs => ∃ vs, ho = .dK vs ∧ RpA w ρ n H vs kvs
  | ho, .ins c fs => ∃ C dx vs, w.mg c = some (.ref C) ∧ ho = .ins C dx vs ∧ RpA w ρ n H vs fs

structure RS (w : Wd) (ρ : Nat → Addr) (H : Hp) (s : Sto) : Prop where
  obj : ∀ k o, s[k]? = some o → ∃ ho, H (ρ k) = some ho ∧ RO w ρ s.length H ho o
  inj : ∀ i j, i < s.length → j < s.length → ρ i = ρ j → i = j

structure RE (w : Wd) (ρ : Nat → Addr) (n : Nat) (H : Hp) (σ : St) (E : Ev) : Prop where
  len : σ.length = E.length
  val : ∀ (i : Nat) (d : D), E[i]? = some (some d) → ∃ v, σ[i]? = some (some v) ∧ Rp w ρ n H v d

def Fz : HO → Prop
  | .tup _ => True
  | .frz _ _ => True
  | _ => False

/-- a later heap -/
structure Lat (ρ : Nat → Addr) (n : Nat) (H : Hp) (ρ' : Nat → Addr) (n' : Nat) (H' : Hp) : Prop where
  le : n ≤ n'
  agree : ∀ k, k < n → ρ' k = ρ k
  keep : ∀ a o, H a = some o → (∀ k, k < n → ρ k ≠ a) → H' a = some o
  froz : ∀ a o, H a = some o → Fz o → H' a = some o
  dom : ∀ a, H' a = none → H a = none
  new : ∀ k, n ≤ k → k < n' → H (ρ' k) = none

theorem Lat.refl {ρ : Nat → Addr} {n : Nat} {H : Hp} : Lat ρ n H ρ n H :=
  ⟨Nat.le_refl _, fun _ _ => rfl, fun _ _ h _ => h, fun _ _ h _ => h, fun _ h => h, fun k h1 h2 => absurd (Nat.lt_of_lt_of_le h2 h1) (Nat.lt_irrefl _)⟩
theorem Lat.trans {ρ ρ1 ρ2 : Nat → Addr} {n n1 n2 : Nat} {H H1 H2 : Hp} (a : Lat ρ n H ρ1 n1 H1) (b : Lat ρ1 n1 H1 ρ2 n2 H2) : Lat ρ n H ρ2 n2 H2 where
  le := Nat.le_trans a.le b.le
  agree := fun k h => (b.agree k (Nat.lt_of_lt_of_le h a.le)).trans (a.agree k h)
  keep := fun c o h hk => b.keep c o (a.keep c o h hk) fun k hk1 e => by
    by_cases hn : k < n
    · exact hk k hn ((a.agree k hn).symm.trans e)
    · have z := a.new k (Nat.le_of_not_lt hn) hk1
      rw [e, h] at z
      cases z
  froz := fun c o h f => b.froz c o (a.froz c o h f) f
  dom := fun c h => a.dom c (b.dom c h)
  new := fun k h1 h2 => by
    by_cases hn : k < n1
    · rw [b.agree k hn]
      exact a.new k h1 hn
    · exact a.dom _ (b.new k (Nat.le_of_not_lt hn) h2)

section
variable {w : Wd} {ρ ρ' : Nat → Addr} {n n' : Nat} {H H' : Hp}
theorem SqT.lat {K : PySem.W.Frag} {a : Addr} {xs : List V} (L : Lat ρ n H ρ' n' H') (h : SqT K H a xs) : SqT K H' a xs := by
  rcases h with (h | ⟨o, h⟩) | h
  · exact .inl (.inl (L.froz _ _ h trivial))
  · exact .inl (.inr ⟨o, L.froz _ _ h trivial⟩)
  · exact .inr h
theorem SqU.lat {K : PySem.W.Frag} {a : Addr} {xs : List V} (L : Lat ρ n H ρ' n' H') (h : SqU K H a xs) : SqU K H' a xs := by
  rcases h with h | h
  · exact .inl (L.froz _ _ h trivial)
  · exact .inr h
theorem SqR.lat {K : PySem.W.Frag} {a : Addr} {xs : List V} (L : Lat ρ n H ρ' n' H') (h : SqR K H a xs) : SqR K H' a xs := by
  rcases h with ⟨o, h⟩ | h
  · exact .inl ⟨o, L.froz _ _ h trivial⟩
  · exact .inr h
mutual
theorem Rp.lat (L : Lat ρ n H ρ' n' H') : ∀ {v : V} (d : D), Rp w ρ n H v d → Rp w ρ' n' H' v d
  | v, .non, h => by unfold Rp at h ⊢; exact h
  | v, .bl _, h => by unfold Rp at h ⊢; exact h
  | v, .int _, h => by unfold Rp at h ⊢; exact h
  | v, .str _, h => by unfold Rp at h ⊢; exact h
  | v, .tup xs, h => by
    unfold Rp at h ⊢
    obtain ⟨a, vs, e, q, r⟩ := h
    exact ⟨a, vs, e, SqU.lat L q, RpL.lat L xs r⟩
  | v, .ro xs, h => by
    unfold Rp at h ⊢
    obtain ⟨a, vs, e, q, r⟩ := h
    exact ⟨a, vs, e, SqR.lat L q, RpL.lat L xs r⟩
  | v, .loc k, h => by
    unfold Rp at h ⊢
    exact ⟨Nat.lt_of_lt_of_le h.1 L.le, by rw [L.agree k h.1]; exact h.2⟩
  | v, .gl _, h => by unfold Rp at h ⊢; exact h
  | v, .ty _, h => by unfold Rp at h ⊢; exact h
theorem RpL.lat (L : Lat ρ n H ρ' n' H') : ∀ {vs : List V} (ds : List D), RpL w ρ n H vs ds → RpL w ρ' n' H' vs ds
  | vs, [], h => by unfold RpL at h ⊢; exact h
  | vs, d :: ds, h => by
    unfold RpL at h ⊢
    obtain ⟨v, r, e, h1, h2⟩ := h
    exact ⟨v, r, e, Rp.lat L d h1, RpL.lat L ds h2⟩
end
theorem RpA.lat {κ : Type} (L : Lat ρ n H ρ' n' H') : ∀ {vs : List (κ × V)} (ds : List (κ × D)), RpA w ρ n H vs ds → RpA w ρ' n' H' vs ds
  | vs, [], h => by unfold RpA at h ⊢; exact h
  | vs, (k, d) :: ds, h => by
    unfold RpA at h ⊢
    obtain ⟨v, r, e, h1, h2⟩ := h
    exact ⟨v, r, e, Rp.lat L d h1, RpA.lat L ds h2⟩
theorem RO.lat (L : Lat ρ n H ρ' n' H') {ho : HO} {o : O} (h : RO w ρ n H ho o) : RO w ρ' n' H' ho o := by
  cases o with
  | lst xs =>
    obtain ⟨vs, e, r⟩ := h
    exact ⟨vs, e, RpL.lat L _ r⟩
  | dic kvs =>
    obtain ⟨vs, e, r⟩ := h
    exact ⟨vs, e, RpA.lat L _ r⟩
  | ins c fs =>
    obtain ⟨C, dx, vs, m, e, r⟩ := h
    exact ⟨C, dx, vs, m, e, RpA.lat L _ r⟩
theorem RE.lat {σ : St} {E : Ev} (L : Lat ρ n H ρ' n' H') (h : RE w ρ n H σ E) : RE w ρ' n' H' σ E :=
  ⟨h.len, fun i d e => let ⟨v, e1, r⟩ := h.val i d e; ⟨v, e1, Rp.lat L d r⟩⟩
end

section
variable {w : Wd} {ρ ρ' : Nat → Addr} {n n' : Nat} {H : Hp}
mutual
theorem Rp.up (ag : ∀ k, k < n → ρ' k = ρ k) (le : n ≤ n') : ∀ {v : V} (d : D), Rp w ρ n H v d → Rp w ρ' n' H v d
  | v, .non, h => by unfold Rp at h ⊢; exact h
  | v, .bl _, h => by unfold Rp at h ⊢; exact h
  | v, .int _, h => by unfold Rp at h ⊢; exact h
  | v, .str _, h => by unfold Rp at h ⊢; exact h
  | v, .tup xs, h => by
    unfold Rp at h ⊢
    obtain ⟨a, vs, e, q, r⟩ := h
    exact ⟨a, vs, e, q, RpL.up ag le xs r⟩
  | v, .ro xs, h => by
    unfold Rp at h ⊢
    obtain ⟨a, vs, e, q, r⟩ := h
    exact ⟨a, vs, e, q, RpL.up ag le xs r⟩
  | v, .loc k, h => by
    unfold Rp at h ⊢
    exact ⟨Nat.lt_of_lt_of_le h.1 le, by rw [ag k h.1]; exact h.2⟩
  | v, .gl _, h => by unfold Rp at h ⊢; exact h
  | v, .ty _, h => by unfold Rp at h ⊢; exact h
theorem RpL.up (ag : ∀ k, k < n → ρ' k = ρ k) (le : n ≤ n') : ∀ {vs : List V} (ds : List D), RpL w ρ n H vs ds → RpL w ρ' n' H vs ds
  | vs, [], h => by unfold RpL at h ⊢; exact h
  | vs, d :: ds, h => by
    unfold RpL at h ⊢
    obtain ⟨v, r, e, h1, h2⟩ := h
    exact ⟨v, r, e, Rp.up ag le d h1, RpL.up ag le ds h2⟩
end
theorem RpA.up {κ : Type} (ag : ∀ k, k < n → ρ' k = ρ k) (le : n ≤ n') : ∀ {vs : List (κ × V)} (ds : List (κ × D)), RpA w ρ n H vs ds → RpA w ρ' n' H vs ds
  | vs, [], h => by unfold RpA at h ⊢; exact h
  | vs, (k, d) :: ds, h => by
    unfold RpA at h ⊢
    obtain ⟨v, r, e, h1, h2⟩ := h
    exact ⟨v, r, e, Rp.up ag le d h1, RpA.up ag le ds h2⟩
theorem RO.up (ag : ∀ k, k < n → ρ' k = ρ k) (le : n ≤ n') {ho : HO} {o : O} (h : RO w ρ n H ho o) : RO w ρ' n' H ho o := by
  cases o with
  | lst xs =>
    obtain ⟨vs, e, r⟩ := h
    exact ⟨vs, e, RpL.up ag le _ r⟩
  | dic kvs =>
    obtain ⟨vs, e, r⟩ := h
    exact ⟨vs, e, RpA.up ag le _ r⟩
  | ins c fs =>
    obtain ⟨C, dx, vs, m, e, r⟩ := h
    exact ⟨C, dx, vs, m, e, RpA.up ag le _ r⟩
end

theorem RO.nfz {w : Wd} {ρ : Nat → Addr} {n : Nat} {H : Hp} {ho : HO} {o : O} (h : RO w ρ n H ho o) : ¬ Fz ho := by
  cases o with
  | lst xs => obtain ⟨vs, rfl, _⟩ := h; exact id
  | dic kvs => obtain ⟨vs, rfl, _⟩ := h; exact id
  | ins c fs => obtain ⟨C, dx, vs, _, rfl, _⟩ := h; exact id

/-! ### new objects, written objects -/
def ext (ρ : Nat → Addr) (n : Nat) (p : Addr) : Nat → Addr := fun k => if k = n then p else ρ k
theorem ext_lt {ρ : Nat → Addr} {n : Nat} {p : Addr} {k : Nat} (h : k < n) : ext ρ n p k = ρ k := by
  unfold ext; rw [if_neg (Nat.ne_of_lt h)]
theorem ext_eq {ρ : Nat → Addr} {n : Nat} {p : Addr} : ext ρ n p n = p := by unfold ext; rw [if_pos rfl]
section
variable {w : Wd} {ρ : Nat → Addr} {H : Hp} {s : Sto} {p : Addr} {ho : HO} {o : O} {n : Nat}
theorem Lat.fresh (h : H p = none) : Lat ρ n H ρ n (upd H p ho) where
  le := Nat.le_refl _
  agree := fun _ _ => rfl
  keep := fun a u e _ => by rw [upd_ne (ne_of_none e h)]; exact e
  froz := fun a u e _ => by rw [upd_ne (ne_of_none e h)]; exact e
  dom := fun a e => by
    by_cases q : a = p
    · rw [q]; exact h
    · rw [upd_ne q] at e; exact e
  new := fun k h1 h2 => absurd (Nat.lt_of_lt_of_le h2 h1) (Nat.lt_irrefl _)
theorem Lat.alloc (h : H p = none) : Lat ρ n H (ext ρ n p) (n + 1) (upd H p ho) where
  le := Nat.le_succ _
  agree := fun _ h => ext_lt h
  keep := fun a u e _ => by rw [upd_ne (ne_of_none e h)]; exact e
  froz := fun a u e _ => by rw [upd_ne (ne_of_none e h)]; exact e
  dom := fun a e => by
    by_cases q : a = p
    · rw [q]; exact h
    · rw [upd_ne q] at e; exact e
  new := fun k h1 h2 => by
    have e : k = n := by omega
    rw [e, ext_eq]; exact h
theorem RS.ne (r : RS w ρ H s) (h : H p = none) {k : Nat} (hk : k < s.length) : ρ k ≠ p := fun e => by
  obtain ⟨ho, q, _⟩ := r.obj k s[k] (List.getElem?_eq_getElem hk)
  rw [e, h] at q; cases q
theorem RS.fresh (r : RS w ρ H s) (h : H p = none) : RS w ρ (upd H p ho) s :=
  ⟨fun k u e => by
    obtain ⟨hu, q, ro⟩ := r.obj k u e
    exact ⟨hu, by rw [upd_ne (ne_of_none q h)]; exact q, RO.lat (Lat.fresh h) ro⟩, r.inj⟩
theorem RS.alloc (r : RS w ρ H s) (h : H p = none) (ro : RO w ρ s.length H ho o) : RS w (ext ρ s.length p) (upd H p ho) (s ++ [o]) := by
  have hl : (s ++ [o]).length = s.length + 1 := by simp
  refine ⟨fun k u e => ?_, fun i j hi hj e => ?_⟩
  · rw [hl]
    by_cases hk : k < s.length
    · rw [List.getElem?_append_left hk] at e
      obtain ⟨hu, q, ro'⟩ := r.obj k u e
      refine ⟨hu, ?_, RO.lat (Lat.alloc h) ro'⟩
      rw [ext_lt hk, upd_ne (ne_of_none q h)]; exact q
    · have hk2 : k = s.length := by
        have := (List.getElem?_eq_some_iff.mp e).1
        rw [hl] at this; omega
      subst hk2
      rw [List.getElem?_append_right (Nat.le_refl _)] at e
      simp at e
      subst e
      exact ⟨ho, by rw [ext_eq, upd_same], RO.lat (Lat.alloc h) ro⟩
  · rw [hl] at hi hj
    by_cases h1 : i < s.length
    · by_cases h2 : j < s.length
      · rw [ext_lt h1, ext_lt h2] at e; exact r.inj i j h1 h2 e
      · have ej : j = s.length := by omega
        subst ej
        rw [ext_lt h1, ext_eq] at e
        exact absurd e (r.ne h h1)
    · have ei : i = s.length := by omega
      subst ei
      by_cases h2 : j < s.length
      · rw [ext_eq, ext_lt h2] at e
        exact absurd e.symm (r.ne h h2)
      · omega
theorem Lat.set (r : RS w ρ H s) {k : Nat} (hk : k < s.length) (n : Nat) (hn : n = s.length) : Lat ρ n H ρ n (upd H (ρ k) ho) where
  le := Nat.le_refl _
  agree := fun _ _ => rfl
  keep := fun a u e hne => by rw [upd_ne (Ne.symm (hne k (by omega)))]; exact e
  froz := fun a u e f => by
    have : a ≠ ρ k := fun q => by
      obtain ⟨ho', q', ro⟩ := r.obj k s[k] (List.getElem?_eq_getElem hk)
      rw [← q, e] at q'; cases q'
      exact ro.nfz f
    rw [upd_ne this]; exact e
  dom := fun a e => by
    by_cases q : a = ρ k
    · rw [q, upd_same] at e; cases e
    · rw [upd_ne q] at e; exact e
  new := fun k h1 h2 => absurd (Nat.lt_of_lt_of_le h2 h1) (Nat.lt_irrefl _)
theorem RS.set (r : RS w ρ H s) {k : Nat} (hk : k < s.length) (ro : RO w ρ s.length H ho o) : RS w ρ (upd H (ρ k) ho) (s.set k o) := by
  have L : Lat ρ s.length H ρ s.length (upd H (ρ k) ho) := Lat.set r hk _ rfl
  have hl : (s.set k o).length = s.length := List.length_set
  refine ⟨fun j u e => ?_, fun i j hi hj e => r.inj i j (by omega) (by omega) e⟩
  rw [hl]
  by_cases hj : j = k
  · subst hj
    rw [List.getElem?_set_self hk] at e
    cases e
    exact ⟨ho, upd_same, RO.lat L ro⟩
  · rw [List.getElem?_set_ne (Ne.symm hj)] at e
    obtain ⟨hu, q, ro'⟩ := r.obj j u e
    have hjl : j < s.length := (List.getElem?_eq_some_iff.mp e).1
    have : ρ j ≠ ρ k := fun q => hj (r.inj j k hjl hk q)
    exact ⟨hu, by rw [upd_ne this]; exact q, RO.lat L ro'⟩
end

/-! ### results -/
inductive Res (α : Type) where
  | ok (a : α) (s : Sto)
  | exc (x : Str) (s : Sto)
  | err
def Res.bind {α β : Type} (r : Res α) (f : α → Sto → Res β) : Res β := match r with
  | .ok a s => f a s
  | .exc x s => .exc x s
  | .err => .err
def Res.ofO {α : Type} : Option (α × Sto) → Res α
  | some (a, s) => .ok a s
  | none => .err
@[simp] theorem Res.bind_ok {α β : Type} (a : α) (s : Sto) (f : α → Sto → Res β) : (Res.ok a s).bind f = f a s := rfl
@[simp] theorem Res.bind_exc {α β : Type} (x : Str) (s : Sto) (f : α → Sto → Res β) : (Res.exc x s : Res α).bind f = .exc x s := rfl
@[simp] theorem Res.bind_err {α β : Type} (f : α → Sto → Res β) : (Res.err : Res α).bind f = .err := rfl
@[simp] theorem Res.ofO_some {α : Type} (a : α) (s : Sto) : Res.ofO (some (a, s)) = .ok a s := rfl
@[simp] theorem Res.ofO_none {α : Type} : (Res.ofO none : Res α) = .err := rfl

abbrev Rl (α β : Type) := (Nat → Addr) → Nat → Hp → β → α → Prop
def RQ {α β : Type} (w : Wd) (R : Rl α β) (W : XK) (ρ : Nat → Addr) (n : Nat) (H : Hp) (r : Res α) (Q : β → Hp → Prop) : Prop := match r with
  | .ok a s' => ∀ ρ' H' b, Lat ρ n H ρ' s'.length H' → RS w ρ' H' s' → R ρ' s'.length H' b a → Q b H'
  | .exc x s' => ∀ ρ' H' c, Lat ρ n H ρ' s'.length H' → RS w ρ' H' s' → w.mg x = some c → W c none H'
  | .err => False
section
variable {α β γ δ : Type} {w : Wd} {R : Rl α β} {R1 : Rl γ δ} {W W' : XK} {ρ ρ1 : Nat → Addr} {n n1 : Nat} {H H1 : Hp} {r : Res α} {Q Q' : β → Hp → Prop}
theorem RQ.lat (h : RQ w R W ρ n H r Q) (L : Lat ρ n H ρ1 n1 H1) : RQ w R W ρ1 n1 H1 r Q := by
  cases r with
  | ok a s' => exact fun ρ' H' b L' hs hr => h ρ' H' b (L.trans L') hs hr
  | exc x s' => exact fun ρ' H' c L' hs hc => h ρ' H' c (L.trans L') hs hc
  | err => exact h
theorem RQ.mono (h : RQ w R W ρ n H r Q) (hQ : ∀ b H', Q b H' → Q' b H') : RQ w R W ρ n H r Q' := by
  cases r with
  | ok a s' => exact fun ρ' H' b L' hs hr => hQ b H' (h ρ' H' b L' hs hr)
  | exc x s' => exact h
  | err => exact h
theorem RQ.monoX (h : RQ w R W ρ n H r Q) (hW : ∀ c d H', W c d H' → W' c d H') : RQ w R W' ρ n H r Q := by
  cases r with
  | ok a s' => exact h
  | exc x s' => exact fun ρ' H' c L' hs hc => hW _ _ _ (h ρ' H' c L' hs hc)
  | err => exact h
/-- what comes first -/
theorem RQ.bind {r : Res γ} {f : γ → Sto → Res α} (h : RQ w R W ρ n H (r.bind f) Q) :
    RQ w R1 W ρ n H r fun b H1 => ∃ ρ1 s1 a, Lat ρ n H ρ1 s1.length H1 ∧ RS w ρ1 H1 s1 ∧ R1 ρ1 s1.length H1 b a ∧ RQ w R W ρ1 s1.length H1 (f a s1) Q := by
  cases r with
  | ok a s' => exact fun ρ' H' b L' hs hr => ⟨ρ', s', a, L', hs, hr, RQ.lat h L'⟩
  | exc x s' => exact h
  | err => exact h
end
end Y

set_option Elab.async false
set_option linter.all false
set_option maxRecDepth 100000
/-! Y2: judgements over plain data; expressions. -/
namespace Y
open PySem L2

abbrev EM (α : Type) := Ev → Sto → Res α
def tM {α β : Type} (w : Wd) (R : Rl α β) (W : WX) (m : EM α) : St → Hp → (β → Hp → Prop) → Prop :=
  fun σ H Q => ∃ ρ E s, RS w ρ H s ∧ RE w ρ s.length H σ E ∧ RQ w R (WE W σ) ρ s.length H (m E s) Q
def RB : Rl Bool Bool := fun _ _ _ b a => b = a
/-- a list or a tuple that can be read -/
def RLs (w : Wd) : Rl (List D) V := fun ρ n H v ds => ∃ a vs, v = .ref a ∧ (SqL w.K H a vs ∨ SqU w.K H a vs) ∧ RpL w ρ n H vs ds

section
variable {α β γ δ : Type} {w : Wd} {R : Rl α β} {R1 : Rl γ δ} {W : WX} {σ : St} {H : Hp} {Q : β → Hp → Prop}
theorem tM.bind {m : EM γ} {f : γ → EM α} (h : tM w R W (fun E s => (m E s).bind fun a s1 => f a E s1) σ H Q) :
    tM w R1 W m σ H fun b H1 => ∃ ρ1 E s1 a, RS w ρ1 H1 s1 ∧ RE w ρ1 s1.length H1 σ E ∧ R1 ρ1 s1.length H1 b a ∧ RQ w R (WE W σ) ρ1 s1.length H1 (f a E s1) Q := by
  obtain ⟨ρ, E, s, hs, he, h⟩ := h
  refine ⟨ρ, E, s, hs, he, RQ.mono (RQ.bind (R1 := R1) h) ?_⟩
  rintro b H' ⟨ρ1, s1, a, L, hs1, hr, hq⟩
  exact ⟨ρ1, E, s1, a, hs1, he.lat L, hr, hq⟩
end
theorem PE.imp {X : Cx} {e : Expr} {t t' : TE} (h : PE X e t) (hi : ∀ σ H Q, t' σ H Q → t σ H Q) : PE X e t' := ⟨fun pins s σ H Q I q => h.run pins s σ H Q I (hi _ _ _ q)⟩
theorem PT.imp {X : Cx} {e : Expr} {t t' : TT} (h : PT X e t) (hi : ∀ σ H Q, t' σ H Q → t σ H Q) : PT X e t' := ⟨fun pins s σ H Q I q => h.run pins s σ H Q I (hi _ _ _ q)⟩
theorem PW.imp {X : Cx} {e : Expr} {t t' : TT} (h : PW X e t) (hi : ∀ σ H Q, t' σ H Q → t σ H Q) : PW X e t' := ⟨fun wh pins s σ H Q I q => h.run wh pins s σ H Q I (hi _ _ _ q)⟩
theorem PA.imp {X : Cx} {es : List Expr} {t t' : TA} (h : PA X es t) (hi : ∀ σ H Q, t' σ H Q → t σ H Q) : PA X es t' := ⟨fun pos pins s σ H Q I q => h.run pos pins s σ H Q I (hi _ _ _ q)⟩
theorem PS.imp {X : Cx} {st : Stmt} {t t' : TS} (h : PS X st t) (hi : ∀ D σ H, t' D σ H → t D σ H) : PS X st t' := ⟨fun pins s σ H D I q => h.run pins s σ H D I (hi _ _ _ q)⟩
theorem PSs.imp {X : Cx} {st : List Stmt} {t t' : TS} (h : PSs X st t) (hi : ∀ D σ H, t' D σ H → t D σ H) : PSs X st t' := ⟨fun pins s σ H D I q => h.run pins s σ H D I (hi _ _ _ q)⟩

abbrev ME (X : Cx) (W : WX) (e : Expr) (m : EM D) : Prop := PE X e (tM (wd X) (Rp (wd X)) W m)
abbrev ML (X : Cx) (W : WX) (e : Expr) (m : EM (List D)) : Prop := PE X e (tM (wd X) (RLs (wd X)) W m)
abbrev MT (X : Cx) (W : WX) (e : Expr) (m : EM Bool) : Prop := PT X e (tM (wd X) RB W m)
abbrev MW (X : Cx) (W : WX) (e : Expr) (m : EM Bool) : Prop := PW X e (tM (wd X) RB W m)
abbrev MA (X : Cx) (W : WX) (es : List Expr) (m : EM (List D)) : Prop := PA X es (tM (wd X) (RpL (wd X)) W m)

def eErr {α : Type} : EM α := fun _ _ => .err
theorem tM_err {α β : Type} {w : Wd} {R : Rl α β} {W : WX} {σ : St} {H : Hp} {Q : β → Hp → Prop} (h : tM w R W eErr σ H Q) : False := by
  obtain ⟨_, _, _, _, _, h⟩ := h; exact h
section
variable {X : Cx} {W : WX}
theorem me_err {e : Expr} : ME X W e eErr := ⟨fun _ _ _ _ _ _ h => (tM_err h).elim⟩
theorem ml_err {e : Expr} : ML X W e eErr := ⟨fun _ _ _ _ _ _ h => (tM_err h).elim⟩
theorem mt_err {e : Expr} : MT X W e eErr := ⟨fun _ _ _ _ _ _ h => (tM_err h).elim⟩
theorem mw_err {e : Expr} : MW X W e eErr := ⟨fun _ _ _ _ _ _ _ h => (tM_err h).elim⟩
theorem ma_err {es : List Expr} : MA X W es eErr := ⟨fun _ _ _ _ _ _ _ h => (tM_err h).elim⟩

/-! ### names, constants -/
def eVar (i : Nat) : EM D := fun E s => match E[i]? with
  | some (some d) => .ok d s
  | _ => .err
theorem me_var {i : Nat} {x : Str} {pos : Pos} (hN : X.N[i]? = some x) (hv : Vis X.env.scope x) (hd : (x == ("__debug__" : Str)) = false) (hcd : (x == ("__classdict__" : Str)) = false) : ME X W (.Name x pos) (eVar i) := by
  refine PE.imp (pe_var hN hv hd hcd) ?_
  rintro σ H Q ⟨ρ, E, s, hs, he, h⟩
  unfold eVar at h
  split at h
  · rename_i d e
    obtain ⟨v, hv, r⟩ := he.val _ _ e
    exact ⟨v, hv, h ρ H v Lat.refl hs r⟩
  · exact h.elim
def eC (d : D) : EM D := fun _ s => .ok d s
theorem tM_c {w : Wd} {d : D} {v : V} {σ : St} {H : Hp} {Q : VK} (hr : ∀ ρ n H, Rp w ρ n H v d) (h : tM w (Rp w) W (eC d) σ H Q) : Q v H := by
  obtain ⟨ρ, E, s, hs, he, h⟩ := h
  exact h ρ H v Lat.refl hs (hr _ _ _)
theorem me_const {e : Expr} {v : V} {d : D} (h : PE X e (tC v)) (hr : ∀ ρ n H, Rp (wd X) ρ n H v d) : ME X W e (eC d) := PE.imp h fun _ _ _ q => tM_c hr q
theorem me_int {i : Int} {j : Nat} {pos : Pos} : ME X W (.Constant (.int i) j pos) (eC (.int i)) := me_const pe_int fun _ _ _ => by unfold Rp; rfl
theorem me_bl {b : Bool} {j : Nat} {pos : Pos} : ME X W (.Constant (.bool b) j pos) (eC (.bl b)) := me_const pe_bl fun _ _ _ => by unfold Rp; rfl
theorem me_non {j : Nat} {pos : Pos} : ME X W (.Constant .none j pos) (eC .non) := me_const pe_non fun _ _ _ => by unfold Rp; rfl
theorem me_str {x : Str} {j : Nat} {pos : Pos} : ME X W (.Constant (.str x) j pos) (eC (.str x)) := me_const pe_str fun _ _ _ => by unfold Rp; rfl

/-! ### operators by values -/
abbrev P2 := D → D → Sto → Option (D × Sto)
abbrev P1 := D → Sto → Option (D × Sto)
abbrev PL := List D → Sto → Option (D × Sto)
def r2 (w : Wd) (p : P2) : R2 := fun x y H Q => ∃ ρ s dx dy, RS w ρ H s ∧ Rp w ρ s.length H x dx ∧ Rp w ρ s.length H y dy ∧ RQ w (Rp w) E0 ρ s.length H (.ofO (p dx dy s)) Q
def r1 (w : Wd) (p : P1) : V → Hp → VK → Prop := fun x H Q => ∃ ρ s dx, RS w ρ H s ∧ Rp w ρ s.length H x dx ∧ RQ w (Rp w) E0 ρ s.length H (.ofO (p dx s)) Q
def rL (w : Wd) (p : PL) : List V → Hp → VK → Prop := fun xs H Q => ∃ ρ s ds, RS w ρ H s ∧ RpL w ρ s.length H xs ds ∧ RQ w (Rp w) E0 ρ s.length H (.ofO (p ds s)) Q
abbrev OpM (X : Cx) (f : Value → Value → Sem Value) (p : P2) : Prop := OpR X f (r2 (wd X) p)
abbrev UnM (X : Cx) (f : Value → Sem Value) (p : P1) : Prop := UnR X f (r1 (wd X) p)
abbrev CallM (X : Cx) (f : Value) (p : PL) : Prop := CallR X f (rL (wd X) p)
theorem RQ.ofO {α β : Type} {w : Wd} {R : Rl α β} {W W' : XK} {ρ : Nat → Addr} {n : Nat} {H : Hp} {o : Option (α × Sto)} {Q : β → Hp → Prop} (h : RQ w R W ρ n H (.ofO o) Q) : RQ w R W' ρ n H (.ofO o) Q := by
  cases o with
  | none => exact h
  | some p => exact h

def eBin (p : P2) (a b : EM D) : EM D := fun E s => (a E s).bind fun x s1 => (b E s1).bind fun y s2 => .ofO (p x y s2)
theorem tM_bin {w : Wd} {p : P2} {a b : EM D} {σ : St} {H : Hp} {Q : VK} (h : tM w (Rp w) W (eBin p a b) σ H Q) : tOp (r2 w p) (tM w (Rp w) W a) (tM w (Rp w) W b) σ H Q := by
  obtain ⟨ρ, E, s, hs, he, h⟩ := tM.bind (R1 := Rp w) (m := a) (f := fun x E s1 => (b E s1).bind fun y s2 => .ofO (p x y s2)) h
  refine ⟨ρ, E, s, hs, he, RQ.mono h ?_⟩
  rintro x H1 ⟨ρ1, E1, s1, dx, hs1, he1, rx, hq⟩
  refine ⟨ρ1, E1, s1, hs1, he1, RQ.mono (RQ.bind (R1 := Rp w) hq) ?_⟩
  rintro y H2 ⟨ρ2, s2, dy, L, hs2, ry, hq2⟩
  exact ⟨ρ2, s2, dx, dy, hs2, Rp.lat L _ rx, ry, RQ.ofO hq2⟩
theorem me_bin {op : Operator} {p : P2} {a b : Expr} {ma mb : EM D} {pos : Pos} (ho : OpM X (binaryOp op) p) (ha : ME X W a ma) (hb : ME X W b mb) : ME X W (.BinOp a op b pos) (eBin p ma mb) :=
  PE.imp (pe_op ho ha hb) fun _ _ _ h => tM_bin h
theorem me_cmp {op : CmpOp} {p : P2} {a b : Expr} {ma mb : EM D} {pos : Pos} (ho : OpM X (compareOp op) p) (ha : ME X W a ma) (hb : ME X W b mb) (hm : behindInMarks op b = false) : ME X W (.Compare a [op] [b] pos) (eBin p ma mb) :=
  PE.imp (pe_cmpR ho ha hb hm) fun _ _ _ h => tM_bin h
def eUn (p : P1) (a : EM D) : EM D := fun E s => (a E s).bind fun x s1 => .ofO (p x s1)
theorem me_un {op : UnaryOp} {p : P1} {a : Expr} {ma : EM D} {pos : Pos} (ho : UnM X (unaryOp op) p) (ha : ME X W a ma) : ME X W (.UnaryOp op a pos) (eUn p ma) := by
  refine PE.imp (pe_un ho ha) ?_
  intro σ H Q h
  obtain ⟨ρ, E, s, hs, he, h⟩ := tM.bind (R1 := Rp (wd X)) (m := ma) (f := fun x E s1 => .ofO (p x s1)) h
  refine ⟨ρ, E, s, hs, he, RQ.mono h ?_⟩
  rintro x H1 ⟨ρ1, E1, s1, dx, hs1, he1, rx, hq⟩
  exact ⟨ρ1, s1, dx, hs1, rx, RQ.ofO hq⟩

/-! ### tests -/
/-- a bool-valued expression as a test -/
def tOfB (m : EM D) : EM Bool := fun E s => (m E s).bind fun d s1 => match d with
  | .bl b => .ok b s1
  | _ => .err
theorem tTest_of {w : Wd} {m : EM D} {σ : St} {H : Hp} {Q : Bool → Hp → Prop} (h : tM w RB W (tOfB m) σ H Q) : tTest (tM w (Rp w) W m) σ H Q := by
  obtain ⟨ρ, E, s, hs, he, h⟩ := tM.bind (R1 := Rp w) (m := m) (f := fun d E s1 => match d with | .bl b => .ok b s1 | _ => .err) h
  refine ⟨ρ, E, s, hs, he, RQ.mono h ?_⟩
  rintro x H1 ⟨ρ1, E1, s1, dx, hs1, he1, rx, hq⟩
  cases dx with
  | bl b =>
    unfold Rp at rx
    exact ⟨b, rx, hq ρ1 H1 b Lat.refl hs1 rfl⟩
  | _ => exact hq.elim
theorem mt_cmp {op : CmpOp} {p : P2} {a b : Expr} {ma mb : EM D} {pos : Pos} (ho : OpM X (compareOp op) p) (ha : ME X W a ma) (hb : ME X W b mb) (hm : behindInMarks op b = false) : MT X W (.Compare a [op] [b] pos) (tOfB (eBin p ma mb)) := by
  refine PT.imp (pt_cmpR ho ha hb hm) fun σ H Q h => ?_
  obtain ⟨ρ, E, s, hs, he, h⟩ := tTest_of h
  exact tM_bin ⟨ρ, E, s, hs, he, h⟩

/-- truth -/
def truD (d : D) (s : Sto) : Option Bool := match d with
  | .non => some false
  | .bl b => some b
  | .int i => some (i != 0)
  | .str x => if x.length ≤ sizeLine then some (x.length != 0) else none
  | .tup xs => some (!xs.isEmpty)
  | .ro xs => some (!xs.isEmpty)
  | .loc k => match s[k]? with
    | some (.lst xs) => some (!xs.isEmpty)
    | some (.dic kvs) => some (!kvs.isEmpty)
    | _ => none
  | _ => none
theorem RpL.empty {w : Wd} {ρ : Nat → Addr} {n : Nat} {H : Hp} : ∀ {vs : List V} {ds : List D}, RpL w ρ n H vs ds → vs.isEmpty = ds.isEmpty
  | vs, [], h => by unfold RpL at h; rw [h]; rfl
  | vs, d :: ds, h => by
    unfold RpL at h
    obtain ⟨v, r, rfl, _⟩ := h
    rfl
theorem RpA.empty {κ : Type} {w : Wd} {ρ : Nat → Addr} {n : Nat} {H : Hp} : ∀ {vs : List (κ × V)} {ds : List (κ × D)}, RpA w ρ n H vs ds → vs.isEmpty = ds.isEmpty
  | vs, [], h => by unfold RpA at h; rw [h]; rfl
  | vs, (k, d) :: ds, h => by
    unfold RpA at h
    obtain ⟨v, r, rfl, _⟩ := h
    rfl
theorem RS.get {w : Wd} {ρ : Nat → Addr} {H : Hp} {s : Sto} (hs : RS w ρ H s) {k : Nat} {o : O} (e : s[k]? = some o) : ∃ ho, H (ρ k) = some ho ∧ RO w ρ s.length H ho o := hs.obj k o e
theorem truD_ok {w : Wd} {ρ : Nat → Addr} {H : Hp} {s : Sto} {v : V} {d : D} {b : Bool} (hs : RS w ρ H s) (hr : Rp w ρ s.length H v d) (h : truD d s = some b) : TruV w.K v H b := by
  cases d with
  | non => unfold Rp at hr; subst hr; simp only [truD] at h; cases h; rfl
  | bl c => unfold Rp at hr; subst hr; simp only [truD] at h; cases h; rfl
  | int i => unfold Rp at hr; subst hr; simp only [truD] at h; cases h; rfl
  | str x =>
    unfold Rp at hr; subst hr; simp only [truD] at h
    split at h
    · rename_i hl
      cases h
      refine ⟨hl, ?_⟩
      by_cases q : x.length = 0
      · rw [q]; rfl
      · have e1 : (x.length != 0) = true := by simpa using q
        have e2 : ((x.length : Int) != 0) = true := by simp; omega
        rw [e1, e2]
    · cases h
  | tup xs =>
    unfold Rp at hr
    obtain ⟨a, vs, rfl, hq, hl⟩ := hr
    simp only [truD] at h; cases h
    exact .inr (.inl ⟨vs, hq.sqT, by rw [RpL.empty hl]⟩)
  | ro xs =>
    unfold Rp at hr
    obtain ⟨a, vs, rfl, hq, hl⟩ := hr
    simp only [truD] at h; cases h
    exact .inl ⟨vs, hq.sqL, by rw [RpL.empty hl]⟩
  | loc k =>
    unfold Rp at hr
    obtain ⟨_, rfl⟩ := hr
    simp only [truD] at h
    split at h
    · rename_i xs e
      cases h
      obtain ⟨ho, e1, vs, rfl, hl⟩ := hs.get e
      exact .inl ⟨vs, SqL.of e1, by rw [RpL.empty hl]⟩
    · rename_i kvs e
      cases h
      obtain ⟨ho, e1, vs, rfl, hl⟩ := hs.get e
      exact .inr (.inr ⟨vs, e1, by rw [RpA.empty hl]⟩)
    · cases h
  | gl x => simp only [truD] at h; cases h
  | ty n => simp only [truD] at h; cases h
def tOfT (m : EM D) : EM Bool := fun E s => (m E s).bind fun d s1 => match truD d s1 with
  | some b => .ok b s1
  | none => .err
theorem tru_of {w : Wd} {m : EM D} {σ : St} {H : Hp} {Q : Bool → Hp → Prop} (h : tM w RB W (tOfT m) σ H Q) : tM w (Rp w) W m σ H fun x H' => ∃ k, TruV w.K x H' k ∧ Q k H' := by
  obtain ⟨ρ, E, s, hs, he, h⟩ := tM.bind (R1 := Rp w) (m := m) (f := fun d E s1 => match truD d s1 with | some b => .ok b s1 | none => .err) h
  refine ⟨ρ, E, s, hs, he, RQ.mono h ?_⟩
  rintro x H1 ⟨ρ1, E1, s1, dx, hs1, he1, rx, hq⟩
  split at hq
  · rename_i b e
    exact ⟨b, truD_ok hs1 rx e, hq ρ1 H1 b Lat.refl hs1 rfl⟩
  · exact hq.elim
theorem mt_truth {a : Expr} {ma : EM D} (ha : ME X W a ma) (he : ∀ whole, isTrue a X.env whole = (do let v ← whole; standAt a.pos; holding [v] (truthy v))) : MT X W a (tOfT ma) :=
  PT.imp (pt_truth ha he) fun _ _ _ h => tru_of h
def tNt (a : EM Bool) : EM Bool := fun E s => (a E s).bind fun b s1 => .ok (!b) s1
theorem mt_not {a : Expr} {ma : EM Bool} {pos : Pos} (ha : MT X W a ma) : MT X W (.UnaryOp .Not a pos) (tNt ma) := by
  refine PT.imp (pt_not ha) ?_
  intro σ H Q h
  obtain ⟨ρ, E, s, hs, he, h⟩ := tM.bind (R1 := RB) (m := ma) (f := fun b E s1 => .ok (!b) s1) h
  refine ⟨ρ, E, s, hs, he, RQ.mono h ?_⟩
  rintro b H1 ⟨ρ1, E1, s1, c, hs1, he1, hb, hq⟩
  cases hb
  exact hq ρ1 H1 _ Lat.refl hs1 rfl
def tAn (a b : EM Bool) : EM Bool := fun E s => (a E s).bind fun c s1 => if c = true then b E s1 else .ok false s1
def tOr' (a b : EM Bool) : EM Bool := fun E s => (a E s).bind fun c s1 => if c = true then .ok true s1 else b E s1
theorem mw_and {a b : Expr} {rest : List Expr} {ma mb : EM Bool} {pos : Pos} (ha : MT X W a ma) (hb : MW X W (.BoolOp .And (b :: rest) pos) mb) : MW X W (.BoolOp .And (a :: b :: rest) pos) (tAn ma mb) := by
  refine PW.imp (pw_and ha hb) ?_
  intro σ H Q h
  obtain ⟨ρ, E, s, hs, he, h⟩ := tM.bind (R1 := RB) (m := ma) (f := fun c E s1 => if c = true then mb E s1 else .ok false s1) h
  refine ⟨ρ, E, s, hs, he, RQ.mono h ?_⟩
  rintro c H1 ⟨ρ1, E1, s1, c', hs1, he1, hb, hq⟩
  cases hb
  cases c with
  | true => exact ⟨ρ1, E1, s1, hs1, he1, hq⟩
  | false => exact hq ρ1 H1 _ Lat.refl hs1 rfl
theorem mw_or {a b : Expr} {rest : List Expr} {ma mb : EM Bool} {pos : Pos} (ha : MT X W a ma) (hb : MW X W (.BoolOp .Or (b :: rest) pos) mb) : MW X W (.BoolOp .Or (a :: b :: rest) pos) (tOr' ma mb) := by
  refine PW.imp (pw_or ha hb) ?_
  intro σ H Q h
  obtain ⟨ρ, E, s, hs, he, h⟩ := tM.bind (R1 := RB) (m := ma) (f := fun c E s1 => if c = true then .ok true s1 else mb E s1) h
  refine ⟨ρ, E, s, hs, he, RQ.mono h ?_⟩
  rintro c H1 ⟨ρ1, E1, s1, c', hs1, he1, hb, hq⟩
  cases hb
  cases c with
  | true => exact hq ρ1 H1 _ Lat.refl hs1 rfl
  | false => exact ⟨ρ1, E1, s1, hs1, he1, hq⟩
theorem mw_and1 {a : Expr} {ma : EM Bool} {pos : Pos} (ha : MT X W a ma) : MW X W (.BoolOp .And [a] pos) ma := pw_and1 ha
theorem mw_or1 {a : Expr} {ma : EM Bool} {pos : Pos} (ha : MT X W a ma) : MW X W (.BoolOp .Or [a] pos) ma := pw_or1 ha
/-- as values -/
def eAn (a b : EM D) : EM D := fun E s => (a E s).bind fun d s1 => match truD d s1 with
  | some true => b E s1
  | some false => .ok d s1
  | none => .err
def eOr (a b : EM D) : EM D := fun E s => (a E s).bind fun d s1 => match truD d s1 with
  | some true => .ok d s1
  | some false => b E s1
  | none => .err
def eNt (a : EM D) : EM D := fun E s => (a E s).bind fun d s1 => match truD d s1 with
  | some b => .ok (.bl (!b)) s1
  | none => .err
theorem me_and {a b : Expr} {rest : List Expr} {ma mb : EM D} {pos : Pos} (ha : ME X W a ma) (hb : ME X W (.BoolOp .And (b :: rest) pos) mb) : ME X W (.BoolOp .And (a :: b :: rest) pos) (eAn ma mb) := by
  refine PE.imp (pe_andT ha hb) ?_
  intro σ H Q h
  obtain ⟨ρ, E, s, hs, he, h⟩ := tM.bind (R1 := Rp (wd X)) (m := ma) (f := fun d E s1 => match truD d s1 with | some true => mb E s1 | some false => .ok d s1 | none => .err) h
  refine ⟨ρ, E, s, hs, he, RQ.mono h ?_⟩
  rintro x H1 ⟨ρ1, E1, s1, dx, hs1, he1, rx, hq⟩
  split at hq
  · rename_i e
    exact ⟨true, truD_ok hs1 rx e, ρ1, E1, s1, hs1, he1, hq⟩
  · rename_i e
    exact ⟨false, truD_ok hs1 rx e, hq ρ1 H1 _ Lat.refl hs1 rx⟩
  · exact hq.elim
theorem me_or {a b : Expr} {rest : List Expr} {ma mb : EM D} {pos : Pos} (ha : ME X W a ma) (hb : ME X W (.BoolOp .Or (b :: rest) pos) mb) : ME X W (.BoolOp .Or (a :: b :: rest) pos) (eOr ma mb) := by
  refine PE.imp (pe_orT ha hb) ?_
  intro σ H Q h
  obtain ⟨ρ, E, s, hs, he, h⟩ := tM.bind (R1 := Rp (wd X)) (m := ma) (f := fun d E s1 => match truD d s1 with | some true => .ok d s1 | some false => mb E s1 | none => .err) h
  refine ⟨ρ, E, s, hs, he, RQ.mono h ?_⟩
  rintro x H1 ⟨ρ1, E1, s1, dx, hs1, he1, rx, hq⟩
  split at hq
  · rename_i e
    exact ⟨true, truD_ok hs1 rx e, hq ρ1 H1 _ Lat.refl hs1 rx⟩
  · rename_i e
    exact ⟨false, truD_ok hs1 rx e, ρ1, E1, s1, hs1, he1, hq⟩
  · exact hq.elim
theorem me_not {a : Expr} {ma : EM D} {pos : Pos} (ha : ME X W a ma) : ME X W (.UnaryOp .Not a pos) (eNt ma) := by
  refine PE.imp (pe_notT ha) ?_
  intro σ H Q h
  obtain ⟨ρ, E, s, hs, he, h⟩ := tM.bind (R1 := Rp (wd X)) (m := ma) (f := fun d E s1 => match truD d s1 with | some b => Res.ok (D.bl (!b)) s1 | none => .err) h
  refine ⟨ρ, E, s, hs, he, RQ.mono h ?_⟩
  rintro x H1 ⟨ρ1, E1, s1, dx, hs1, he1, rx, hq⟩
  split at hq
  · rename_i b e
    exact ⟨b, truD_ok hs1 rx e, hq ρ1 H1 _ Lat.refl hs1 (by unfold Rp; rfl)⟩
  · exact hq.elim
def eIf (c : EM Bool) (a b : EM D) : EM D := fun E s => (c E s).bind fun k s1 => if k = true then a E s1 else b E s1
theorem me_if {c a b : Expr} {mc : EM Bool} {ma mb : EM D} {pos : Pos} (hc : MT X W c mc) (ha : ME X W a ma) (hb : ME X W b mb) : ME X W (.IfExp c a b pos) (eIf mc ma mb) := by
  refine PE.imp (pe_ifExp hc ha hb) ?_
  intro σ H Q h
  obtain ⟨ρ, E, s, hs, he, h⟩ := tM.bind (R1 := RB) (m := mc) (f := fun k E s1 => if k = true then ma E s1 else mb E s1) h
  refine ⟨ρ, E, s, hs, he, RQ.mono h ?_⟩
  rintro c H1 ⟨ρ1, E1, s1, c', hs1, he1, hb, hq⟩
  cases hb
  cases c with
  | true => exact ⟨ρ1, E1, s1, hs1, he1, hq⟩
  | false => exact ⟨ρ1, E1, s1, hs1, he1, hq⟩

/-! ### argument lists, displays -/
def aNil : EM (List D) := fun _ s => .ok [] s
def aCons (a : EM D) (b : EM (List D)) : EM (List D) := fun E s => (a E s).bind fun d s1 => (b E s1).bind fun ds s2 => .ok (d :: ds) s2
theorem ma_nil : MA X W [] aNil := by
  refine PA.imp pa_nil ?_
  rintro σ H Q ⟨ρ, E, s, hs, he, h⟩
  exact h ρ H [] Lat.refl hs (by unfold RpL; rfl)
theorem ma_cons {e : Expr} {es : List Expr} {m : EM D} {r : EM (List D)} (ha : ME X W e m) (hr : MA X W es r) (hs : starEach (e :: es) X.env = (false, eval e X.env) :: starEach es X.env) : MA X W (e :: es) (aCons m r) := by
  refine PA.imp (pa_cons ha hr hs) ?_
  intro σ H Q h
  obtain ⟨ρ, E, s, hs, he, h⟩ := tM.bind (R1 := Rp (wd X)) (m := m) (f := fun d E s1 => (r E s1).bind fun ds s2 => .ok (d :: ds) s2) h
  refine ⟨ρ, E, s, hs, he, RQ.mono h ?_⟩
  rintro x H1 ⟨ρ1, E1, s1, dx, hs1, he1, rx, hq⟩
  refine ⟨ρ1, E1, s1, hs1, he1, RQ.mono (RQ.bind (R1 := RpL (wd X)) hq) ?_⟩
  rintro xs H2 ⟨ρ2, s2, ds, L, hs2, rxs, hq2⟩
  exact hq2 ρ2 H2 _ Lat.refl hs2 (by unfold RpL; exact ⟨x, xs, rfl, Rp.lat L _ rx, rxs⟩)
theorem RpL.length {w : Wd} {ρ : Nat → Addr} {n : Nat} {H : Hp} : ∀ {vs : List V} {ds : List D}, RpL w ρ n H vs ds → vs.length = ds.length
  | vs, [], h => by unfold RpL at h; rw [h]; rfl
  | vs, d :: ds, h => by
    unfold RpL at h
    obtain ⟨v, r, rfl, _, h2⟩ := h
    rw [List.length_cons, List.length_cons, RpL.length h2]
def mkTup : PL := fun ds s => if ds.length ≤ sizeLine then some (.tup ds, s) else none
def mkLst : PL := fun ds s => if ds.length ≤ sizeLine then some (.loc s.length, s ++ [.lst ds]) else none
def eA (p : PL) (a : EM (List D)) : EM D := fun E s => (a E s).bind fun ds s1 => .ofO (p ds s1)
/-- what a list of values gives -/
theorem tM_A {w : Wd} {p : PL} {a : EM (List D)} {σ : St} {H : Hp} {Q : VK} (h : tM w (Rp w) W (eA p a) σ H Q) : tM w (RpL w) W a σ H fun xs H1 => rL w p xs H1 Q := by
  obtain ⟨ρ, E, s, hs, he, h⟩ := tM.bind (R1 := RpL w) (m := a) (f := fun ds E s1 => .ofO (p ds s1)) h
  refine ⟨ρ, E, s, hs, he, RQ.mono h ?_⟩
  rintro xs H1 ⟨ρ1, E1, s1, ds, hs1, he1, rx, hq⟩
  exact ⟨ρ1, s1, ds, hs1, rx, RQ.ofO hq⟩
/-- a new tuple -/
theorem RQ.tup {w : Wd} {W : XK} {ρ : Nat → Addr} {H : Hp} {s : Sto} {vs : List V} {ds : List D} {Q : VK} {p : Addr} (h : RQ w (Rp w) W ρ s.length H (.ok (.tup ds) s) Q) (hs : RS w ρ H s) (hr : RpL w ρ s.length H vs ds) (hp : H p = none) : Q (.ref p) (upd H p (.tup vs)) :=
  h ρ _ _ (Lat.fresh hp) (hs.fresh hp) (by unfold Rp; exact ⟨p, vs, rfl, SqU.of upd_same, RpL.lat (Lat.fresh hp) _ hr⟩)
/-- a new object of the store -/
theorem RQ.obj {w : Wd} {W : XK} {ρ : Nat → Addr} {H : Hp} {s : Sto} {ho : HO} {o : O} {Q : VK} {p : Addr} (h : RQ w (Rp w) W ρ s.length H (.ok (.loc s.length) (s ++ [o])) Q) (hs : RS w ρ H s) (hr : RO w ρ s.length H ho o) (hp : H p = none) : Q (.ref p) (upd H p ho) := by
  have hl : (s ++ [o]).length = s.length + 1 := by simp
  refine h (ext ρ s.length p) _ _ (by rw [hl]; exact Lat.alloc hp) (hs.alloc hp hr) ?_
  unfold Rp
  exact ⟨by rw [hl]; exact Nat.lt_succ_self _, by rw [ext_eq]⟩
theorem me_tup {es : List Expr} {k : Nat} {m : EM (List D)} {pos : Pos} (h : MA X W es m) : ME X W (.Tuple es k pos) (eA mkTup m) := by
  refine PE.imp (pe_tup h) fun σ H Q hq => ?_
  obtain ⟨ρ, E, s, hs, he, hq⟩ := tM_A hq
  refine ⟨ρ, E, s, hs, he, RQ.mono hq ?_⟩
  rintro xs H1 ⟨ρ1, s1, ds, hs1, rx, hq⟩
  unfold mkTup at hq
  split at hq
  · rename_i hl
    exact ⟨by rw [RpL.length rx]; exact hl, fun p hp => RQ.tup hq hs1 rx hp⟩
  · exact hq.elim
theorem me_lst {es : List Expr} {m : EM (List D)} {pos : Pos} (h : MA X W es m) : ME X W (.List es pos) (eA mkLst m) := by
  refine PE.imp (pe_lst h) fun σ H Q hq => ?_
  obtain ⟨ρ, E, s, hs, he, hq⟩ := tM_A hq
  refine ⟨ρ, E, s, hs, he, RQ.mono hq ?_⟩
  rintro xs H1 ⟨ρ1, s1, ds, hs1, rx, hq⟩
  unfold mkLst at hq
  split at hq
  · rename_i hl
    exact ⟨by rw [RpL.length rx]; exact hl, fun p hp => RQ.obj hq hs1 ⟨xs, rfl, rx⟩ hp⟩
  · exact hq.elim
/-- a built-in function, a built-in type, on values -/
theorem me_callB {x : Str} {id : String} {p : PL} {e : Expr} {es : List Expr} {m : EM (List D)} {np pos : Pos} (hc : CallM X (.builtin id) p) (hg : Gl X x) (hm : X.mg x = none) (hv : bootBuiltins x = some (.builtin id)) (ha : MA X W (e :: es) m) (hn : x ≠ "__name__") (hdb : (x == ("__debug__" : Str)) = false)
    (he : starEach (e :: es) X.env = (false, eval e X.env) :: starEach es X.env) (hpl : (backTo pos (starEach es X.env)).any (·.1) = false) : ME X W (.Call (.Name x np) (e :: es) [] pos) (eA p m) :=
  PE.imp (pe_callB hc hg hm hv ha hn hdb he hpl) fun _ _ _ h => tM_A h
theorem me_callTy {x : Str} {T : String} {p : PL} {e : Expr} {es : List Expr} {m : EM (List D)} {np pos : Pos} (hc : CallM X (.type T) p) (hg : Gl X x) (hm : X.mg x = none) (hv : bootBuiltins x = some (.type T)) (ha : MA X W (e :: es) m) (hn : x ≠ "__name__") (hdb : (x == ("__debug__" : Str)) = false)
    (he : starEach (e :: es) X.env = (false, eval e X.env) :: starEach es X.env) (hpl : (backTo pos (starEach es X.env)).any (·.1) = false) : ME X W (.Call (.Name x np) (e :: es) [] pos) (eA p m) :=
  PE.imp (pe_callTy hc hg hm hv ha hn hdb he hpl) fun _ _ _ h => tM_A h
end

/-! ### the call of a def -/
def spM (w : Wd) (n : Nat) (F : List D → Sto → Res D) : Sp := fun vs H Q E => ∃ ρ s ds, RS w ρ H s ∧ RpL w ρ s.length H vs ds ∧ ds.length = n ∧ RQ w (Rp w) E ρ s.length H (F ds s) Q
structure FnG (X : Cx) (x : Str) (n : Nat) (F : List D → Sto → Res D) : Prop where
  ex : ∃ k f fd ps, X.mg x = some (.ref f) ∧ PySem.W.keepIn X.K (.ref f) = true ∧ Binds X.K fd ps [] ∧ ps.length = n ∧ Room k X.A ∧ FnOk X.prog X.w X.K X.mg X.base (L2.CX X.prog X.w) k f fd ps (spM (wd X) n F)
def eCall (n : Nat) (F : List D → Sto → Res D) (a : EM (List D)) : EM D := fun E s => (a E s).bind fun ds s1 => if ds.length = n then F ds s1 else .err
section
variable {X : Cx} {W : WX}
theorem me_call {x : Str} {n : Nat} {F : List D → Sto → Res D} {e : Expr} {es : List Expr} {m : EM (List D)} {np pos : Pos} (G : FnG X x n F) (tk : Takes X W) (hg : Gl X x) (ha : MA X W (e :: es) m) (hdb : (x == ("__debug__" : Str)) = false)
    (he : starEach (e :: es) X.env = (false, eval e X.env) :: starEach es X.env) (hpl : (backTo pos (starEach es X.env)).any (·.1) = false) : ME X W (.Call (.Name x np) (e :: es) [] pos) (eCall n F m) := by
  obtain ⟨k, f, fd, ps, hm, hk, hb, hn, hr, FO⟩ := G.ex
  refine PE.imp (pe_callS (E := WE W) FO hr hg hm hk hb (fun σ => passAt tk σ) ha hdb he hpl) ?_
  intro σ H Q h
  obtain ⟨ρ, E, s, hs, he, h⟩ := tM.bind (R1 := RpL (wd X)) (m := m) (f := fun ds E s1 => if ds.length = n then F ds s1 else .err) h
  refine ⟨ρ, E, s, hs, he, RQ.mono h ?_⟩
  rintro xs H1 ⟨ρ1, E1, s1, ds, hs1, he1, rx, hq⟩
  split at hq
  · rename_i hl
    exact ⟨ρ1, s1, ds, hs1, rx, hl, hq⟩
  · exact hq.elim
theorem me_call0 {x : Str} {F : List D → Sto → Res D} {np pos : Pos} (G : FnG X x 0 F) (tk : Takes X W) (hg : Gl X x) (hdb : (x == ("__debug__" : Str)) = false) : ME X W (.Call (.Name x np) [] [] pos) (eCall 0 F aNil) := by
  obtain ⟨k, f, fd, ps, hm, hk, hb, hn, hr, FO⟩ := G.ex
  refine ⟨fun pins s σ H Q I h => ?_⟩
  refine wpAny_Call_Name_kw (ld_glob I hg hm ?_ hdb)
  refine PySem.W.callWith_K0 I.kIn hk (run_fnS (E := WE W) (us := []) FO hr hb (passAt tk σ) I .nil ?_)
  obtain ⟨ρ, E, st, hs, he, h⟩ := h
  exact ⟨ρ, st, [], hs, by unfold RpL; rfl, rfl, h⟩
end
end Y

set_option Elab.async false
set_option linter.all false
set_option maxRecDepth 100000
/-! Y3: what lists, dicts, tuples give; operators on data. -/
namespace Y
open PySem L2

section
variable {w : Wd} {ρ : Nat → Addr} {n : Nat} {H : Hp}
theorem RpL.get : ∀ {vs : List V} {ds : List D} {i : Nat} {d : D}, RpL w ρ n H vs ds → ds[i]? = some d → ∃ v, vs[i]? = some v ∧ Rp w ρ n H v d
  | _, [], i, d, h, e => by simp at e
  | vs, x :: ds, 0, d, h, e => by
    unfold RpL at h
    obtain ⟨v, r, rfl, h1, h2⟩ := h
    simp at e; subst e
    exact ⟨v, rfl, h1⟩
  | vs, x :: ds, i + 1, d, h, e => by
    unfold RpL at h
    obtain ⟨v, r, rfl, h1, h2⟩ := h
    obtain ⟨v', e1, r1⟩ := RpL.get (i := i) (d := d) h2 (by simpa using e)
    exact ⟨v', by simpa using e1, r1⟩
theorem RpL.append : ∀ {vs ws : List V} {ds es : List D}, RpL w ρ n H vs ds → RpL w ρ n H ws es → RpL w ρ n H (vs ++ ws) (ds ++ es)
  | vs, ws, [], es, h, q => by
    unfold RpL at h; subst h; exact q
  | vs, ws, d :: ds, es, h, q => by
    unfold RpL at h
    obtain ⟨v, r, rfl, h1, h2⟩ := h
    show RpL w ρ n H (v :: (r ++ ws)) (d :: (ds ++ es))
    unfold RpL
    exact ⟨v, _, rfl, h1, RpL.append h2 q⟩
theorem RpL.one {v : V} {d : D} (h : Rp w ρ n H v d) : RpL w ρ n H [v] [d] := by
  unfold RpL; exact ⟨v, [], rfl, h, by unfold RpL; rfl⟩
theorem RpL.nil : RpL w ρ n H [] [] := by unfold RpL; rfl
theorem RpL.cons {v : V} {d : D} {vs : List V} {ds : List D} (h : Rp w ρ n H v d) (q : RpL w ρ n H vs ds) : RpL w ρ n H (v :: vs) (d :: ds) := by
  unfold RpL; exact ⟨v, vs, rfl, h, q⟩
theorem RpL.inv {vs : List V} {d : D} {ds : List D} (h : RpL w ρ n H vs (d :: ds)) : ∃ v r, vs = v :: r ∧ Rp w ρ n H v d ∧ RpL w ρ n H r ds := by
  unfold RpL at h; exact h
theorem RpL.inv0 {vs : List V} (h : RpL w ρ n H vs []) : vs = [] := by
  unfold RpL at h; exact h
theorem RpL.drop : ∀ {vs : List V} {ds : List D} (k : Nat), RpL w ρ n H vs ds → RpL w ρ n H (vs.drop k) (ds.drop k)
  | _, _, 0, h => h
  | vs, [], k + 1, h => by rw [h.inv0]; exact RpL.nil
  | vs, d :: ds, k + 1, h => by
    obtain ⟨v, r, rfl, h1, h2⟩ := h.inv
    exact RpL.drop k h2
theorem RpL.take : ∀ {vs : List V} {ds : List D} (k : Nat), RpL w ρ n H vs ds → RpL w ρ n H (vs.take k) (ds.take k)
  | _, _, 0, h => RpL.nil
  | vs, [], k + 1, h => by rw [h.inv0]; exact RpL.nil
  | vs, d :: ds, k + 1, h => by
    obtain ⟨v, r, rfl, h1, h2⟩ := h.inv
    exact RpL.cons h1 (RpL.take k h2)
theorem RpL.set {v : V} {d : D} (h : Rp w ρ n H v d) : ∀ {vs : List V} {ds : List D} (k : Nat), RpL w ρ n H vs ds → RpL w ρ n H (vs.set k v) (ds.set k d)
  | vs, [], _, q => by rw [q.inv0]; exact RpL.nil
  | vs, e :: ds, 0, q => by
    obtain ⟨v', r, rfl, h1, h2⟩ := q.inv
    exact RpL.cons h h2
  | vs, e :: ds, k + 1, q => by
    obtain ⟨v', r, rfl, h1, h2⟩ := q.inv
    exact RpL.cons h1 (RpL.set h k h2)
theorem RpL.reverse : ∀ {vs : List V} {ds : List D}, RpL w ρ n H vs ds → RpL w ρ n H vs.reverse ds.reverse
  | vs, [], h => by rw [h.inv0]; exact RpL.nil
  | vs, d :: ds, h => by
    obtain ⟨v, r, rfl, h1, h2⟩ := h.inv
    rw [List.reverse_cons, List.reverse_cons]
    exact RpL.append (RpL.reverse h2) (RpL.one h1)
theorem RpL.atI {vs : List V} {ds : List D} {i : Int} {d : D} (h : RpL w ρ n H vs ds) (e : L2.atI ds i = some d) : ∃ v, L2.atI vs i = some v ∧ Rp w ρ n H v d := by
  unfold L2.atI at e ⊢
  rw [RpL.length h]
  cases q : ixN ds.length i with
  | none => rw [q] at e; cases e
  | some j =>
    rw [q] at e
    exact RpL.get h e

def getA {κ α : Type} [DecidableEq κ] (kvs : List (κ × α)) (k : κ) : Option α := (kvs.find? fun kv => decide (kv.1 = k)).map (·.2)
def putA {κ α : Type} [DecidableEq κ] (kvs : List (κ × α)) (k : κ) (v : α) : List (κ × α) :=
  if (kvs.any fun kv => decide (kv.1 = k)) = true then kvs.map (fun kv => if kv.1 = k then (kv.1, v) else kv) else kvs ++ [(k, v)]
theorem RpA.inv {κ : Type} {vs : List (κ × V)} {k : κ} {d : D} {ds : List (κ × D)} (h : RpA w ρ n H vs ((k, d) :: ds)) : ∃ v r, vs = (k, v) :: r ∧ Rp w ρ n H v d ∧ RpA w ρ n H r ds := by
  unfold RpA at h; exact h
theorem RpA.inv0 {κ : Type} {vs : List (κ × V)} (h : RpA w ρ n H vs ([] : List (κ × D))) : vs = [] := by
  unfold RpA at h; exact h
theorem RpA.nil {κ : Type} : RpA w ρ n H ([] : List (κ × V)) ([] : List (κ × D)) := by unfold RpA; rfl
theorem RpA.cons {κ : Type} {k : κ} {v : V} {d : D} {vs : List (κ × V)} {ds : List (κ × D)} (h : Rp w ρ n H v d) (q : RpA w ρ n H vs ds) : RpA w ρ n H ((k, v) :: vs) ((k, d) :: ds) := by
  unfold RpA; exact ⟨v, vs, rfl, h, q⟩
theorem RpA.append {κ : Type} : ∀ {vs ws : List (κ × V)} {ds es : List (κ × D)}, RpA w ρ n H vs ds → RpA w ρ n H ws es → RpA w ρ n H (vs ++ ws) (ds ++ es)
  | vs, ws, [], es, h, q => by rw [h.inv0]; exact q
  | vs, ws, (k, d) :: ds, es, h, q => by
    obtain ⟨v, r, rfl, h1, h2⟩ := h.inv
    exact RpA.cons h1 (RpA.append h2 q)
theorem RpA.keys {κ : Type} : ∀ {vs : List (κ × V)} {ds : List (κ × D)}, RpA w ρ n H vs ds → vs.map (·.1) = ds.map (·.1)
  | vs, [], h => by rw [h.inv0]; rfl
  | vs, (k, d) :: ds, h => by
    obtain ⟨v, r, rfl, h1, h2⟩ := h.inv
    rw [List.map_cons, List.map_cons, RpA.keys h2]
theorem RpA.length {κ : Type} {vs : List (κ × V)} {ds : List (κ × D)} (h : RpA w ρ n H vs ds) : vs.length = ds.length := by
  have := congrArg List.length h.keys
  simpa using this
section
variable {κ : Type} [DecidableEq κ]
theorem RpA.get : ∀ {vs : List (κ × V)} {ds : List (κ × D)} (k : κ), RpA w ρ n H vs ds → (∀ d, getA ds k = some d → ∃ v, valV vs k = some v ∧ Rp w ρ n H v d) ∧ (getA ds k = none → valV vs k = none)
  | vs, [], k, h => by
    rw [h.inv0]
    exact ⟨fun d e => by simp [getA] at e, fun _ => rfl⟩
  | vs, (k', d) :: ds, k, h => by
    obtain ⟨v, r, rfl, h1, h2⟩ := h.inv
    by_cases e : k' = k
    · refine ⟨fun d' q => ⟨v, valV_pos e, ?_⟩, fun q => ?_⟩
      · have : getA ((k', d) :: ds) k = some d := by simp [getA, List.find?_cons, e]
        rw [this] at q; cases q; exact h1
      · have : getA ((k', d) :: ds) k = some d := by simp [getA, List.find?_cons, e]
        rw [this] at q; cases q
    · have e1 : getA ((k', d) :: ds) k = getA ds k := by simp [getA, List.find?_cons, e]
      rw [e1, valV_neg e]
      exact RpA.get k h2
theorem RpA.any : ∀ {vs : List (κ × V)} {ds : List (κ × D)} (k : κ), RpA w ρ n H vs ds → (vs.any fun kv => decide (kv.1 = k)) = ds.any fun kv => decide (kv.1 = k)
  | vs, [], k, h => by rw [h.inv0]; rfl
  | vs, (k', d) :: ds, k, h => by
    obtain ⟨v, r, rfl, h1, h2⟩ := h.inv
    rw [List.any_cons, List.any_cons, RpA.any k h2]
theorem RpA.mapSet {v : V} {d : D} (hv : Rp w ρ n H v d) : ∀ {vs : List (κ × V)} {ds : List (κ × D)} (k : κ), RpA w ρ n H vs ds → RpA w ρ n H (vs.map fun kv => if kv.1 = k then (kv.1, v) else kv) (ds.map fun kv => if kv.1 = k then (kv.1, d) else kv)
  | vs, [], k, h => by rw [h.inv0]; exact RpA.nil
  | vs, (k', d') :: ds, k, h => by
    obtain ⟨v', r, rfl, h1, h2⟩ := h.inv
    rw [List.map_cons, List.map_cons]
    by_cases e : k' = k
    · rw [if_pos e, if_pos e]
      exact RpA.cons hv (RpA.mapSet hv k h2)
    · rw [if_neg e, if_neg e]
      exact RpA.cons h1 (RpA.mapSet hv k h2)
theorem RpA.put {v : V} {d : D} (hv : Rp w ρ n H v d) {vs : List (κ × V)} {ds : List (κ × D)} (k : κ) (h : RpA w ρ n H vs ds) : RpA w ρ n H (putK vs k v) (putA ds k d) := by
  unfold putK putA
  rw [RpA.any k h]
  by_cases e : (ds.any fun kv => decide (kv.1 = k)) = true
  · rw [if_pos e, if_pos e]; exact RpA.mapSet hv k h
  · rw [if_neg e, if_neg e]; exact RpA.append h (RpA.cons hv RpA.nil)
end
end

/-! ### what can be read as a list -/
def seqD (d : D) (s : Sto) : Option (List D) := match d with
  | .tup xs => some xs
  | .ro xs => some xs
  | .loc k => match s[k]? with
    | some (.lst xs) => some xs
    | _ => none
  | _ => none
theorem seqD_ok {w : Wd} {ρ : Nat → Addr} {H : Hp} {s : Sto} {v : V} {d : D} {ds : List D} (hs : RS w ρ H s) (hr : Rp w ρ s.length H v d) (h : seqD d s = some ds) : RLs w ρ s.length H v ds := by
  cases d with
  | tup xs =>
    unfold Rp at hr
    obtain ⟨a, vs, rfl, hq, hl⟩ := hr
    simp only [seqD] at h; cases h
    exact ⟨a, vs, rfl, .inr hq, hl⟩
  | ro xs =>
    unfold Rp at hr
    obtain ⟨a, vs, rfl, hq, hl⟩ := hr
    simp only [seqD] at h; cases h
    exact ⟨a, vs, rfl, .inl hq.sqL, hl⟩
  | loc k =>
    unfold Rp at hr
    obtain ⟨_, rfl⟩ := hr
    simp only [seqD] at h
    split at h
    · rename_i xs e
      cases h
      obtain ⟨ho, e1, vs, rfl, hl⟩ := hs.get e
      exact ⟨_, vs, rfl, .inl (SqL.of e1), hl⟩
    · cases h
  | _ => simp only [seqD] at h; cases h
def lOfE (m : EM D) : EM (List D) := fun E s => (m E s).bind fun d s1 => match seqD d s1 with
  | some ds => .ok ds s1
  | none => .err
section
variable {X : Cx} {W : WX}
theorem ml_of {e : Expr} {m : EM D} (h : ME X W e m) : ML X W e (lOfE m) := by
  refine PE.imp h ?_
  intro σ H Q h
  obtain ⟨ρ, E, s, hs, he, h⟩ := tM.bind (R1 := Rp (wd X)) (m := m) (f := fun d E s1 => match seqD d s1 with | some ds => Res.ok ds s1 | none => .err) h
  refine ⟨ρ, E, s, hs, he, RQ.mono h ?_⟩
  rintro x H1 ⟨ρ1, E1, s1, dx, hs1, he1, rx, hq⟩
  split at hq
  · rename_i ds e
    exact hq ρ1 H1 x Lat.refl hs1 (seqD_ok hs1 rx e)
  · exact hq.elim
end

/-! ### fresh lists: not in the store -/
def RF (w : Wd) (W : XK) (ρ : Nat → Addr) (n : Nat) (H : Hp) (r : Res (List D)) (Q : VK) : Prop := match r with
  | .ok ds s' => ∀ ρ' H' a vs, Lat ρ n H ρ' s'.length H' → RS w ρ' H' s' → H a = none → (∀ k, k < s'.length → ρ' k ≠ a) → H' a = some (.lst vs) → RpL w ρ' s'.length H' vs ds → Q (.ref a) H'
  | .exc x s' => ∀ ρ' H' c, Lat ρ n H ρ' s'.length H' → RS w ρ' H' s' → w.mg x = some c → W c none H'
  | .err => False
def tF (w : Wd) (W : WX) (m : EM (List D)) : TE := fun σ H Q => ∃ ρ E s, RS w ρ H s ∧ RE w ρ s.length H σ E ∧ RF w (WE W σ) ρ s.length H (m E s) Q
abbrev MF (X : Cx) (W : WX) (e : Expr) (m : EM (List D)) : Prop := PE X e (tF (wd X) W m)
def eAlloc (m : EM (List D)) : EM D := fun E s => (m E s).bind fun ds s1 => .ok (.loc s1.length) (s1 ++ [.lst ds])
theorem RS.adopt {w : Wd} {ρ : Nat → Addr} {H : Hp} {s : Sto} {a : Addr} {ho : HO} {o : O} (r : RS w ρ H s) (hn : ∀ k, k < s.length → ρ k ≠ a) (e : H a = some ho) (ro : RO w ρ s.length H ho o) :
    RS w (ext ρ s.length a) H (s ++ [o]) := by
  have hl : (s ++ [o]).length = s.length + 1 := by simp
  have up : ∀ {ho : HO} {o : O}, RO w ρ s.length H ho o → RO w (ext ρ s.length a) (s.length + 1) H ho o := fun {ho o} h => RO.up (fun k h => ext_lt h) (Nat.le_succ _) h
  refine ⟨fun k u q => ?_, fun i j hi hj q => ?_⟩
  · rw [hl]
    by_cases hk : k < s.length
    · rw [List.getElem?_append_left hk] at q
      obtain ⟨hu, z, ro'⟩ := r.obj k u q
      exact ⟨hu, by rw [ext_lt hk]; exact z, up ro'⟩
    · have hk2 : k = s.length := by
        have := (List.getElem?_eq_some_iff.mp q).1
        rw [hl] at this; omega
      subst hk2
      rw [List.getElem?_append_right (Nat.le_refl _)] at q
      simp at q
      subst q
      exact ⟨ho, by rw [ext_eq]; exact e, up ro⟩
  · rw [hl] at hi hj
    by_cases h1 : i < s.length
    · by_cases h2 : j < s.length
      · rw [ext_lt h1, ext_lt h2] at q; exact r.inj i j h1 h2 q
      · have ej : j = s.length := by omega
        subst ej
        rw [ext_lt h1, ext_eq] at q
        exact absurd q (hn i h1)
    · have ei : i = s.length := by omega
      subst ei
      by_cases h2 : j < s.length
      · rw [ext_eq, ext_lt h2] at q
        exact absurd q.symm (hn j h2)
      · omega

section
variable {X : Cx} {W : WX}
theorem ml_of_mf {e : Expr} {m : EM (List D)} (h : MF X W e m) : ML X W e m := by
  refine PE.imp h ?_
  rintro σ H Q ⟨ρ, E, s, hs, he, h⟩
  refine ⟨ρ, E, s, hs, he, ?_⟩
  cases q : m E s with
  | ok ds s' =>
    rw [q] at h
    exact fun ρ' H' a vs L hs' _ _ e r => h ρ' H' (.ref a) L hs' ⟨a, vs, rfl, .inl (SqL.of e), r⟩
  | exc x s' => rw [q] at h; exact h
  | err => rw [q] at h; exact h
theorem me_of_mf {e : Expr} {m : EM (List D)} (h : MF X W e m) : ME X W e (eAlloc m) := by
  refine PE.imp h ?_
  rintro σ H Q ⟨ρ, E, s, hs, he, h⟩
  refine ⟨ρ, E, s, hs, he, ?_⟩
  unfold eAlloc at h
  cases q : m E s with
  | ok ds s' =>
    rw [q] at h
    intro ρ' H' a vs L hs' h0 hn e r
    have hl : (s' ++ [O.lst ds]).length = s'.length + 1 := by simp
    refine h (ext ρ' s'.length a) H' (.ref a) ?_ (hs'.adopt hn e ⟨vs, rfl, r⟩) ?_
    · rw [hl]
      refine ⟨Nat.le_succ_of_le L.le, fun k hk => by rw [ext_lt (Nat.lt_of_lt_of_le hk L.le)]; exact L.agree k hk, L.keep, L.froz, L.dom, fun k h1 h2 => ?_⟩
      by_cases hk : k < s'.length
      · rw [ext_lt hk]; exact L.new k h1 hk
      · have : k = s'.length := by omega
        rw [this, ext_eq]; exact h0
    · unfold Rp
      exact ⟨by rw [hl]; exact Nat.lt_succ_self _, by rw [ext_eq]⟩
  | exc x s' => rw [q] at h; exact h
  | err => rw [q] at h; exact h
end
end Y

set_option Elab.async false
set_option linter.all false
set_option maxRecDepth 100000
/-! Y4: operators by values. -/
namespace Y
open PySem L2

section
variable {w : Wd} {ρ : Nat → Addr} {n : Nat} {H : Hp} {v : V}
theorem Rp.int_ {i : Int} (h : Rp w ρ n H v (.int i)) : v = .int i := by unfold Rp at h; exact h
theorem Rp.str_ {x : Str} (h : Rp w ρ n H v (.str x)) : v = .str x := by unfold Rp at h; exact h
theorem Rp.bl_ {b : Bool} (h : Rp w ρ n H v (.bl b)) : v = .bl b := by unfold Rp at h; exact h
theorem Rp.non_ (h : Rp w ρ n H v .non) : v = .non := by unfold Rp at h; exact h
theorem Rp.ty_ {t : String} (h : Rp w ρ n H v (.ty t)) : v = .ty t := by unfold Rp at h; exact h
theorem Rp.tup_ {xs : List D} (h : Rp w ρ n H v (.tup xs)) : ∃ a vs, v = .ref a ∧ SqU w.K H a vs ∧ RpL w ρ n H vs xs := by unfold Rp at h; exact h
theorem Rp.ro_ {xs : List D} (h : Rp w ρ n H v (.ro xs)) : ∃ a vs, v = .ref a ∧ SqR w.K H a vs ∧ RpL w ρ n H vs xs := by unfold Rp at h; exact h
theorem Rp.loc_ {k : Nat} (h : Rp w ρ n H v (.loc k)) : k < n ∧ v = .ref (ρ k) := by unfold Rp at h; exact h
theorem Rp.int (i : Int) : Rp w ρ n H (.int i) (.int i) := by unfold Rp; rfl
theorem Rp.str (x : Str) : Rp w ρ n H (.str x) (.str x) := by unfold Rp; rfl
theorem Rp.bl (b : Bool) : Rp w ρ n H (.bl b) (.bl b) := by unfold Rp; rfl
theorem Rp.non : Rp w ρ n H .non .non := by unfold Rp; rfl
theorem Rp.tup {a : Addr} {vs : List V} {xs : List D} (h : SqU w.K H a vs) (r : RpL w ρ n H vs xs) : Rp w ρ n H (.ref a) (.tup xs) := by unfold Rp; exact ⟨a, vs, rfl, h, r⟩
end
/-- a result in the same state -/
theorem RQ.val {w : Wd} {W : XK} {ρ : Nat → Addr} {H : Hp} {s : Sto} {d : D} {v : V} {Q : VK} (h : RQ w (Rp w) W ρ s.length H (.ofO (some (d, s))) Q) (hs : RS w ρ H s) (r : Rp w ρ s.length H v d) : Q v H := h ρ H v Lat.refl hs r

/-! ### arithmetic -/
/-- the number is small (kept from the kernel's unary roads) -/
def fitI (j : Int) : Bool := Nat.ble j.natAbs 1152921504606846975
theorem fitI_iff {j : Int} : fitI j = true ↔ j.natAbs ≤ 1152921504606846975 := by
  unfold fitI; rw [Nat.ble_eq]
theorem fitI_62 {j : Int} (h : fitI j = true) : -(2 ^ 62) ≤ j ∧ j < 2 ^ 62 := by
  have h := fitI_iff.mp h
  have e : (2 : Int) ^ 62 = 4611686018427387904 := by decide +kernel
  rw [e]; omega
theorem fitI_63 {j : Int} (h : fitI j = true) : j < 2 ^ 63 := by
  have h := fitI_iff.mp h
  have e : (2 : Int) ^ 63 = 9223372036854775808 := by decide +kernel
  rw [e]; omega
theorem fitI_63n {j : Int} (h : fitI j = true) : -(2 ^ 63) ≤ j := by
  have h := fitI_iff.mp h
  have e : (2 : Int) ^ 63 = 9223372036854775808 := by decide +kernel
  rw [e]; omega
theorem fitI_64 {j : Int} (h : fitI j = true) : -(2 ^ 64) < j ∧ j < 2 ^ 64 := by
  have h := fitI_iff.mp h
  have e : (2 : Int) ^ 64 = 18446744073709551616 := by decide +kernel
  rw [e]; omega
theorem fitI_nat {j : Int} (h : fitI j = true) : j.natAbs < 2 ^ 64 := by
  have h := fitI_iff.mp h
  have e : (2 : Nat) ^ 64 = 18446744073709551616 := by decide +kernel
  rw [e]; omega
/-- a text times a number -/
def repS (x : Str) (n : Int) : Str := if n < 1 then Str.empty else if (n == 1 || x.length == 0) = true then x else ⟨(List.replicate n.toNat x.cps).foldl (· ++ ·) #[]⟩
def pAdd : P2
  | .int i, .int j, s => some (.int (i + j), s)
  | .str x, .str y, s => if x.length + y.length ≤ sizeLine then some (.str (x ++ y), s) else none
  | .tup xs, .tup ys, s => if xs.length + ys.length ≤ sizeLine then some (.tup (xs ++ ys), s) else none
  | .loc i, .loc j, s => match s[i]?, s[j]? with
    | some (.lst xs), some (.lst ys) => if xs.length + ys.length ≤ sizeLine then some (.loc s.length, s ++ [.lst (xs ++ ys)]) else none
    | _, _ => none
  | _, _, _ => none
def pSub : P2
  | .int i, .int j, s => some (.int (i - j), s)
  | _, _, _ => none
def pMul : P2
  | .int i, .int j, s => if i.natAbs.log2 + j.natAbs.log2 < 1000000 then some (.int (i * j), s) else none
  | .str x, .int j, s => if fitI j = true ∧ x.length * j.toNat ≤ sizeLine then some (.str (repS x j), s) else none
  | .loc k, .int j, s => match s[k]? with
    | some (.lst xs) => if fitI j = true ∧ xs.length * j.toNat ≤ sizeLine then some (.loc s.length, s ++ [.lst (List.replicate j.toNat xs).flatten]) else none
    | _ => none
  | _, _, _ => none
def pDiv : P2
  | .int i, .int j, s => if 0 < j ∧ j.natAbs.log2 < 9000 then some (.int (i / j), s) else none
  | _, _, _ => none
def pMod : P2
  | .int i, .int j, s => if 0 < j then some (.int (i % j), s) else none
  | _, _, _ => none
def pPow : P2
  | .int i, .int j, s => if 0 ≤ j ∧ j ≤ 1000000 ∧ fitI i = true then some (.int (i ^ j.toNat), s) else none
  | _, _, _ => none
def p2None : P2 := fun _ _ _ => none
def pBin : Operator → P2
  | .Add => pAdd
  | .Sub => pSub
  | .Mult => pMul
  | .FloorDiv => pDiv
  | .Mod => pMod
  | .Pow => pPow
  | _ => p2None
section
variable {X : Cx}
theorem op_add' : OpM X (binaryOp .Add) pAdd := by
  rintro pins s σ H x y v u Q I rx ry ⟨ρ, st, dx, dy, hs, hx, hy, q⟩
  unfold pAdd at q
  split at q
  · rename_i i j
    exact op_add pins s σ H x y v u Q I rx ry ⟨i, j, hx.int_, hy.int_, q.val hs (Rp.int _)⟩
  · rename_i i j
    split at q
    · rename_i hl
      exact op_add_str pins s σ H x y v u Q I rx ry ⟨i, j, hx.str_, hy.str_, hl, q.val hs (Rp.str _)⟩
    · exact q.elim
  · rename_i xs ys
    split at q
    · rename_i hl
      obtain ⟨a, vs, rfl, qa, la⟩ := hx.tup_
      obtain ⟨b, ws, rfl, qb, lb⟩ := hy.tup_
      refine op_catA pins s σ H _ _ v u Q I rx ry ⟨a, b, vs, ws, rfl, rfl, qa.sqT, qb.sqT, by rw [RpL.length la, RpL.length lb]; exact hl, fun e => ?_, fun e1 e2 => ?_, fun e1 e2 p hp => ?_⟩
      · have e3 : xs = [] := by cases xs with
          | nil => rfl
          | cons _ _ => obtain ⟨_, _, z, _⟩ := la.inv; rw [e] at z; cases z
        subst e3
        exact q.val hs (Rp.tup qb lb)
      · have e3 : ys = [] := by cases ys with
          | nil => rfl
          | cons _ _ => obtain ⟨_, _, z, _⟩ := lb.inv; rw [e2] at z; cases z
        subst e3
        rw [List.append_nil] at q
        exact q.val hs (Rp.tup qa la)
      · exact RQ.tup q hs (RpL.append la lb) hp
    · exact q.elim
  · rename_i i j
    split at q
    · rename_i xs ys e1 e2
      split at q
      · rename_i hl
        obtain ⟨_, rfl⟩ := hx.loc_
        obtain ⟨_, rfl⟩ := hy.loc_
        obtain ⟨ho1, h1, vs, rfl, r1⟩ := hs.get e1
        obtain ⟨ho2, h2, ws, rfl, r2⟩ := hs.get e2
        exact op_cat pins s σ H _ _ v u Q I rx ry ⟨_, _, vs, ws, rfl, rfl, h1, h2, by rw [RpL.length r1, RpL.length r2]; exact hl, fun p hp => RQ.obj q hs ⟨_, rfl, RpL.append r1 r2⟩ hp⟩
      · exact q.elim
    · exact q.elim
  · exact q.elim
theorem op_none {f : Value → Value → Sem Value} : OpM X f p2None := by
  rintro pins s σ H x y v u Q I rx ry ⟨ρ, st, dx, dy, hs, hx, hy, q⟩
  exact q.elim
/-- two ints, under a condition -/
theorem op_int {f : Value → Value → Sem Value} {C : Int → Int → Prop} [∀ i j, Decidable (C i j)] {g : Int → Int → Int} {p : P2} (h : OpR X f (rI C fun i j => V.int (g i j)))
    (hp : ∀ dx dy s r, p dx dy s = some r → ∃ i j, dx = .int i ∧ dy = .int j ∧ C i j ∧ r = (.int (g i j), s)) : OpM X f p := by
  rintro pins s σ H x y v u Q I rx ry ⟨ρ, st, dx, dy, hs, hx, hy, q⟩
  cases e : p dx dy st with
  | none => rw [e] at q; exact q.elim
  | some r =>
    obtain ⟨i, j, rfl, rfl, hc, rfl⟩ := hp _ _ _ _ e
    rw [e] at q
    exact h pins s σ H x y v u Q I rx ry ⟨i, j, hx.int_, hy.int_, hc, q.val hs (Rp.int _)⟩
theorem RpL.flat {w : Wd} {ρ : Nat → Addr} {n : Nat} {H : Hp} {vs : List V} {ds : List D} (h : RpL w ρ n H vs ds) : ∀ m : Nat, RpL w ρ n H (List.replicate m vs).flatten (List.replicate m ds).flatten
  | 0 => by simp; unfold RpL; rfl
  | m + 1 => by
    rw [List.replicate_succ, List.replicate_succ, List.flatten_cons, List.flatten_cons]
    exact RpL.append h (RpL.flat h m)
theorem size_rep {α : Type} (a : Array α) : ∀ (m : Nat) (b : Array α), (List.foldl (· ++ ·) b (List.replicate m a)).size = b.size + m * a.size
  | 0, b => by simp
  | m + 1, b => by
    rw [List.replicate_succ, List.foldl_cons, size_rep a m (b ++ a), Array.size_append, Nat.succ_mul]
    omega
theorem op_mul' : OpM X (binaryOp .Mult) pMul := by
  rintro pins s σ H x y v u Q I rx ry ⟨ρ, st, dx, dy, hs, hx, hy, q⟩
  unfold pMul at q
  split at q
  · rename_i i j
    split at q
    · rename_i hl
      exact op_mulW pins s σ H x y v u Q I rx ry ⟨i, j, hx.int_, hy.int_, hl, q.val hs (Rp.int _)⟩
    · exact q.elim
  · rename_i x' j
    split at q
    · rename_i hl
      obtain ⟨h1, h2⟩ := hl
      have h1 := fitI_iff.mp h1
      cases hx.str_
      cases hy.int_
      obtain ⟨t, rfl⟩ := rx
      obtain ⟨t2, rfl⟩ := ry
      have e63 : (2 : Int) ^ 63 = 9223372036854775808 := by decide +kernel
      have hb : ¬ j < 1 → ¬ ((x'.length : Int) > (2 ^ 63 - 1) / j) := fun hj => by
        have h3 : (x'.length : Int) * j ≤ 16777216 := by
          obtain ⟨m, rfl⟩ : ∃ m : Nat, j = m := ⟨j.toNat, by omega⟩
          rw [Int.toNat_natCast, sizeLine_eq] at h2
          rw [← Int.natCast_mul]
          omega
        have := (Int.le_ediv_iff_mul_le (show (0 : Int) < j by omega)).mpr (show (x'.length : Int) * j ≤ 2 ^ 63 - 1 by rw [e63]; omega)
        omega
      refine P.mul_str (by rw [e63, decide_eq_false (by omega), decide_eq_false (by omega)]; rfl) (fun hj _ => hb hj) (fun _ _ => ?_) ?_
      · unfold Builtin.Str.tooLong
        exact decide_eq_false (Nat.not_lt.mpr h2)
      · unfold repS at q
        by_cases c1 : j < 1
        · rw [if_pos c1] at q ⊢
          exact ⟨by decide, .str Str.empty, H, I.tok _, ⟨_, rfl⟩, RQ.val q hs (Rp.str _)⟩
        · rw [if_neg c1] at q ⊢
          by_cases c2 : (j == 1 || x'.length == 0) = true
          · rw [if_pos c2] at q ⊢
            exact ⟨.str x', H, I, ⟨t, rfl⟩, RQ.val q hs (Rp.str _)⟩
          · rw [if_neg c2] at q ⊢
            refine ⟨?_, .str _, H, I.tok _, ⟨_, rfl⟩, RQ.val q hs (Rp.str _)⟩
            have := size_rep x'.cps j.toNat #[]
            show (List.foldl (· ++ ·) #[] (List.replicate j.toNat x'.cps)).size ≤ sizeLine
            rw [this]
            have h3 : x'.cps.size * j.toNat ≤ sizeLine := h2
            rw [Nat.mul_comm]
            simpa using h3
    · exact q.elim
  · rename_i k j
    split at q
    · rename_i xs e1
      split at q
      · rename_i hl
        obtain ⟨_, rfl⟩ := hx.loc_
        obtain ⟨ho1, h1, vs, rfl, r1⟩ := hs.get e1
        cases hy.int_
        exact op_rep pins s σ H _ _ v u Q I rx ry ⟨_, j, vs, rfl, rfl, h1, fitI_63n hl.1, fitI_63 hl.1, by rw [RpL.length r1]; exact hl.2, fun p hp => RQ.obj q hs ⟨_, rfl, RpL.flat r1 _⟩ hp⟩
      · exact q.elim
    · exact q.elim
  · exact q.elim
theorem op_bin (op : Operator) : OpM X (binaryOp op) (pBin op) := by
  cases op with
  | Add => exact op_add'
  | Sub =>
    refine op_int (C := fun _ _ => True) (g := fun i j => i - j) (fun pins s σ H x y v u Q I rx ry ⟨i, j, a, b, _, q⟩ => op_sub pins s σ H x y v u Q I rx ry ⟨i, j, a, b, q⟩) fun dx dy s r e => ?_
    have e : pSub dx dy s = some r := e
    unfold pSub at e
    split at e
    · cases e; exact ⟨_, _, rfl, rfl, trivial, rfl⟩
    · cases e
  | Mult => exact op_mul'
  | FloorDiv =>
    refine op_int (C := fun i j => 0 < j ∧ j.natAbs.log2 < 9000) (g := fun i j => i / j) op_fdivW fun dx dy s r e => ?_
    have e : pDiv dx dy s = some r := e
    unfold pDiv at e
    split at e
    · split at e
      · cases e; exact ⟨_, _, rfl, rfl, by assumption, rfl⟩
      · cases e
    · cases e
  | Mod =>
    refine op_int (C := fun i j => 0 < j) (g := fun i j => i % j) op_mod fun dx dy s r e => ?_
    have e : pMod dx dy s = some r := e
    unfold pMod at e
    split at e
    · split at e
      · cases e; exact ⟨_, _, rfl, rfl, by assumption, rfl⟩
      · cases e
    · cases e
  | Pow =>
    refine op_int (C := fun i j => 0 ≤ j ∧ j ≤ 1000000 ∧ i.natAbs < 2 ^ 64) (g := fun i j => i ^ j.toNat) op_pow fun dx dy s r e => ?_
    have e : pPow dx dy s = some r := e
    unfold pPow at e
    split at e
    · split at e
      · rename_i hc; cases e; exact ⟨_, _, rfl, rfl, ⟨hc.1, hc.2.1, fitI_nat hc.2.2⟩, rfl⟩
      · cases e
    · cases e
  | _ => exact op_none
def pNeg : P1
  | .int i, s => some (.int (-i), s)
  | _, _ => none
theorem un_neg' : UnM X (unaryOp .USub) pNeg := by
  rintro pins s σ H x v Q I rx ⟨ρ, st, dx, hs, hx, q⟩
  unfold pNeg at q
  split at q
  · exact un_neg pins s σ H x v Q I rx ⟨_, hx.int_, q.val hs (Rp.int _)⟩
  · exact q.elim
end

/-! ### comparisons -/
mutual
def pd0 : D → Option PyData
  | .non => some .none
  | .bl b => some (.bool b)
  | .int i => some (.int i)
  | .str x => some (.str x)
  | .tup xs => (pd0L xs).map .tuple
  | .ro xs => (pd0L xs).map .list
  | _ => none
def pd0L : List D → Option (List PyData)
  | [] => some []
  | d :: ds => match pd0 d, pd0L ds with
    | some e, some es => some (e :: es)
    | _, _ => none
end
def pd (d : D) (s : Sto) : Option PyData := match d with
  | .loc k => match s[k]? with
    | some (.lst xs) => (pd0L xs).map .list
    | _ => none
  | d => pd0 d
section
variable {w : Wd} {ρ : Nat → Addr} {n : Nat} {H : Hp}
mutual
theorem Rp.dp : ∀ {v : V} (d : D) {e : PyData}, Rp w ρ n H v d → pd0 d = some e → Dp w.K H v e
  | v, .non, e, h, q => by rw [h.non_]; unfold pd0 at q; cases q; exact .non
  | v, .bl b, e, h, q => by rw [h.bl_]; unfold pd0 at q; cases q; exact .bl b
  | v, .int i, e, h, q => by rw [h.int_]; unfold pd0 at q; cases q; exact .int i
  | v, .str x, e, h, q => by rw [h.str_]; unfold pd0 at q; cases q; exact .str x
  | v, .tup xs, e, h, q => by
    obtain ⟨a, vs, rfl, sq, r⟩ := h.tup_
    unfold pd0 at q
    cases z : pd0L xs with
    | none => rw [z] at q; cases q
    | some es => rw [z] at q; cases q; exact .tup sq.sqT (RpL.dp xs r z)
  | v, .ro xs, e, h, q => by
    obtain ⟨a, vs, rfl, sq, r⟩ := h.ro_
    unfold pd0 at q
    cases z : pd0L xs with
    | none => rw [z] at q; cases q
    | some es => rw [z] at q; cases q; exact .lst sq.sqL (RpL.dp xs r z)
  | v, .loc k, e, h, q => by unfold pd0 at q; cases q
  | v, .gl k, e, h, q => by unfold pd0 at q; cases q
  | v, .ty k, e, h, q => by unfold pd0 at q; cases q
theorem RpL.dp : ∀ {vs : List V} (ds : List D) {es : List PyData}, RpL w ρ n H vs ds → pd0L ds = some es → DpAll w.K H vs es
  | vs, [], es, h, q => by rw [h.inv0]; unfold pd0L at q; cases q; exact .nil
  | vs, d :: ds, es, h, q => by
    obtain ⟨v, r, rfl, h1, h2⟩ := h.inv
    unfold pd0L at q
    cases z1 : pd0 d with
    | none => rw [z1] at q; cases q
    | some e1 =>
      cases z2 : pd0L ds with
      | none => rw [z1, z2] at q; cases q
      | some e2 => rw [z1, z2] at q; cases q; exact .cons (Rp.dp d h1 z1) (RpL.dp ds h2 z2)
end
theorem pd_ok {s : Sto} {v : V} {d : D} {e : PyData} (hs : RS w ρ H s) (hr : Rp w ρ s.length H v d) (q : pd d s = some e) : Dp w.K H v e := by
  cases d with
  | loc k =>
    simp only [pd] at q
    split at q
    · rename_i xs e1
      cases z : pd0L xs with
      | none => rw [z] at q; cases q
      | some es =>
        rw [z] at q; cases q
        obtain ⟨_, rfl⟩ := hr.loc_
        obtain ⟨ho, h1, vs, rfl, r⟩ := hs.get e1
        exact .lst (SqL.of h1) (RpL.dp xs r z)
    · cases q
  | _ => exact Rp.dp _ hr q
end
/-- the scalars -/
def scalD : D → D → Option Bool
  | .non, .non => some true
  | .non, .int _ => some false | .int _, .non => some false | .non, .bl _ => some false | .bl _, .non => some false | .non, .str _ => some false | .str _, .non => some false
  | .int i, .int j => some (decide (i = j))
  | .bl i, .bl j => some (decide (i = j))
  | .str x, .str y => some (decide (x = y))
  | .int _, .str _ => some false | .str _, .int _ => some false | .bl _, .str _ => some false | .str _, .bl _ => some false
  | _, _ => none
theorem scalD_ok {w : Wd} {ρ : Nat → Addr} {n : Nat} {H : Hp} {x y : V} {dx dy : D} {b : Bool} (hx : Rp w ρ n H x dx) (hy : Rp w ρ n H y dy) (h : scalD dx dy = some b) : scal x y = true ∧ decide (x = y) = b := by
  unfold scalD at h
  split at h <;> first | (cases h; done) | skip
  all_goals
    cases h
    unfold Rp at hx hy
    subst hx hy
    refine ⟨rfl, ?_⟩
    first
      | rfl
      | (rename_i i j; by_cases e : i = j
         · subst e; simp
         · simp [e])
      | simp
def eqP (x y : D) (s : Sto) : Option Bool := match scalD x y with
  | some b => some b
  | none => match pd x s, pd y s with
    | some a, some b => if SeqAt.shaped a = true ∧ SeqAt.shaped b = true then some (PyData.eqv a b) else none
    | _, _ => none
def pEq : P2 := fun x y s => (eqP x y s).map fun b => (.bl b, s)
def pNe : P2 := fun x y s => (eqP x y s).map fun b => (.bl (!b), s)
def pLt : P2
  | .int i, .int j, s => some (.bl (decide (i < j)), s)
  | .str x, .str y, s => some (.bl (decide (x.cps.toList < y.cps.toList)), s)
  | _, _, _ => none
def pLe : P2
  | .int i, .int j, s => some (.bl (decide (i ≤ j)), s)
  | _, _, _ => none
def pGt : P2
  | .int i, .int j, s => some (.bl (decide (j < i)), s)
  | _, _, _ => none
def pGe : P2
  | .int i, .int j, s => some (.bl (decide (j ≤ i)), s)
  | _, _, _ => none
def keyD : D → Option Key
  | .int i => some (.inl i)
  | .str x => some (.inr x)
  | _ => none
theorem keyD_ok {w : Wd} {ρ : Nat → Addr} {n : Nat} {H : Hp} {v : V} {d : D} {k : Key} (h : Rp w ρ n H v d) (e : keyD d = some k) : v = kV k := by
  unfold keyD at e
  split at e
  · cases e; exact h.int_
  · cases e; exact h.str_
  · cases e
/-- x in a tuple or list: the items in order, each compared -/
def inL (x : D) (s : Sto) : List D → Option Bool
  | [] => some false
  | y :: ys => match eqP y x s with
    | some true => some true
    | some false => inL x s ys
    | none => none
def flatD : D → Bool
  | .non => true | .bl _ => true | .int _ => true | .str _ => true | _ => false
def flatEq : D → D → Bool
  | .non, .non => true
  | .bl a, .bl b => a == b
  | .bl a, .int j => (if a then 1 else 0) == j
  | .int i, .bl b => i == (if b then 1 else 0)
  | .int i, .int j => i == j
  | .str x, .str y => decide (x = y)
  | _, _ => false
def inP (x y : D) (s : Sto) : Option Bool := match y with
  | .loc k => match s[k]? with
    | some (.dic kvs) => (keyD x).map fun k => (getA kvs k).isSome
    | some (.lst ys) => if flatD x = true ∧ ys.all flatD = true then some (ys.any fun y => flatEq y x) else
      match pd0 x, pd0L ys with
      | some a, some b => if SeqAt.shaped a = true ∧ SeqAt.shaped (.list b) = true then some (b.any fun z => PyData.eqv z a) else none
      | _, _ => none
    | _ => none
  | .tup ys => if flatD x = true ∧ ys.all flatD = true then some (ys.any fun y => flatEq y x) else none
  | .ro ys => if flatD x = true ∧ ys.all flatD = true then some (ys.any fun y => flatEq y x) else none
  | .str z => match x with
    | .str c => some (!(Builtin.Str.occurrences z c 0 z.length 1).isEmpty)
    | _ => none
  | _ => none
def pIn : P2 := fun x y s => (inP x y s).map fun b => (.bl b, s)
def pNotIn : P2 := fun x y s => (inP x y s).map fun b => (.bl (!b), s)
def pIs : P2
  | x, .non, s => match x with
    | .gl _ => none
    | .ty _ => none
    | .non => some (.bl true, s)
    | _ => some (.bl false, s)
  | _, _, _ => none
def pIsNot : P2
  | x, .non, s => match x with
    | .gl _ => none
    | .ty _ => none
    | .non => some (.bl false, s)
    | _ => some (.bl true, s)
  | _, _, _ => none
def pCmp : CmpOp → P2
  | .Eq => pEq
  | .NotEq => pNe
  | .Lt => pLt
  | .LtE => pLe
  | .Gt => pGt
  | .GtE => pGe
  | .Is => pIs
  | .IsNot => pIsNot
  | .In => pIn
  | .NotIn => pNotIn

section
variable {w : Wd} {ρ : Nat → Addr} {n : Nat} {H : Hp}
theorem flat_ok {v : V} {d : D} (h : Rp w ρ n H v d) (f : flatD d = true) : flatV v = true := by
  cases d with
  | non => rw [h.non_]; rfl
  | bl b => rw [h.bl_]; rfl
  | int i => rw [h.int_]; rfl
  | str x => rw [h.str_]; rfl
  | _ => cases f
theorem flats_ok : ∀ {vs : List V} {ds : List D}, RpL w ρ n H vs ds → ds.all flatD = true → vs.all flatV = true
  | vs, [], h, _ => by rw [h.inv0]; rfl
  | vs, d :: ds, h, f => by
    obtain ⟨v, r, rfl, h1, h2⟩ := h.inv
    rw [List.all_cons, Bool.and_eq_true] at f
    rw [List.all_cons, flat_ok h1 f.1, flats_ok h2 f.2]
    rfl
theorem flatEq_ok {x y : V} {dx dy : D} (hx : Rp w ρ n H x dx) (hy : Rp w ρ n H y dy) (fx : flatD dx = true) (fy : flatD dy = true) : eqV x y = flatEq dx dy := by
  cases dx <;> first | (cases fx; done) | skip
  all_goals cases dy <;> first | (cases fy; done) | skip
  all_goals
    unfold Rp at hx hy
    subst hx hy
    first
      | rfl
      | (unfold eqV flatEq; first | rfl | (simp; done))
theorem any_ok {x : V} {dx : D} (hx : Rp w ρ n H x dx) (fx : flatD dx = true) : ∀ {vs : List V} {ds : List D}, RpL w ρ n H vs ds → ds.all flatD = true → inV x vs = ds.any fun y => flatEq y dx
  | vs, [], h, _ => by rw [h.inv0]; rfl
  | vs, d :: ds, h, f => by
    obtain ⟨v, r, rfl, h1, h2⟩ := h.inv
    rw [List.all_cons, Bool.and_eq_true] at f
    have ih := any_ok hx fx h2 f.2
    unfold inV at ih ⊢
    rw [List.any_cons, List.any_cons, ih, flatEq_ok h1 hx f.1 fx]
end
section
variable {X : Cx}
theorem eq_run (hr : Room 0 X.A) {pins : List (Addr × Obj)} {s : Shared} {σ : St} {H : Hp} {x y : V} {v u : Value} {Q : VK} {ρ : Nat → Addr} {st : Sto} {dx dy : D} {b : Bool} (I : Inv X pins σ H s) (rx : RelV x v) (ry : RelV y u) (hs : RS (wd X) ρ H st)
    (hx : Rp (wd X) ρ st.length H x dx) (hy : Rp (wd X) ρ st.length H y dy) (e : eqP dx dy st = some b) :
    (Q (.bl b) H → wpAny (model X.prog X.w) X.A (compareOp .Eq v u) (EP X pins σ Q) X.xe s) ∧ (Q (.bl (!b)) H → wpAny (model X.prog X.w) X.A (compareOp .NotEq v u) (EP X pins σ Q) X.xe s) := by
  unfold eqP at e
  split at e
  · rename_i b' e'
    cases e
    obtain ⟨h1, h2⟩ := scalD_ok hx hy e'
    exact ⟨fun q => op_eq pins s σ H x y v u Q I rx ry ⟨h1, by rw [h2]; exact q⟩, fun q => op_ne pins s σ H x y v u Q I rx ry ⟨h1, by rw [h2]; exact q⟩⟩
  · split at e
    · rename_i a c ea ec
      split at e
      · rename_i hsh
        cases e
        have da := pd_ok hs hx ea
        have dc := pd_ok hs hy ec
        exact ⟨fun q => op_eqD hr.units pins s σ H x y v u Q I rx ry ⟨a, c, da, dc, hsh.1, hsh.2, q⟩, fun q => op_neD hr.units pins s σ H x y v u Q I rx ry ⟨a, c, da, dc, hsh.1, hsh.2, q⟩⟩
      · cases e
    · cases e
theorem in_run (hr : Room 0 X.A) {pins : List (Addr × Obj)} {s : Shared} {σ : St} {H : Hp} {x y : V} {v u : Value} {Q : VK} {ρ : Nat → Addr} {st : Sto} {dx dy : D} {b : Bool} (I : Inv X pins σ H s) (rx : RelV x v) (ry : RelV y u) (hs : RS (wd X) ρ H st)
    (hx : Rp (wd X) ρ st.length H x dx) (hy : Rp (wd X) ρ st.length H y dy) (e : inP dx dy st = some b) :
    (Q (.bl b) H → wpAny (model X.prog X.w) X.A (compareOp .In v u) (EP X pins σ Q) X.xe s) ∧ (Q (.bl (!b)) H → wpAny (model X.prog X.w) X.A (compareOp .NotIn v u) (EP X pins σ Q) X.xe s) := by
  have hu : X.A.units + 65 < cLine := by have := hr.un; omega
  have hu1 : X.A.units + 1 < cLine := by omega
  have flat : ∀ {a : Addr} {vs : List V} {ys : List D}, y = .ref a → (SqL X.K H a vs ∨ SqT X.K H a vs) → RpL (wd X) ρ st.length H vs ys → flatD dx = true → ys.all flatD = true →
      (Q (.bl (ys.any fun y => flatEq y dx)) H → wpAny (model X.prog X.w) X.A (compareOp .In v u) (EP X pins σ Q) X.xe s) ∧ (Q (.bl (!(ys.any fun y => flatEq y dx))) H → wpAny (model X.prog X.w) X.A (compareOp .NotIn v u) (EP X pins σ Q) X.xe s) := by
    intro a vs ys ey sq r f1 f2
    have ea := any_ok hx f1 r f2
    refine ⟨fun q => op_in_seq pins s σ H x y v u Q I rx ry ⟨a, vs, ey, sq, flat_ok hx f1, flats_ok r f2, ?_⟩, fun q => op_notIn_seq pins s σ H x y v u Q I rx ry ⟨a, vs, ey, sq, flat_ok hx f1, flats_ok r f2, ?_⟩⟩
    · show Q (.bl (if false = true then !inV x vs else inV x vs)) H
      rw [if_neg Bool.false_ne_true, ea]; exact q
    · show Q (.bl (if true = true then !inV x vs else inV x vs)) H
      rw [if_pos rfl, ea]; exact q
  unfold inP at e
  split at e
  · rename_i k
    obtain ⟨_, rfl⟩ := hy.loc_
    cases (show u = Value.ref (ρ k) from ry)
    split at e
    · rename_i kvs e1
      obtain ⟨ho, h1, vs, rfl, r⟩ := hs.get e1
      cases ek : keyD dx with
      | none => rw [ek] at e; cases e
      | some k' =>
        rw [ek] at e; cases e
        have ev := keyD_ok hx ek
        subst ev
        have g : DGet H (ρ k) (kV k') (valV vs k') := DGet.k h1
        obtain ⟨g1, g2⟩ := RpA.get k' r
        have eb : (valV vs k').isSome = (getA kvs k').isSome := by
          cases z : getA kvs k' with
          | none => rw [g2 z]; rfl
          | some d => obtain ⟨v', e', _⟩ := g1 d z; rw [e']; rfl
        exact ⟨fun q => d_in hu1 I g rx fun s3 I3 => ⟨.bl _, H, I3, rfl, by rw [eb]; exact q⟩, fun q => d_notIn hu1 I g rx fun s3 I3 => ⟨.bl _, H, I3, rfl, by rw [eb]; exact q⟩⟩
    · rename_i ys e1
      obtain ⟨ho, h1, vs, rfl, r⟩ := hs.get e1
      split at e
      · rename_i hf
        cases e
        exact flat rfl (.inl (SqL.of h1)) r hf.1 hf.2
      · split at e
        · rename_i a c ea ec
          split at e
          · rename_i hsh
            cases e
            have da := Rp.dp _ hx ea
            have dc := RpL.dp _ r ec
            exact ⟨fun q => op_inD hu pins s σ H x (.ref (ρ k)) v _ Q I rx rfl ⟨a, c, da, .lst (SqL.of h1) dc, hsh.1, hsh.2, q⟩, fun q => op_notInD hu pins s σ H x (.ref (ρ k)) v _ Q I rx rfl ⟨a, c, da, .lst (SqL.of h1) dc, hsh.1, hsh.2, q⟩⟩
          · cases e
        · cases e
    · cases e
  · rename_i ys
    obtain ⟨a, vs, e0, sq, r⟩ := hy.tup_
    split at e
    · rename_i hf
      cases e
      exact flat e0 (.inr sq.sqT) r hf.1 hf.2
    · cases e
  · rename_i ys
    obtain ⟨a, vs, e0, sq, r⟩ := hy.ro_
    split at e
    · rename_i hf
      cases e
      exact flat e0 (.inl sq.sqL) r hf.1 hf.2
    · cases e
  · rename_i z
    split at e
    · rename_i c
      cases e
      exact ⟨fun q => op_in_str pins s σ H x y v u Q I rx ry ⟨c, z, hx.str_, hy.str_, q⟩, fun q => op_notin_str pins s σ H x y v u Q I rx ry ⟨c, z, hx.str_, hy.str_, q⟩⟩
    · cases e
  · cases e
def isNonD : D → Bool
  | .non => true
  | _ => false
theorem isn_ok {w : Wd} {ρ : Nat → Addr} {n : Nat} {H : Hp} {x : V} {dx : D} (hx : Rp w ρ n H x dx) (h1 : ∀ z, dx ≠ .gl z) (h2 : ∀ z, dx ≠ .ty z) : decide (x = V.non) = isNonD dx := by
  cases dx with
  | non => cases hx.non_; rfl
  | bl b => cases hx.bl_; rfl
  | int b => cases hx.int_; rfl
  | str b => cases hx.str_; rfl
  | tup b => obtain ⟨a, vs, rfl, _⟩ := hx.tup_; rfl
  | ro b => obtain ⟨a, vs, rfl, _⟩ := hx.ro_; rfl
  | loc b => obtain ⟨_, rfl⟩ := hx.loc_; rfl
  | gl z => exact absurd rfl (h1 z)
  | ty z => exact absurd rfl (h2 z)
theorem op_cmp (hr : Room 0 X.A) (op : CmpOp) : OpM X (compareOp op) (pCmp op) := by
  have iB : ∀ {g : Int → Int → Bool} {p : P2} {f : Value → Value → Sem Value} (h : OpR X f (rI0 fun i j => V.bl (g i j))) (hp : ∀ dx dy s r, p dx dy s = some r → ∃ i j, dx = .int i ∧ dy = .int j ∧ r = (.bl (g i j), s)), OpM X f p := by
    intro g p f h hp
    rintro pins s σ H x y v u Q I rx ry ⟨ρ, st, dx, dy, hs, hx, hy, q⟩
    cases e : p dx dy st with
    | none => rw [e] at q; exact q.elim
    | some r =>
      obtain ⟨i, j, rfl, rfl, rfl⟩ := hp _ _ _ _ e
      rw [e] at q
      exact h pins s σ H x y v u Q I rx ry ⟨i, j, hx.int_, hy.int_, q.val hs (Rp.bl _)⟩
  cases op with
  | Eq =>
    rintro pins s σ H x y v u Q I rx ry ⟨ρ, st, dx, dy, hs, hx, hy, q⟩
    change RQ _ _ _ _ _ _ (.ofO (pEq dx dy st)) Q at q
    unfold pEq at q
    cases e : eqP dx dy st with
    | none => rw [e] at q; exact q.elim
    | some b => rw [e] at q; exact (eq_run hr I rx ry hs hx hy e).1 (RQ.val q hs (Rp.bl _))
  | NotEq =>
    rintro pins s σ H x y v u Q I rx ry ⟨ρ, st, dx, dy, hs, hx, hy, q⟩
    change RQ _ _ _ _ _ _ (.ofO (pNe dx dy st)) Q at q
    unfold pNe at q
    cases e : eqP dx dy st with
    | none => rw [e] at q; exact q.elim
    | some b => rw [e] at q; exact (eq_run hr I rx ry hs hx hy e).2 (RQ.val q hs (Rp.bl _))
  | Lt =>
    rintro pins s σ H x y v u Q I rx ry ⟨ρ, st, dx, dy, hs, hx, hy, q⟩
    change RQ _ _ _ _ _ _ (.ofO (pLt dx dy st)) Q at q
    unfold pLt at q
    split at q
    · exact op_lt pins s σ H x y v u Q I rx ry ⟨_, _, hx.int_, hy.int_, q.val hs (Rp.bl _)⟩
    · exact op_lt_str pins s σ H x y v u Q I rx ry ⟨_, _, hx.str_, hy.str_, q.val hs (Rp.bl _)⟩
    · exact q.elim
  | LtE =>
    refine iB (g := fun i j => decide (i ≤ j)) op_le fun dx dy s r e => ?_
    change pLe dx dy s = some r at e
    unfold pLe at e
    split at e
    · cases e; exact ⟨_, _, rfl, rfl, rfl⟩
    · cases e
  | Gt =>
    refine iB (g := fun i j => decide (j < i)) op_gt fun dx dy s r e => ?_
    change pGt dx dy s = some r at e
    unfold pGt at e
    split at e
    · cases e; exact ⟨_, _, rfl, rfl, rfl⟩
    · cases e
  | GtE =>
    refine iB (g := fun i j => decide (j ≤ i)) op_ge fun dx dy s r e => ?_
    change pGe dx dy s = some r at e
    unfold pGe at e
    split at e
    · cases e; exact ⟨_, _, rfl, rfl, rfl⟩
    · cases e
  | Is =>
    rintro pins s σ H x y v u Q I rx ry ⟨ρ, st, dx, dy, hs, hx, hy, q⟩
    change RQ _ _ _ _ _ _ (.ofO (pIs dx dy st)) Q at q
    unfold pIs at q
    split at q
    · split at q
      · exact q.elim
      · exact q.elim
      · exact op_isN pins s σ H x y v u Q I rx ry ⟨hy.non_, by rw [isn_ok hx (by simp) (by simp)]; exact q.val hs (Rp.bl _)⟩
      · refine op_isN pins s σ H x y v u Q I rx ry ⟨hy.non_, ?_⟩
        rename_i h1 h2 h3
        rw [isn_ok hx (fun z e => h1 z e) (fun z e => h2 z e)]
        have e : isNonD dx = false := by
          cases dx <;> first | rfl | exact (h3 rfl).elim
        rw [e]
        exact q.val hs (Rp.bl _)
    · exact q.elim
  | IsNot =>
    rintro pins s σ H x y v u Q I rx ry ⟨ρ, st, dx, dy, hs, hx, hy, q⟩
    change RQ _ _ _ _ _ _ (.ofO (pIsNot dx dy st)) Q at q
    unfold pIsNot at q
    split at q
    · split at q
      · exact q.elim
      · exact q.elim
      · exact op_notN pins s σ H x y v u Q I rx ry ⟨hy.non_, by rw [isn_ok hx (by simp) (by simp)]; exact q.val hs (Rp.bl _)⟩
      · refine op_notN pins s σ H x y v u Q I rx ry ⟨hy.non_, ?_⟩
        rename_i h1 h2 h3
        rw [isn_ok hx (fun z e => h1 z e) (fun z e => h2 z e)]
        have e : isNonD dx = false := by
          cases dx <;> first | rfl | exact (h3 rfl).elim
        rw [e]
        exact q.val hs (Rp.bl _)
    · exact q.elim
  | In =>
    rintro pins s σ H x y v u Q I rx ry ⟨ρ, st, dx, dy, hs, hx, hy, q⟩
    change RQ _ _ _ _ _ _ (.ofO (pIn dx dy st)) Q at q
    unfold pIn at q
    cases e : inP dx dy st with
    | none => rw [e] at q; exact q.elim
    | some b => rw [e] at q; exact (in_run hr I rx ry hs hx hy e).1 (RQ.val q hs (Rp.bl _))
  | NotIn =>
    rintro pins s σ H x y v u Q I rx ry ⟨ρ, st, dx, dy, hs, hx, hy, q⟩
    change RQ _ _ _ _ _ _ (.ofO (pNotIn dx dy st)) Q at q
    unfold pNotIn at q
    cases e : inP dx dy st with
    | none => rw [e] at q; exact q.elim
    | some b => rw [e] at q; exact (in_run hr I rx ry hs hx hy e).2 (RQ.val q hs (Rp.bl _))
end
end Y

set_option Elab.async false
set_option linter.all false
set_option maxRecDepth 100000
/-! Y5: subscripts, slices, built-in functions, methods of built-in types, by values. -/
namespace Y
open PySem L2

/-! ### a[i] -/
def pIx : P2
  | .tup xs, .int i, s => (atI xs i).map fun d => (d, s)
  | .ro xs, .int i, s => (atI xs i).map fun d => (d, s)
  | .str z, .int i, s => if z.length ≤ sizeLine then (atI z.cps.toList i).map fun c => (.str ⟨#[c]⟩, s) else none
  | .loc k, y, s => match s[k]? with
    | some (.lst xs) => match y with
      | .int i => (atI xs i).map fun d => (d, s)
      | _ => none
    | some (.dic kvs) => match keyD y with
      | some q => (getA kvs q).map fun d => (d, s)
      | none => none
    | _ => none
  | _, _, _ => none
section
variable {X : Cx} {W : WX}
theorem ix_dict (hu : X.A.units + 1 < cLine) : IxR X (fun x y H Q => ∃ a v, x = .ref a ∧ DGet H a y (some v) ∧ Q v H) := by
  intro value slice pins s σ H x y v u Q I rx ry h hs
  obtain ⟨a, z, rfl, g, q⟩ := h
  cases rx
  exact PyProof.Rows.tail_any (ops := [.ref a, u]) (dict_typeIs I g) PySem.F.slot_dict_getitem.lookup (d_getItem hu I g ry fun w' s3 I3 rw' => ⟨z, H, I3, rw', q⟩) hs
theorem ix_all (hr : Room 0 X.A) : IxR X (r2 (wd X) pIx) := by
  intro value slice pins s σ H x y v u Q I rx ry h hsl
  obtain ⟨ρ, st, dx, dy, hs, hx, hy, q⟩ := h
  have hu1 : X.A.units + 1 < cLine := by have := hr.un; omega
  unfold pIx at q
  split at q
  · rename_i xs i
    obtain ⟨a, vs, rfl, sq, r⟩ := hx.tup_
    cases e : atI xs i with
    | none => rw [e] at q; exact q.elim
    | some d =>
      rw [e] at q
      obtain ⟨z, e1, r1⟩ := RpL.atI r e
      exact ix_tup value slice pins s σ H _ y v u Q I rx ry ⟨a, vs, i, z, rfl, hy.int_, sq.sqT, e1, RQ.val q hs r1⟩ hsl
  · rename_i xs i
    obtain ⟨a, vs, rfl, sq, r⟩ := hx.ro_
    cases e : atI xs i with
    | none => rw [e] at q; exact q.elim
    | some d =>
      rw [e] at q
      obtain ⟨z, e1, r1⟩ := RpL.atI r e
      exact ix_list value slice pins s σ H _ y v u Q I rx ry ⟨a, vs, i, z, rfl, hy.int_, sq.sqL, e1, RQ.val q hs r1⟩ hsl
  · rename_i z i
    split at q
    · rename_i hl
      cases e : atI z.cps.toList i with
      | none => rw [e] at q; exact q.elim
      | some c =>
        rw [e] at q
        exact ix_str value slice pins s σ H _ y v u Q I rx ry ⟨z, i, c, hx.str_, hy.int_, hl, e, RQ.val q hs (Rp.str _)⟩ hsl
    · exact q.elim
  · rename_i k
    obtain ⟨_, rfl⟩ := hx.loc_
    split at q
    · rename_i xs e0
      obtain ⟨ho, h1, vs, rfl, r⟩ := hs.get e0
      split at q
      · rename_i i
        cases e : atI xs i with
        | none => rw [e] at q; exact q.elim
        | some d =>
          rw [e] at q
          obtain ⟨z, e1, r1⟩ := RpL.atI r e
          exact ix_list value slice pins s σ H _ y v u Q I rx ry ⟨_, vs, i, z, rfl, hy.int_, SqL.of h1, e1, RQ.val q hs r1⟩ hsl
      · exact q.elim
    · rename_i kvs e0
      obtain ⟨ho, h1, vs, rfl, r⟩ := hs.get e0
      split at q
      · rename_i k' ek
        have ev := keyD_ok hy ek
        subst ev
        cases e : getA kvs k' with
        | none => rw [e] at q; exact q.elim
        | some d =>
          rw [e] at q
          obtain ⟨z, e1, r1⟩ := (RpA.get k' r).1 d e
          exact ix_dict hu1 value slice pins s σ H _ _ v u Q I rx ry ⟨_, z, rfl, by rw [← e1]; exact DGet.k h1, RQ.val q hs r1⟩ hsl
      · exact q.elim
    · exact q.elim
  · exact q.elim
def isSl : Expr → Bool
  | .Slice _ _ _ _ => true
  | _ => false
theorem plainIx {b : Expr} (h : isSl b = false) : PlainIx b := by
  intro o i
  cases b <;> first | rfl | (cases h; done)
theorem me_ix {a b : Expr} {ma mb : EM D} {pos : Pos} (hr : Room 0 X.A) (ha : ME X W a ma) (hb : ME X W b mb) (hs : isSl b = false) : ME X W (.Subscript a b pos) (eBin pIx ma mb) :=
  PE.imp (pe_ix (ix_all hr) ha hb (plainIx hs)) fun _ _ _ h => tM_bin h

/-! ### a[i:j] -/
def cutA {α : Type} (xs : List α) (lo hi : Option Int) : List α := (xs.drop (HT.sIx xs.length 0 lo)).take (HT.sIx xs.length xs.length hi - HT.sIx xs.length 0 lo)
theorem cut_len {α : Type} (xs : List α) (lo hi : Option Int) : (cutA xs lo hi).length ≤ xs.length := by
  unfold cutA
  rw [List.length_take, List.length_drop]
  omega
def pSl (x : D) (lo hi : Option Int) (s : Sto) : Option (D × Sto) := match x with
  | .tup xs => some (.tup (cutA xs lo hi), s)
  | .ro xs => some (.loc s.length, s ++ [.lst (cutA xs lo hi)])
  | .str z => if z.length ≤ sizeLine then some (.str (cutS z lo hi), s) else none
  | .loc k => match s[k]? with
    | some (.lst xs) => some (.loc s.length, s ++ [.lst (cutA xs lo hi)])
    | _ => none
  | _ => none
theorem RpL.cut {w : Wd} {ρ : Nat → Addr} {n : Nat} {H : Hp} {vs : List V} {ds : List D} (r : RpL w ρ n H vs ds) (lo hi : Option Int) : RpL w ρ n H (cutV vs lo hi) (cutA ds lo hi) := by
  unfold cutV cutA
  rw [RpL.length r]
  exact RpL.take _ (RpL.drop _ r)
theorem cut_whole {α : Type} {xs : List α} {lo hi : Option Int} (h : HT.sIx xs.length 0 lo = 0 ∧ HT.sIx xs.length xs.length hi = xs.length) : cutA xs lo hi = xs := by
  unfold cutA
  rw [h.1, h.2]
  simp
theorem sl_all : SlR X (fun x lo hi H Q => ∃ ρ s dx, RS (wd X) ρ H s ∧ Rp (wd X) ρ s.length H x dx ∧ RQ (wd X) (Rp (wd X)) E0 ρ s.length H (.ofO (pSl dx lo hi s)) Q) := by
  intro pins s σ H x v vl vu lo hi sl Q I rx hsl pl pu h
  obtain ⟨ρ, st, dx, hs, hx, q⟩ := h
  unfold pSl at q
  split at q
  · rename_i xs
    obtain ⟨a, vs, rfl, sq, r⟩ := hx.tup_
    refine sl_tupA pins s σ H _ v vl vu lo hi sl Q I rx hsl pl pu ⟨a, vs, rfl, sq.sqT, fun e => ?_, fun _ p hp => RQ.tup q hs (r.cut lo hi) hp⟩
    have e2 : cutA xs lo hi = xs := cut_whole (by rw [← RpL.length r]; exact e)
    rw [e2] at q
    exact RQ.val q hs hx
  · rename_i xs
    obtain ⟨a, vs, rfl, sq, r⟩ := hx.ro_
    exact sl_list pins s σ H _ v vl vu lo hi sl Q I rx hsl pl pu ⟨a, vs, rfl, sq.sqL, fun p hp => RQ.obj q hs ⟨_, rfl, r.cut lo hi⟩ hp⟩
  · rename_i z
    split at q
    · rename_i hl
      exact sl_str pins s σ H _ v vl vu lo hi sl Q I rx hsl pl pu ⟨z, hx.str_, hl, RQ.val q hs (Rp.str _)⟩
    · exact q.elim
  · rename_i k
    obtain ⟨_, rfl⟩ := hx.loc_
    split at q
    · rename_i xs e0
      obtain ⟨ho, h1, vs, rfl, r⟩ := hs.get e0
      exact sl_list pins s σ H _ v vl vu lo hi sl Q I rx hsl pl pu ⟨_, vs, rfl, SqL.of h1, fun p hp => RQ.obj q hs ⟨_, rfl, r.cut lo hi⟩ hp⟩
    · exact q.elim
  · exact q.elim
def RO1 : Rl (Option Int) (Option Int) := fun _ _ _ b a => b = a
abbrev MO (X : Cx) (W : WX) (e : Option Expr) (m : EM (Option Int)) : Prop := PO X e (tM (wd X) RO1 W m)
def oNone : EM (Option Int) := fun _ s => .ok none s
def oSome (m : EM D) : EM (Option Int) := fun E s => (m E s).bind fun d s1 => match d with
  | .int i => .ok (some i) s1
  | _ => .err
theorem PO.imp {X : Cx} {e : Option Expr} {t t' : TO} (h : PO X e t) (hi : ∀ σ H Q, t' σ H Q → t σ H Q) : PO X e t' := ⟨fun pins s σ H Q I q => h.run pins s σ H Q I (hi _ _ _ q)⟩
theorem mo_none : MO X W none oNone := PO.imp po_none fun σ H Q ⟨ρ, E, s, hs, he, h⟩ => h ρ H none Lat.refl hs rfl
theorem mo_some {e : Expr} {m : EM D} (h : ME X W e m) : MO X W (some e) (oSome m) := by
  refine PO.imp (po_some h) fun σ H Q h => ?_
  obtain ⟨ρ, E, s, hs, he, h⟩ := tM.bind (R1 := Rp (wd X)) (m := m) (f := fun d E s1 => match d with | .int i => Res.ok (some i) s1 | _ => .err) h
  refine ⟨ρ, E, s, hs, he, RQ.mono h ?_⟩
  rintro x H1 ⟨ρ1, E1, s1, dx, hs1, he1, rx, hq⟩
  cases dx with
  | int i => exact ⟨i, rx.int_, hq ρ1 H1 _ Lat.refl hs1 rfl⟩
  | _ => exact hq.elim
def eSl (a : EM D) (lo hi : EM (Option Int)) : EM D := fun E s => (a E s).bind fun x s1 => (lo E s1).bind fun l s2 => (hi E s2).bind fun h s3 => .ofO (pSl x l h s3)
theorem me_sl {e : Expr} {lo hi : Option Expr} {m : EM D} {ml mh : EM (Option Int)} {p2 pos : Pos} (he : ME X W e m) (hl : MO X W lo ml) (hh : MO X W hi mh) : ME X W (.Subscript e (.Slice lo hi none p2) pos) (eSl m ml mh) := by
  refine PE.imp (pe_slice sl_all he hl hh) fun σ H Q h => ?_
  obtain ⟨ρ, E, s, hs, he, h⟩ := tM.bind (R1 := Rp (wd X)) (m := m) (f := fun x E s1 => (ml E s1).bind fun l s2 => (mh E s2).bind fun h s3 => .ofO (pSl x l h s3)) h
  refine ⟨ρ, E, s, hs, he, RQ.mono h ?_⟩
  rintro x H1 ⟨ρ1, E1, s1, dx, hs1, he1, rx, hq⟩
  refine ⟨ρ1, E1, s1, hs1, he1, RQ.mono (RQ.bind (R1 := RO1) hq) ?_⟩
  rintro l H2 ⟨ρ2, s2, l', L2, hs2, el, hq2⟩
  cases el
  refine ⟨ρ2, E1, s2, hs2, he1.lat L2, RQ.mono (RQ.bind (R1 := RO1) hq2) ?_⟩
  rintro u H3 ⟨ρ3, s3, u', L3, hs3, eu, hq3⟩
  cases eu
  exact ⟨ρ3, s3, dx, hs3, Rp.lat L3 _ (Rp.lat L2 _ rx), RQ.ofO hq3⟩
/-- xs[::-1] of a list: a fresh list -/
def fRev (m : EM D) : EM (List D) := fun E s => (m E s).bind fun d s1 => match d with
  | .ro xs => .ok xs.reverse s1
  | .loc k => match s1[k]? with
    | some (.lst xs) => .ok xs.reverse s1
    | _ => .err
  | _ => .err
/-- a fresh list at hand -/
theorem RF.new {w : Wd} {W : XK} {ρ : Nat → Addr} {H : Hp} {s : Sto} {vs : List V} {ds : List D} {Q : VK} {p : Addr} (h : RF w W ρ s.length H (.ok ds s) Q) (hs : RS w ρ H s) (hr : RpL w ρ s.length H vs ds) (hp : H p = none) : Q (.ref p) (upd H p (.lst vs)) :=
  h ρ _ p vs (Lat.fresh hp) (hs.fresh hp) hp (fun k hk => hs.ne hp hk) upd_same (RpL.lat (Lat.fresh hp) _ hr)
theorem RF.lat {w : Wd} {W : XK} {ρ ρ1 : Nat → Addr} {n n1 : Nat} {H H1 : Hp} {r : Res (List D)} {Q : VK} (h : RF w W ρ n H r Q) (L : Lat ρ n H ρ1 n1 H1) : RF w W ρ1 n1 H1 r Q := by
  cases r with
  | ok a s' => exact fun ρ' H' a vs L' hs h0 hn e hr => h ρ' H' a vs (L.trans L') hs (L.dom _ h0) hn e hr
  | exc x s' => exact fun ρ' H' c L' hs hc => h ρ' H' c (L.trans L') hs hc
  | err => exact h
theorem RF.bind {γ δ : Type} {w : Wd} {R1 : Rl γ δ} {W : XK} {ρ : Nat → Addr} {n : Nat} {H : Hp} {Q : VK} {r : Res γ} {f : γ → Sto → Res (List D)} (h : RF w W ρ n H (r.bind f) Q) :
    RQ w R1 W ρ n H r fun b H1 => ∃ ρ1 s1 a, Lat ρ n H ρ1 s1.length H1 ∧ RS w ρ1 H1 s1 ∧ R1 ρ1 s1.length H1 b a ∧ RF w W ρ1 s1.length H1 (f a s1) Q := by
  cases r with
  | ok a s' => exact fun ρ' H' b L' hs hr => ⟨ρ', s', a, L', hs, hr, RF.lat h L'⟩
  | exc x s' => exact h
  | err => exact h
theorem tF.bind {γ δ : Type} {w : Wd} {R1 : Rl γ δ} {σ : St} {H : Hp} {Q : VK} {m : EM γ} {f : γ → EM (List D)} (h : tF w W (fun E s => (m E s).bind fun a s1 => f a E s1) σ H Q) :
    tM w R1 W m σ H fun b H1 => ∃ ρ1 E s1 a, RS w ρ1 H1 s1 ∧ RE w ρ1 s1.length H1 σ E ∧ R1 ρ1 s1.length H1 b a ∧ RF w (WE W σ) ρ1 s1.length H1 (f a E s1) Q := by
  obtain ⟨ρ, E, s, hs, he, h⟩ := h
  refine ⟨ρ, E, s, hs, he, RQ.mono (RF.bind (R1 := R1) h) ?_⟩
  rintro b H' ⟨ρ1, s1, a, L, hs1, hr, hq⟩
  exact ⟨ρ1, E, s1, a, hs1, he.lat L, hr, hq⟩
theorem mf_rev {e : Expr} {m : EM D} {k : Nat} {p1 p2 p3 pos : Pos} (he : ME X W e m) : MF X W (.Subscript e (.Slice none none (some (.UnaryOp .USub (.Constant (.int 1) k p1) p2)) p3) pos) (fRev m) := by
  refine PE.imp (pe_revL he) fun σ H Q h => ?_
  obtain ⟨ρ, E, s, hs, he, h⟩ := tF.bind (R1 := Rp (wd X)) (m := m) (f := fun d E s1 => match d with | .ro xs => Res.ok xs.reverse s1 | .loc k => (match s1[k]? with | some (.lst xs) => Res.ok xs.reverse s1 | _ => .err) | _ => .err) h
  refine ⟨ρ, E, s, hs, he, RQ.mono h ?_⟩
  rintro x H1 ⟨ρ1, E1, s1, dx, hs1, he1, rx, hq⟩
  cases dx with
  | ro xs =>
    obtain ⟨a, vs, rfl, sq, r⟩ := rx.ro_
    exact ⟨a, vs, rfl, sq.sqL, fun p hp => RF.new hq hs1 r.reverse hp⟩
  | loc k =>
    obtain ⟨_, rfl⟩ := rx.loc_
    simp only at hq
    split at hq
    · rename_i xs e0
      obtain ⟨ho, h1, vs, rfl, r⟩ := hs1.get e0
      exact ⟨_, vs, rfl, SqL.of h1, fun p hp => RF.new hq hs1 r.reverse hp⟩
    · exact hq.elim
  | _ => exact hq.elim

/-! ### built-in functions of one list -/
/-- only lists -/
def RLl (w : Wd) : Rl (List D) V := fun ρ n H v ds => ∃ a vs, v = .ref a ∧ SqL w.K H a vs ∧ RpL w ρ n H vs ds
abbrev MLl (X : Cx) (W : WX) (e : Expr) (m : EM (List D)) : Prop := PE X e (tM (wd X) (RLl (wd X)) W m)
def lstD (d : D) (s : Sto) : Option (List D) := match d with
  | .ro xs => some xs
  | .loc k => match s[k]? with
    | some (.lst xs) => some xs
    | _ => none
  | _ => none
theorem lstD_ok {w : Wd} {ρ : Nat → Addr} {H : Hp} {s : Sto} {v : V} {d : D} {ds : List D} (hs : RS w ρ H s) (hr : Rp w ρ s.length H v d) (h : lstD d s = some ds) : RLl w ρ s.length H v ds := by
  cases d with
  | ro xs =>
    obtain ⟨a, vs, rfl, hq, hl⟩ := hr.ro_
    simp only [lstD] at h; cases h
    exact ⟨a, vs, rfl, hq.sqL, hl⟩
  | loc k =>
    obtain ⟨_, rfl⟩ := hr.loc_
    simp only [lstD] at h
    split at h
    · rename_i xs e
      cases h
      obtain ⟨ho, e1, vs, rfl, hl⟩ := hs.get e
      exact ⟨_, vs, rfl, SqL.of e1, hl⟩
    · cases h
  | _ => simp only [lstD] at h; cases h
def lOfL (m : EM D) : EM (List D) := fun E s => (m E s).bind fun d s1 => match lstD d s1 with
  | some ds => .ok ds s1
  | none => .err
theorem mll_of {e : Expr} {m : EM D} (h : ME X W e m) : MLl X W e (lOfL m) := by
  refine PE.imp h ?_
  intro σ H Q h
  obtain ⟨ρ, E, s, hs, he, h⟩ := tM.bind (R1 := Rp (wd X)) (m := m) (f := fun d E s1 => match lstD d s1 with | some ds => Res.ok ds s1 | none => .err) h
  refine ⟨ρ, E, s, hs, he, RQ.mono h ?_⟩
  rintro x H1 ⟨ρ1, E1, s1, dx, hs1, he1, rx, hq⟩
  split at hq
  · rename_i ds e
    exact hq ρ1 H1 x Lat.refl hs1 (lstD_ok hs1 rx e)
  · exact hq.elim
theorem mll_of_mf {e : Expr} {m : EM (List D)} (h : MF X W e m) : MLl X W e m := by
  refine PE.imp h ?_
  rintro σ H Q ⟨ρ, E, s, hs, he, h⟩
  refine ⟨ρ, E, s, hs, he, ?_⟩
  cases q : m E s with
  | ok ds s' =>
    rw [q] at h
    exact fun ρ' H' a vs L hs' _ _ e r => h ρ' H' (.ref a) L hs' ⟨a, vs, rfl, SqL.of e, r⟩
  | exc x s' => rw [q] at h; exact h
  | err => rw [q] at h; exact h

def eL (p : List D → Option D) (m : EM (List D)) : EM D := fun E s => (m E s).bind fun ds s1 => match p ds with
  | some d => .ok d s1
  | none => .err
theorem tM_L {w : Wd} {R : Rl (List D) V} {p : List D → Option D} {m : EM (List D)} {σ : St} {H : Hp} {Q : VK} (h : tM w (Rp w) W (eL p m) σ H Q) :
    tM w R W m σ H fun b H1 => ∃ ρ1 s1 ds d, RS w ρ1 H1 s1 ∧ R ρ1 s1.length H1 b ds ∧ p ds = some d ∧ RQ w (Rp w) E0 ρ1 s1.length H1 (.ofO (some (d, s1))) Q := by
  obtain ⟨ρ, E, s, hs, he, h⟩ := tM.bind (R1 := R) (m := m) (f := fun ds E s1 => match p ds with | some d => Res.ok d s1 | none => .err) h
  refine ⟨ρ, E, s, hs, he, RQ.mono h ?_⟩
  rintro x H1 ⟨ρ1, E1, s1, ds, hs1, he1, rx, hq⟩
  split at hq
  · rename_i d e
    exact ⟨ρ1, s1, ds, d, hs1, rx, e, hq⟩
  · exact hq.elim
def intsD : List D → Option (List Int)
  | [] => some []
  | .int i :: r => (intsD r).map (i :: ·)
  | _ => none
def blsD : List D → Option (List Bool)
  | [] => some []
  | .bl i :: r => (blsD r).map (i :: ·)
  | _ => none
def strsD : List D → Option (List Str)
  | [] => some []
  | .str i :: r => (strsD r).map (i :: ·)
  | _ => none
section
variable {w : Wd} {ρ : Nat → Addr} {n : Nat} {H : Hp}
theorem intsD_ok : ∀ {vs : List V} {ds : List D} {ns : List Int}, RpL w ρ n H vs ds → intsD ds = some ns → vs = ns.map V.int
  | vs, [], ns, h, e => by rw [h.inv0]; unfold intsD at e; cases e; rfl
  | vs, d :: ds, ns, h, e => by
    obtain ⟨v, r, rfl, h1, h2⟩ := h.inv
    unfold intsD at e
    split at e
    · rename_i heq; cases heq
    · rename_i i r' heq
      cases heq
      cases z : intsD ds with
      | none => rw [z] at e; cases e
      | some ms =>
        rw [z] at e; cases e
        rw [h1.int_, intsD_ok h2 z]; rfl
    · cases e
theorem blsD_ok : ∀ {vs : List V} {ds : List D} {ns : List Bool}, RpL w ρ n H vs ds → blsD ds = some ns → vs = ns.map V.bl
  | vs, [], ns, h, e => by rw [h.inv0]; unfold blsD at e; cases e; rfl
  | vs, d :: ds, ns, h, e => by
    obtain ⟨v, r, rfl, h1, h2⟩ := h.inv
    unfold blsD at e
    split at e
    · rename_i heq; cases heq
    · rename_i i r' heq
      cases heq
      cases z : blsD ds with
      | none => rw [z] at e; cases e
      | some ms =>
        rw [z] at e; cases e
        rw [h1.bl_, blsD_ok h2 z]; rfl
    · cases e
theorem strsD_ok : ∀ {vs : List V} {ds : List D} {ns : List Str}, RpL w ρ n H vs ds → strsD ds = some ns → vs = ns.map V.str
  | vs, [], ns, h, e => by rw [h.inv0]; unfold strsD at e; cases e; rfl
  | vs, d :: ds, ns, h, e => by
    obtain ⟨v, r, rfl, h1, h2⟩ := h.inv
    unfold strsD at e
    split at e
    · rename_i heq; cases heq
    · rename_i i r' heq
      cases heq
      cases z : strsD ds with
      | none => rw [z] at e; cases e
      | some ms =>
        rw [z] at e; cases e
        rw [h1.str_, strsD_ok h2 z]; rfl
    · cases e
theorem RpL.ints : ∀ ns : List Int, RpL w ρ n H (ns.map V.int) (ns.map D.int)
  | [] => RpL.nil
  | i :: r => RpL.cons (Rp.int i) (RpL.ints r)
theorem RpL.strs : ∀ ns : List Str, RpL w ρ n H (ns.map V.str) (ns.map D.str)
  | [] => RpL.nil
  | i :: r => RpL.cons (Rp.str i) (RpL.strs r)
end
/-- built-in functions of one list that give a value: tuple, sum, all, any -/
def lTup : List D → Option D := fun ds => some (.tup ds)
def lSum : List D → Option D := fun ds => (intsD ds).map fun ns => .int ns.sum
def lAll : List D → Option D := fun ds => (blsD ds).map fun bs => .bl (bs.all id)
def lAny : List D → Option D := fun ds => (blsD ds).map fun bs => .bl (bs.any id)
section
variable {e : Expr} {m : EM (List D)} {np pos : Pos}
theorem star1 (h : starEach [e] X.env = [(false, eval e X.env)]) : starEach (e :: []) X.env = (false, eval e X.env) :: starEach [] X.env := h
theorem me_tupL (hm : X.mg "tuple" = none) (hg : Gl X "tuple") (h : ML X W e m) (hst : starEach [e] X.env = [(false, eval e X.env)]) : ME X W (.Call (.Name "tuple" np) [e] [] pos) (eL lTup m) := by
  refine PE.imp (pe_callTy (call_tuple_of (X := X)) hg hm (by decide +kernel) (pa_cons h pa_nil (star1 hst)) (by decide) (by decide) (star1 hst) rfl) fun σ H Q h => ?_
  obtain ⟨ρ, E, s, hs, he, h⟩ := tM_L (R := RLs (wd X)) h
  refine ⟨ρ, E, s, hs, he, RQ.mono h ?_⟩
  rintro x H1 ⟨ρ1, s1, ds, d, hs1, ⟨a, vs, rfl, sq, r⟩, e, q⟩
  cases e
  refine ⟨a, vs, rfl, ?_⟩
  rcases sq with sq | sq
  · exact .inl ⟨sq, fun l hl => RQ.tup q hs1 r hl⟩
  · exact .inr ⟨sq.sqT, q ρ1 H1 _ Lat.refl hs1 (Rp.tup sq r)⟩
end
end
end Y

set_option Elab.async false
set_option linter.all false
set_option maxRecDepth 100000
/-! Y6: built-in functions and methods. -/
namespace SrtO
open PySem PyProof.Rows Srt
section
variable {prog : Program} {w : World} {A : Around} {E : Value → Shared → Prop} {s : Shared}
def ysv : Value → PySem.Str
  | .str x _ => x
  | _ => ⟨#[]⟩
def yltS (v u : Value) : Bool := decide ((ysv v).cps.toList < (ysv u).cps.toList)
theorem yswo_str : Swo yltS := by
  refine ⟨fun x y h => ?_, fun x y z h1 h2 => ?_⟩
  · have a := of_decide_eq_true h
    exact decide_eq_false (List.lt_asymm a)
  · have a := List.not_lt.mp (of_decide_eq_false h1)
    have b := List.not_lt.mp (of_decide_eq_false h2)
    exact decide_eq_false (List.not_lt.mpr (List.le_trans a b))
theorem ystrs_mem : ∀ {vs : List Value} {ns : List PySem.Str}, StrsAre vs ns → ∀ v ∈ vs, ∃ i t, v = Value.str i t
  | _, _, .nil, v, h => absurd h (by simp)
  | _, _, .cons n t r, v, h => by
    rcases List.mem_cons.mp h with e | h
    · exact ⟨n, t, e⟩
    · exact ystrs_mem r v h
theorem ystrs_sv : ∀ {vs : List Value}, (∀ v ∈ vs, ∃ i t, v = Value.str i t) → StrsAre vs (vs.map ysv)
  | [], _ => .nil
  | v :: vs, h => by
    obtain ⟨i, t, e⟩ := h v List.mem_cons_self
    subst e
    exact .cons i t (ystrs_sv fun u hu => h u (List.mem_cons_of_mem _ hu))
theorem ysv_strs : ∀ {vs : List Value} {ns : List PySem.Str}, StrsAre vs ns → vs.map ysv = ns
  | _, _, .nil => rfl
  | _, _, .cons n t r => congrArg (n :: ·) (ysv_strs r)
theorem ystr_cmp {vs : List Value} {ns : List PySem.Str} (hI : StrsAre vs ns) : Cmp prog w A s oneType' (fun p => p.1 ∈ vs) (lt2 yltS) := by
  intro p q hm hm'
  obtain ⟨a, t, e⟩ := ystrs_mem hI _ hm
  obtain ⟨b, u, e'⟩ := ystrs_mem hI _ hm'
  show wpAny (model prog w) A (keyLt' oneType' p.1 q.1) (fun r s' => s' = s ∧ r = yltS p.1 q.1) (fun _ _ => False) s
  rw [e, e', keyLt'_oneType]
  exact oneLt_str ⟨rfl, rfl⟩
theorem ystrs_sortable {a : Addr} {vs : List Value} {ns : List PySem.Str} (hI : StrsAre vs ns) (h2 : 2 ≤ vs.length) : SortableO prog w A s a vs yltS := by
  intro h' _
  refine ⟨oneType', fun Q E hq => ?_, ystr_cmp hI⟩
  match vs, hI, h2 with
  | v1 :: v2 :: rest, hI, _ =>
    rw [keyKind_strs hI]
    exact wpAny_pure hq
  | [], _, h => exact absurd h (by decide)
  | [v], _, h => exact absurd h (by simp)
theorem ystrs_out {vs out : List Value} {ns : List PySem.Str} (hI : StrsAre vs ns) (hs : Srtd yltS out) (hb : Stb yltS out vs) : StrsAre out (out.map ysv) ∧ (out.map ysv).Perm ns ∧ (out.map ysv).Pairwise (fun x y => x.cps.toList ≤ y.cps.toList) := by
  refine ⟨ystrs_sv fun v hv => ystrs_mem hI v (hb.perm.mem_iff.mp hv), ?_, ?_⟩
  · have q := hb.perm.map ysv
    rw [ysv_strs hI] at q
    exact q
  · exact List.pairwise_map.mpr (hs.imp fun {x y} h => List.not_lt.mp (of_decide_eq_false h))
end
end SrtO
namespace Y
open PySem L2

/-! ### sorting ints, texts -/
def leS (x y : Str) : Bool := decide (x.cps.toList ≤ y.cps.toList)
def leI (x y : Int) : Bool := decide (x ≤ y)
def srtI (l : List Int) : List Int := l.mergeSort leI
def srtS (l : List Str) : List Str := l.mergeSort leS
theorem str_eq {x y : Str} (h : x.cps.toList = y.cps.toList) : x = y := by
  cases x; cases y
  simp only at h
  rw [Array.toList_inj.mp h]
theorem srtI_uniq {l m : List Int} (hp : m.Perm l) (hs : m.Pairwise (· ≤ ·)) : m = srtI l := by
  have h1 : (srtI l).Pairwise (· ≤ ·) := (List.pairwise_mergeSort (le := leI) (fun a b c h1 h2 => by simp only [leI, decide_eq_true_eq] at *; omega) (fun a b => by simp only [leI, Bool.or_eq_true, decide_eq_true_eq]; omega) l).imp fun {a b} h => by simpa [leI] using h
  exact List.Perm.eq_of_pairwise (fun a b _ _ x y => Int.le_antisymm x y) hs h1 (hp.trans (List.mergeSort_perm l leI).symm)
theorem srtS_uniq {l m : List Str} (hp : m.Perm l) (hs : m.Pairwise (fun x y => x.cps.toList ≤ y.cps.toList)) : m = srtS l := by
  have h1 : (srtS l).Pairwise (fun x y => x.cps.toList ≤ y.cps.toList) := (List.pairwise_mergeSort (le := leS) (fun a b c h1 h2 => by simp only [leS, decide_eq_true_eq] at *; exact List.le_trans h1 h2) (fun a b => by simp only [leS, Bool.or_eq_true, decide_eq_true_eq]; exact List.le_total _ _) l).imp fun {a b} h => by simpa [leS] using h
  exact List.Perm.eq_of_pairwise (fun a b _ _ x y => str_eq (List.le_antisymm x y)) hs h1 (hp.trans (List.mergeSort_perm l leS).symm)
theorem srtS_len (l : List Str) : (srtS l).length = l.length := (List.mergeSort_perm l leS).length_eq
theorem srtI_len (l : List Int) : (srtI l).length = l.length := (List.mergeSort_perm l leI).length_eq
theorem cr_sortedS' {X : Cx} : CallR X (.builtin "sorted") (fun vs H Q => ∃ (a : Addr) (ns : List Str), vs = [V.ref a] ∧ SqL X.K H a (ns.map V.str) ∧ ∀ p, H p = none → Q (.ref p) (upd H p (.lst ((srtS ns).map V.str)))) := by
  intro pins s σ H vs us Q I r h
  obtain ⟨a, ns, rfl, hs, q⟩ := h
  obtain ⟨its, rv, hl, hz⟩ := I.list hs
  rw [Vals.ref1 r]
  have hi := rv.strs
  refine SrtO.sorted_ord SrtO.yswo_str hl.isList (by rw [← rv.length]; exact hz) (fun h2 h₁ a' _ _ => SrtO.ystrs_sortable hi h2) fun out h1 h2 => ?_
  obtain ⟨k1, k2, k3⟩ := SrtO.ystrs_out hi h1 h2
  have e := srtS_uniq k2 k3
  obtain ⟨ep, he'⟩ := PyProof.Rows.sortedAll_at s.heap its out.toArray
  have hlen : ((out.map SrtO.ysv).map V.str).length ≤ sizeLine := by
    rw [List.length_map, k2.length_eq]
    rw [List.length_map] at hz
    exact hz
  refine ⟨.ref _, upd H (s.heap.objs.size + 1) (.lst ((out.map SrtO.ysv).map V.str)), I.laid (t' := s.toks) (fun _ _ => PyProof.Rows.sortedAll_old) (Nat.le_succ _) ⟨hlen, out, ep, vals_of_strs k1, he'⟩, rfl, ?_⟩
  rw [e]
  exact q _ (I.hok.fresh (Nat.le_succ _))
theorem cr_sortedI' {X : Cx} : CallR X (.builtin "sorted") (fun vs H Q => ∃ (a : Addr) (ns : List Int), vs = [V.ref a] ∧ SqL X.K H a (ns.map V.int) ∧ ∀ p, H p = none → Q (.ref p) (upd H p (.lst ((srtI ns).map V.int)))) := by
  intro pins s σ H vs us Q I r h
  obtain ⟨a, ns, rfl, hs, q⟩ := h
  exact cr_sortedI pins s σ H [V.ref a] us Q I r ⟨a, ns, rfl, hs, fun ns' p h1 h2 hp => by rw [srtI_uniq h1 h2]; exact q p hp⟩
section
open PySem.Spec PyProof.Rows
theorem rising_pw : ∀ (l : List Str) (p : Str), risingS p l = true → (p :: l).Pairwise (fun x y => x.cps.toList ≤ y.cps.toList)
  | [], p, _ => List.pairwise_singleton _ _
  | x :: r, p, h => by
    unfold risingS at h
    rw [Bool.and_eq_true] at h
    have ih := rising_pw r x h.2
    have hpx : p.cps.toList ≤ x.cps.toList := by
      have h1 := h.1
      rw [Bool.not_eq_true', ltCps_eq] at h1
      exact List.not_lt.mp (of_decide_eq_false h1)
    refine List.pairwise_cons.mpr ⟨fun y hy => ?_, ih⟩
    rcases List.mem_cons.mp hy with e | hy
    · rw [e]; exact hpx
    · exact List.le_trans hpx ((List.pairwise_cons.mp ih).1 y hy)
theorem sortedS_pw : ∀ (l : List Str), sortedS l = true → l.Pairwise (fun x y => x.cps.toList ≤ y.cps.toList)
  | [], _ => List.Pairwise.nil
  | x :: r, h => rising_pw r x h
end
/-- sorted: a fresh list -/
def srtD (ds : List D) : Option (List D) := match intsD ds with
  | some ns => some ((srtI ns).map D.int)
  | none => match strsD ds with
    | some ns => some ((srtS ns).map D.str)
    | none => none
def keysS (kvs : List (Key × D)) : Option (List Str) := kvs.mapM fun kv => match kv.1 with
  | .inr x => some x
  | .inl _ => none
/-- sorted(a dict with text keys): its keys -/
def fSorted (m : EM D) : EM (List D) := fun E s => (m E s).bind fun d s1 => match lstD d s1 with
  | some ds => match srtD ds with
    | some es => .ok es s1
    | none => .err
  | none => match d with
    | .loc k => match s1[k]? with
      | some (.dic kvs) => match keysS kvs with
        | some ks => if ks.length < 64 then .ok ((srtS ks).map D.str) s1 else .err
        | none => .err
      | _ => .err
    | _ => .err
def fSortedL (m : EM (List D)) : EM (List D) := fun E s => (m E s).bind fun ds s1 => match srtD ds with
  | some es => .ok es s1
  | none => .err
def fList (m : EM (List D)) : EM (List D) := m
section
variable {X : Cx} {W : WX} {e : Expr} {np pos : Pos}
theorem callB_L {x : Str} {id : String} {R : Rl (List D) V} {r : List V → Hp → VK → Prop} {m : EM (List D)} {t' : TE} (hc : CallR X (.builtin id) r) (hg : Gl X x) (hm : X.mg x = none) (hv : bootBuiltins x = some (.builtin id)) (hn : x ≠ "__name__") (hdb : (x == ("__debug__" : Str)) = false)
    (h : PE X e (tM (wd X) R W m)) (hst : starEach [e] X.env = [(false, eval e X.env)]) (hi : ∀ σ H Q, t' σ H Q → tM (wd X) R W m σ H fun v H1 => r [v] H1 Q) : PE X (.Call (.Name x np) [e] [] pos) t' :=
  PE.imp (pe_callB hc hg hm hv (pa_cons h pa_nil (star1 hst)) hn hdb (star1 hst) rfl) hi
theorem callTy_L {x : Str} {T : String} {R : Rl (List D) V} {r : List V → Hp → VK → Prop} {m : EM (List D)} {t' : TE} (hc : CallR X (.type T) r) (hg : Gl X x) (hm : X.mg x = none) (hv : bootBuiltins x = some (.type T)) (hn : x ≠ "__name__") (hdb : (x == ("__debug__" : Str)) = false)
    (h : PE X e (tM (wd X) R W m)) (hst : starEach [e] X.env = [(false, eval e X.env)]) (hi : ∀ σ H Q, t' σ H Q → tM (wd X) R W m σ H fun v H1 => r [v] H1 Q) : PE X (.Call (.Name x np) [e] [] pos) t' :=
  PE.imp (pe_callTy hc hg hm hv (pa_cons h pa_nil (star1 hst)) hn hdb (star1 hst) rfl) hi
theorem callB_V {x : Str} {id : String} {r : List V → Hp → VK → Prop} {m : EM D} {t' : TE} (hc : CallR X (.builtin id) r) (hg : Gl X x) (hm : X.mg x = none) (hv : bootBuiltins x = some (.builtin id)) (hn : x ≠ "__name__") (hdb : (x == ("__debug__" : Str)) = false)
    (h : ME X W e m) (hst : starEach [e] X.env = [(false, eval e X.env)]) (hi : ∀ σ H Q, t' σ H Q → tM (wd X) (Rp (wd X)) W m σ H fun v H1 => r [v] H1 Q) : PE X (.Call (.Name x np) [e] [] pos) t' :=
  PE.imp (pe_callB hc hg hm hv (pa_cons h pa_nil (star1 hst)) hn hdb (star1 hst) rfl) hi
theorem me_sumL {m : EM (List D)} (hc : X.calm = true) (hm : X.mg "sum" = none) (hg : Gl X "sum") (h : MLl X W e m) (hst : starEach [e] X.env = [(false, eval e X.env)]) : ME X W (.Call (.Name "sum" np) [e] [] pos) (eL lSum m) := by
  refine callB_L (cr_sum hc) hg hm (by decide +kernel) (by decide) (by decide) h hst fun σ H Q h => ?_
  obtain ⟨ρ, E, s, hs, he, h⟩ := tM_L (R := RLl (wd X)) h
  refine ⟨ρ, E, s, hs, he, RQ.mono h ?_⟩
  rintro x H1 ⟨ρ1, s1, ds, d, hs1, ⟨a, vs, rfl, sq, r⟩, e, q⟩
  unfold lSum at e
  cases z : intsD ds with
  | none => rw [z] at e; cases e
  | some ns =>
    rw [z] at e; cases e
    exact ⟨a, ns, rfl, by rw [← intsD_ok r z]; exact sq, RQ.val q hs1 (Rp.int _)⟩
theorem me_allL {m : EM (List D)} (hc : X.calm = true) (hm : X.mg "all" = none) (hg : Gl X "all") (h : MLl X W e m) (hst : starEach [e] X.env = [(false, eval e X.env)]) : ME X W (.Call (.Name "all" np) [e] [] pos) (eL lAll m) := by
  refine callB_L (cr_all hc) hg hm (by decide +kernel) (by decide) (by decide) h hst fun σ H Q h => ?_
  obtain ⟨ρ, E, s, hs, he, h⟩ := tM_L (R := RLl (wd X)) h
  refine ⟨ρ, E, s, hs, he, RQ.mono h ?_⟩
  rintro x H1 ⟨ρ1, s1, ds, d, hs1, ⟨a, vs, rfl, sq, r⟩, e, q⟩
  unfold lAll at e
  cases z : blsD ds with
  | none => rw [z] at e; cases e
  | some ns =>
    rw [z] at e; cases e
    exact ⟨a, ns, rfl, by rw [← blsD_ok r z]; exact sq, RQ.val q hs1 (Rp.bl _)⟩
theorem me_anyL {m : EM (List D)} (hc : X.calm = true) (hm : X.mg "any" = none) (hg : Gl X "any") (h : MLl X W e m) (hst : starEach [e] X.env = [(false, eval e X.env)]) : ME X W (.Call (.Name "any" np) [e] [] pos) (eL lAny m) := by
  refine callB_L (cr_any hc) hg hm (by decide +kernel) (by decide) (by decide) h hst fun σ H Q h => ?_
  obtain ⟨ρ, E, s, hs, he, h⟩ := tM_L (R := RLl (wd X)) h
  refine ⟨ρ, E, s, hs, he, RQ.mono h ?_⟩
  rintro x H1 ⟨ρ1, s1, ds, d, hs1, ⟨a, vs, rfl, sq, r⟩, e, q⟩
  unfold lAny at e
  cases z : blsD ds with
  | none => rw [z] at e; cases e
  | some ns =>
    rw [z] at e; cases e
    exact ⟨a, ns, rfl, by rw [← blsD_ok r z]; exact sq, RQ.val q hs1 (Rp.bl _)⟩
theorem mf_listL {m : EM (List D)} (hm : X.mg "list" = none) (hg : Gl X "list") (h : ML X W e m) (hst : starEach [e] X.env = [(false, eval e X.env)]) : MF X W (.Call (.Name "list" np) [e] [] pos) (fList m) := by
  refine callTy_L (R := RLs (wd X)) call_list_of hg hm (by decide +kernel) (by decide) (by decide) h hst fun σ H Q h => ?_
  obtain ⟨ρ, E, s, hs, he, h⟩ := h
  refine ⟨ρ, E, s, hs, he, ?_⟩
  unfold fList at h
  cases q : m E s with
  | ok ds s' =>
    rw [q] at h
    rintro ρ' H' v L hs' ⟨a, vs, rfl, sq, r⟩
    exact ⟨a, vs, rfl, sq.imp id SqU.sqT, fun l hl => h ρ' _ l vs (L.trans (Lat.fresh hl)) (hs'.fresh hl) (L.dom _ hl) (fun k hk => hs'.ne hl hk) upd_same (RpL.lat (Lat.fresh hl) _ r)⟩
  | exc x s' => rw [q] at h; exact h
  | err => rw [q] at h; exact h
theorem srtD_run {ρ : Nat → Addr} {H : Hp} {s : Sto} {a : Addr} {vs : List V} {ds es : List D} {WW : XK} {Q : VK} (hs : RS (wd X) ρ H s) (sq : SqL X.K H a vs) (r : RpL (wd X) ρ s.length H vs ds) (e : srtD ds = some es) (h : RF (wd X) WW ρ s.length H (.ok es s) Q) :
    (∃ (b : Addr) (ns : List Str), [V.ref a] = [V.ref b] ∧ SqL X.K H b (ns.map V.str) ∧ ∀ p, H p = none → Q (.ref p) (upd H p (.lst ((srtS ns).map V.str)))) ∨
    (∃ (b : Addr) (ns : List Int), [V.ref a] = [V.ref b] ∧ SqL X.K H b (ns.map V.int) ∧ ∀ p, H p = none → Q (.ref p) (upd H p (.lst ((srtI ns).map V.int)))) := by
  unfold srtD at e
  split at e
  · rename_i ns z
    cases e
    exact .inr ⟨a, ns, rfl, by rw [← intsD_ok r z]; exact sq, fun p hp => RF.new h hs (RpL.ints _) hp⟩
  · split at e
    · rename_i ns z
      cases e
      exact .inl ⟨a, ns, rfl, by rw [← strsD_ok r z]; exact sq, fun p hp => RF.new h hs (RpL.strs _) hp⟩
    · cases e
theorem mf_sortedL {m : EM (List D)} (hm : X.mg "sorted" = none) (hg : Gl X "sorted") (h : MLl X W e m) (hst : starEach [e] X.env = [(false, eval e X.env)]) : MF X W (.Call (.Name "sorted" np) [e] [] pos) (fSortedL m) := by
  refine callB_L (R := RLl (wd X)) (cr_sortedS'.or cr_sortedI') hg hm (by decide +kernel) (by decide) (by decide) h hst fun σ H Q h => ?_
  obtain ⟨ρ, E, s, hs, he, h⟩ := tF.bind (R1 := RLl (wd X)) (m := m) (f := fun ds E s1 => match srtD ds with | some es => Res.ok es s1 | none => .err) h
  refine ⟨ρ, E, s, hs, he, RQ.mono h ?_⟩
  rintro x H1 ⟨ρ1, E1, s1, ds, hs1, he1, ⟨a, vs, rfl, sq, r⟩, hq⟩
  split at hq
  · rename_i es e
    exact srtD_run hs1 sq r e hq
  · exact hq.elim
theorem keysS_ok : ∀ {kvs : List (Key × D)} {ks : List Str}, keysS kvs = some ks → kvs.map (·.1) = ks.map Sum.inr
  | [], ks, h => by simp [keysS] at h; subst h; rfl
  | (.inr x, d) :: r, ks, h => by
    simp only [keysS, List.mapM_cons, Option.pure_def, Option.bind_eq_bind, Option.bind_some] at h
    cases z : List.mapM (m := Option) (fun kv : Key × D => match kv.1 with | .inr x => some x | .inl _ => none) r with
    | none => rw [z] at h; cases h
    | some js =>
      rw [z] at h
      simp at h
      subst h
      rw [List.map_cons, List.map_cons, keysS_ok (ks := js) z]
  | (.inl x, d) :: r, ks, h => by
    simp only [keysS, List.mapM_cons, Option.pure_def, Option.bind_eq_bind, Option.bind_none] at h
    cases h
theorem mf_sorted {m : EM D} (hc : X.calm = true) (hm : X.mg "sorted" = none) (hg : Gl X "sorted") (h : ME X W e m) (hst : starEach [e] X.env = [(false, eval e X.env)]) : MF X W (.Call (.Name "sorted" np) [e] [] pos) (fSorted m) := by
  refine callB_V ((cr_sortedS'.or cr_sortedI').or (call_sortedD hc)) hg hm (by decide +kernel) (by decide) (by decide) h hst fun σ H Q h => ?_
  unfold fSorted at h
  obtain ⟨ρ, E, s, hs, he, h⟩ := tF.bind (R1 := Rp (wd X)) (m := m) h
  refine ⟨ρ, E, s, hs, he, RQ.mono h ?_⟩
  rintro x H1 ⟨ρ1, E1, s1, d, hs1, he1, rd, hq⟩
  split at hq
  · rename_i ds e
    obtain ⟨a, vs, rfl, sq, r⟩ := lstD_ok hs1 rd e
    split at hq
    · rename_i es e2
      exact .inl (srtD_run hs1 sq r e2 hq)
    · exact hq.elim
  · split at hq
    · rename_i k _
      split at hq
      · rename_i kvs e0
        split at hq
        · rename_i ks ek
          split at hq
          · rename_i h64
            obtain ⟨_, rfl⟩ := rd.loc_
            obtain ⟨ho, h1, vs, rfl, r⟩ := hs1.get e0
            refine .inr ⟨_, vs, ks, rfl, .inl h1, by rw [r.keys]; exact keysS_ok ek, h64, fun ys p hp hsr hn => ?_⟩
            rw [srtS_uniq hp (sortedS_pw _ hsr)]
            exact RF.new hq hs1 (RpL.strs _) hn
          · exact hq.elim
        · exact hq.elim
      · exact hq.elim
    · exact hq.elim
end

/-! ### built-in functions by values -/
def pLen : PL
  | [.str x], s => if x.length ≤ sizeLine then some (.int x.length, s) else none
  | [.tup xs], s => some (.int xs.length, s)
  | [.ro xs], s => some (.int xs.length, s)
  | [.loc k], s => match s[k]? with
    | some (.lst xs) => some (.int xs.length, s)
    | some (.dic kvs) => some (.int kvs.length, s)
    | _ => none
  | _, _ => none
def pAbs : PL
  | [.int i], s => some (.int (if i < 0 then -i else i), s)
  | _, _ => none
def pIntC : PL
  | [.int i], s => some (.int i, s)
  | [.bl b], s => some (.int (if b = true then 1 else 0), s)
  | _, _ => none
def tyD (d : D) (s : Sto) : Option String := match d with
  | .non => some "NoneType"
  | .bl _ => some "bool"
  | .int _ => some "int"
  | .str _ => some "str"
  | .tup _ => some "tuple"
  | .ro _ => some "list"
  | .loc k => match s[k]? with
    | some (.lst _) => some "list"
    | some (.dic _) => some "dict"
    | _ => none
  | _ => none
def isiB (a b : String) : Option Bool :=
  if ["NoneType", "bool", "int", "str", "tuple", "list", "dict"].contains a && ["bool", "int", "str", "tuple", "list", "dict"].contains b then some (a == b || (a == "bool" && b == "int")) else none
theorem isiB_all : (["NoneType", "bool", "int", "str", "tuple", "list", "dict"].all fun a => ["bool", "int", "str", "tuple", "list", "dict"].all fun b => kitB a b == some (a == b || (a == "bool" && b == "int"))) = true := by decide +kernel
theorem isiB_ok {a b : String} {r : Bool} (h : isiB a b = some r) : kitB a b = some r := by
  unfold isiB at h
  split at h
  · rename_i hc
    rw [Bool.and_eq_true] at hc
    have h1 := List.all_eq_true.mp (List.all_eq_true.mp isiB_all a (List.contains_iff_mem.mp hc.1)) b (List.contains_iff_mem.mp hc.2)
    rw [beq_iff_eq.mp h1]; exact h
  · cases h
def pIsi : PL
  | [d, .ty n], s => match tyD d s with
    | some t => (isiB t n).map fun b => (.bl b, s)
    | none => none
  | _, _ => none
theorem tyD_ok {w : Wd} {ρ : Nat → Addr} {H : Hp} {s : Sto} {v : V} {d : D} {t : String} (hs : RS w ρ H s) (hr : Rp w ρ s.length H v d) (h : tyD d s = some t) : TyX w.K H v (.type t) := by
  cases d with
  | non => cases hr.non_; simp only [tyD] at h; cases h; exact .base .non
  | bl b => cases hr.bl_; simp only [tyD] at h; cases h; exact .base (.bl b)
  | int b => cases hr.int_; simp only [tyD] at h; cases h; exact .base (.int b)
  | str b => cases hr.str_; simp only [tyD] at h; cases h; exact .base (.str b)
  | tup xs =>
    obtain ⟨a, vs, rfl, sq, r⟩ := hr.tup_
    simp only [tyD] at h; cases h
    rcases sq with e | ⟨o, its, n, e, c, _⟩
    · exact .base (.tup e)
    · exact .kTuple e c
  | ro xs =>
    obtain ⟨a, vs, rfl, sq, r⟩ := hr.ro_
    simp only [tyD] at h; cases h
    rcases sq with ⟨o, e⟩ | ⟨o, its, n, e, c, _⟩
    · exact .base (.frz e)
    · exact .kList e c
  | loc k =>
    obtain ⟨_, rfl⟩ := hr.loc_
    simp only [tyD] at h
    split at h
    · rename_i xs e0
      cases h
      obtain ⟨ho, h1, vs, rfl, r⟩ := hs.get e0
      exact .base (.lst h1)
    · rename_i xs e0
      cases h
      obtain ⟨ho, h1, vs, rfl, r⟩ := hs.get e0
      exact .base (.dK h1)
    · cases h
  | gl x => simp only [tyD] at h; cases h
  | ty x => simp only [tyD] at h; cases h
section
variable {X : Cx}
theorem c_len : CallM X (.builtin "len") pLen := by
  rintro pins s σ H xs us Q I rs ⟨ρ, st, ds, hs, hr, q⟩
  unfold pLen at q
  split at q
  · rename_i x _
    split at q
    · rename_i hl
      obtain ⟨v, r, rfl, h1, h2⟩ := hr.inv
      rw [h2.inv0] at rs
      have q' := RQ.val q hs (Rp.int _)
      cases h1.str_
      exact call_len pins s σ H _ us Q I rs ⟨_, _, rfl, ⟨hl, rfl⟩, q'⟩
    · exact q.elim
  · obtain ⟨v, r, rfl, h1, h2⟩ := hr.inv
    rw [h2.inv0] at rs
    obtain ⟨a, vs, rfl, sq, r⟩ := h1.tup_
    exact call_len pins s σ H _ us Q I rs ⟨_, _, rfl, .inr ⟨vs, sq.sqT, rfl⟩, by rw [RpL.length r]; exact RQ.val q hs (Rp.int _)⟩
  · obtain ⟨v, r, rfl, h1, h2⟩ := hr.inv
    rw [h2.inv0] at rs
    obtain ⟨a, vs, rfl, sq, r⟩ := h1.ro_
    exact call_len pins s σ H _ us Q I rs ⟨_, _, rfl, .inl ⟨vs, sq.sqL, rfl⟩, by rw [RpL.length r]; exact RQ.val q hs (Rp.int _)⟩
  · obtain ⟨v, r, rfl, h1, h2⟩ := hr.inv
    rw [h2.inv0] at rs
    obtain ⟨_, rfl⟩ := h1.loc_
    split at q
    · rename_i xs e0
      obtain ⟨ho, h1, vs, rfl, r⟩ := hs.get e0
      exact call_len pins s σ H _ us Q I rs ⟨_, _, rfl, .inl ⟨vs, SqL.of h1, rfl⟩, by rw [RpL.length r]; exact RQ.val q hs (Rp.int _)⟩
    · rename_i kvs e0
      obtain ⟨ho, h1, vs, rfl, r⟩ := hs.get e0
      rw [Vals.ref1 rs]
      have q' := RQ.val q hs (Rp.int _)
      rw [← RpA.length r] at q'
      exact d_len I (.inl h1) fun t s' I' => ⟨.int _, H, I', ⟨t, rfl⟩, q'⟩
    · exact q.elim
  · exact q.elim
theorem c_abs : CallM X (.builtin "abs") pAbs := by
  rintro pins s σ H xs us Q I rs ⟨ρ, st, ds, hs, hr, q⟩
  unfold pAbs at q
  split at q
  · obtain ⟨v, r, rfl, h1, h2⟩ := hr.inv
    rw [h2.inv0] at rs
    cases h1.int_
    exact call_abs pins s σ H _ us Q I rs ⟨_, rfl, RQ.val q hs (Rp.int _)⟩
  · exact q.elim
theorem c_int : CallM X (.type "int") pIntC := by
  rintro pins s σ H xs us Q I rs ⟨ρ, st, ds, hs, hr, q⟩
  unfold pIntC at q
  split at q
  · obtain ⟨v, r, rfl, h1, h2⟩ := hr.inv
    rw [h2.inv0] at rs
    cases h1.int_
    exact call_int1 pins s σ H _ us Q I rs (.inl ⟨_, rfl, RQ.val q hs (Rp.int _)⟩)
  · obtain ⟨v, r, rfl, h1, h2⟩ := hr.inv
    rw [h2.inv0] at rs
    cases h1.bl_
    exact call_int1 pins s σ H _ us Q I rs (.inr ⟨_, rfl, RQ.val q hs (Rp.int _)⟩)
  · exact q.elim
theorem c_isi : CallM X (.builtin "isinstance") pIsi := by
  rintro pins s σ H xs us Q I rs ⟨ρ, st, ds, hs, hr, q⟩
  unfold pIsi at q
  split at q
  · rename_i d n
    obtain ⟨v, r, rfl, h1, h2⟩ := hr.inv
    obtain ⟨v2, r2, rfl, h3, h4⟩ := h2.inv
    rw [h4.inv0] at rs
    cases h3.ty_
    split at q
    · rename_i t et
      cases eb : isiB t n with
      | none => rw [eb] at q; exact q.elim
      | some b =>
        rw [eb] at q
        exact call_isi pins s σ H _ us Q I rs ⟨v, _, _, _, b, rfl, .ty n, tyD_ok hs h1 et, kit_ty (isiB_ok eb), RQ.val q hs (Rp.bl _)⟩
    · exact q.elim
  · exact q.elim
end
/-! ### dict(list of pairs) -/
def pairsD : List D → Option (List (Key × D))
  | [] => some []
  | .tup [x, y] :: r => match keyD x, pairsD r with
    | some q, some kvs => some ((q, y) :: kvs)
    | _, _ => none
  | _ :: _ => none
def mergeA (kvs more : List (Key × D)) : List (Key × D) := more.foldl (fun acc kv => putA acc kv.1 kv.2) kvs
theorem RpA.merge {w : Wd} {ρ : Nat → Addr} {n : Nat} {H : Hp} : ∀ {ds : List (Key × D)} {vs : List (Key × V)} {v0 : List (Key × V)} {d0 : List (Key × D)}, RpA w ρ n H vs ds → RpA w ρ n H v0 d0 → RpA w ρ n H (mergeK v0 vs) (mergeA d0 ds)
  | [], vs, _, _, h, r0 => by rw [h.inv0]; exact r0
  | (k, d) :: ds, _, v0, d0, h, r0 => by
    obtain ⟨v, r, rfl, rv, rs⟩ := h.inv
    have q := RpA.merge rs (r0.put rv k)
    exact q
theorem pairsD_ok {w : Wd} {ρ : Nat → Addr} {H : Hp} {n : Nat} : ∀ {xs : List D} {vs : List V} {kvs : List (Key × D)}, RpL w ρ n H vs xs → pairsD xs = some kvs →
    ∃ (ps : List Addr) (rs : List (Key × V)), vs = ps.map V.ref ∧ Paired (fun p kv => SqT w.K H p [kV kv.1, kv.2]) ps rs ∧ RpA w ρ n H rs kvs
  | [], _, _, h, e => by
    rw [h.inv0]; cases e
    exact ⟨[], [], rfl, .nil, RpA.nil⟩
  | x :: xs, _, _, h, e => by
    obtain ⟨v, r, rfl, h1, h2⟩ := h.inv
    unfold pairsD at e
    split at e
    · cases ‹_ :: _ = []›
    · rename_i a b r' heq
      cases heq
      split at e
      · rename_i q kvs ek er
        cases e
        obtain ⟨p, us, rfl, sq, ru⟩ := h1.tup_
        obtain ⟨va, r2, rfl, h3, h4⟩ := ru.inv
        obtain ⟨vb, r3, rfl, h5, h6⟩ := h4.inv
        rw [h6.inv0] at sq
        have ea := keyD_ok h3 ek
        subst ea
        obtain ⟨ps, rs, rfl, pr, ra⟩ := pairsD_ok h2 er
        exact ⟨p :: ps, (q, vb) :: rs, rfl, .cons sq.sqT pr, RpA.cons h5 ra⟩
      · cases e
    · cases e
def pDict : PL
  | [d], s => match lstD d s with
    | some xs => match pairsD xs with
      | some kvs => some (.loc s.length, s ++ [.dic (mergeA [] kvs)])
      | none => none
    | none => none
  | _, _ => none
theorem c_dict {X : Cx} (hcalm : X.calm = true) : CallM X (.type "dict") pDict := by
  rintro pins s σ H xs us Q I rs ⟨ρ, st, ds, hs, hr, q⟩
  unfold pDict at q
  split at q
  · obtain ⟨v, r, rfl, h1, h2⟩ := hr.inv
    rw [h2.inv0] at rs
    split at q
    · rename_i xs e1
      split at q
      · rename_i kvs e2
        obtain ⟨a, vs, rfl, sq, rl⟩ := lstD_ok hs h1 e1
        obtain ⟨ps, rs', rfl, pr, ra⟩ := pairsD_ok rl e2
        exact call_dictP hcalm pins s σ H _ us Q I rs ⟨a, ps, rs', rfl, sq, pr, fun p hp => RQ.obj q hs ⟨_, rfl, RpA.merge ra RpA.nil⟩ hp⟩
      · exact q.elim
    · exact q.elim
  · exact q.elim
end Y

set_option Elab.async false
set_option linter.all false
set_option maxRecDepth 100000
/-! Y7: methods of built-in types; targets; plain statements. -/
namespace Y
open PySem L2

/-! ### o.m(..), o of a built-in type -/
abbrev PM := D → List D → Sto → Option (D × Sto)
def rMt (w : Wd) (p : PM) : V → List V → Hp → VK → Prop := fun x xs H Q => ∃ ρ s d ds, RS w ρ H s ∧ Rp w ρ s.length H x d ∧ RpL w ρ s.length H xs ds ∧ RQ w (Rp w) E0 ρ s.length H (.ofO (p d ds s)) Q
structure BM (X : Cx) (T : String) (name : Str) (p : PM) : Prop where
  ex : ∃ id, PlainAttrs T ∧ Slot T name id ∧ typeOf (.builtin id) = pure (.type "method_descriptor") ∧ MtR X id (rMt (wd X) p)
theorem tyV_of {w : Wd} {ρ : Nat → Addr} {H : Hp} {s : Sto} {v : V} {d : D} {t : String} (hs : RS w ρ H s) (hr : Rp w ρ s.length H v d) (h : tyD d s = some t) (ht : t = "list" ∨ t = "dict" ∨ t = "str") : tyV w.K t v H := by
  cases d with
  | str b => cases hr.str_; simp only [tyD] at h; cases h; rfl
  | ro xs =>
    obtain ⟨a, vs, rfl, sq, r⟩ := hr.ro_
    simp only [tyD] at h; cases h
    exact .inl ⟨rfl, vs, sq.sqL⟩
  | loc k =>
    obtain ⟨_, rfl⟩ := hr.loc_
    simp only [tyD] at h
    split at h
    · rename_i xs e0
      cases h
      obtain ⟨ho, h1, vs, rfl, r⟩ := hs.get e0
      exact .inl ⟨rfl, vs, SqL.of h1⟩
    · rename_i xs e0
      cases h
      obtain ⟨ho, h1, vs, rfl, r⟩ := hs.get e0
      exact .inr (.inr (.inl ⟨rfl, .inl ⟨vs, h1⟩⟩))
    · cases h
  | non => simp only [tyD] at h; cases h; rcases ht with z | z | z <;> exact absurd z (by decide)
  | bl b => simp only [tyD] at h; cases h; rcases ht with z | z | z <;> exact absurd z (by decide)
  | int b => simp only [tyD] at h; cases h; rcases ht with z | z | z <;> exact absurd z (by decide)
  | tup b => simp only [tyD] at h; cases h; rcases ht with z | z | z <;> exact absurd z (by decide)
  | gl x => simp only [tyD] at h; cases h
  | ty x => simp only [tyD] at h; cases h

def mAppend : PM
  | .loc k, [d], s => match s[k]? with
    | some (.lst xs) => if xs.length < sizeLine then some (.non, s.set k (.lst (xs ++ [d]))) else none
    | _ => none
  | _, _, _ => none
def mExtend : PM
  | .loc k, [.loc j], s => match s[k]?, s[j]? with
    | some (.lst xs), some (.lst ys) => if xs.length + ys.length ≤ sizeLine then some (.non, s.set k (.lst (xs ++ ys))) else none
    | _, _ => none
  | .loc k, [.tup ys], s => match s[k]? with
    | some (.lst xs) => if xs.length + ys.length ≤ sizeLine then some (.non, s.set k (.lst (xs ++ ys))) else none
    | _ => none
  | _, _, _ => none
def mInsert : PM
  | .loc k, [.int i, d], s => match s[k]? with
    | some (.lst xs) => if xs.length < sizeLine ∧ 0 ≤ i ∧ fitI i = true then some (.non, s.set k (.lst (xs.take i.toNat ++ [d] ++ xs.drop i.toNat))) else none
    | _ => none
  | _, _, _ => none
def mPop : PM
  | .loc k, [], s => match s[k]? with
    | some (.lst xs) => match xs[xs.length - 1]? with
      | some d => some (d, s.set k (.lst xs.dropLast))
      | none => none
    | _ => none
  | _, _, _ => none
def mGet : PM
  | .loc k, [y], s => match s[k]?, keyD y with
    | some (.dic kvs), some q => some ((getA kvs q).getD .non, s)
    | _, _ => none
  | .loc k, [y, z], s => match s[k]?, keyD y with
    | some (.dic kvs), some q => some ((getA kvs q).getD z, s)
    | _, _ => none
  | _, _, _ => none
def pMeth (T : String) (name : Str) : Option PM :=
  if T = "list" then
    if name = "append" then some mAppend else if name = "extend" then some mExtend else if name = "insert" then some mInsert else if name = "pop" then some mPop else none
  else if T = "dict" then
    if name = "get" then some mGet else none
  else none
/-- a store object is written -/
theorem RQ.set {w : Wd} {W : XK} {ρ : Nat → Addr} {H : Hp} {s : Sto} {k : Nat} {ho : HO} {o : O} {d : D} {v : V} {Q : VK} (h : RQ w (Rp w) W ρ s.length H (.ofO (some (d, s.set k o))) Q) (hs : RS w ρ H s) (hk : k < s.length) (hr : RO w ρ s.length H ho o) (hd : Rp w ρ s.length H v d) : Q v (upd H (ρ k) ho) := by
  have hl : (s.set k o).length = s.length := List.length_set
  exact h ρ _ v (by rw [hl]; exact Lat.set hs hk _ rfl) (hs.set hk hr) (by rw [hl]; exact Rp.lat (Lat.set hs hk _ rfl) _ hd)
theorem RpL.dropLast {w : Wd} {ρ : Nat → Addr} {n : Nat} {H : Hp} {vs : List V} {ds : List D} (h : RpL w ρ n H vs ds) : RpL w ρ n H vs.dropLast ds.dropLast := by
  rw [List.dropLast_eq_take, List.dropLast_eq_take, RpL.length h]
  exact h.take _
section
variable {X : Cx}
theorem bm_append : BM X "list" "append" mAppend := by
  refine ⟨⟨_, PySem.F.plainAttrs_list, PySem.F.slot_list_append, PySem.F.type_list_append, ?_⟩⟩
  rintro pins s σ H x xs v us Q I rx rs ⟨ρ, st, d, ds, hs, hx, hr, q⟩
  unfold mAppend at q
  split at q
  · rename_i k d'
    split at q
    · rename_i ys e0
      split at q
      · rename_i hl
        obtain ⟨hk, rfl⟩ := hx.loc_
        obtain ⟨ho, h1, vs, rfl, r⟩ := hs.get e0
        obtain ⟨y, r', rfl, h2, h3⟩ := hr.inv
        rw [h3.inv0] at rs
        exact mt_append pins s σ H _ _ v us Q I rx rs ⟨_, vs, y, rfl, rfl, h1, by rw [RpL.length r]; exact hl, RQ.set q hs hk ⟨_, rfl, RpL.append r (RpL.one h2)⟩ Rp.non⟩
      · exact q.elim
    · exact q.elim
  · exact q.elim
section
open PySem.AutoSeq1 PySem.Builtin
/-- list.extend of any tuple -/
theorem meets_extT (l : Addr) (xs : Array Value) (n : Nat) (b : Addr) (ys : Array Value) (m : Nat) (dct : Option Addr) (sl : Array (Option Value)) (c0 : ¬(!xs.isEmpty && Builtin.List.listTooLong (xs.size + ys.size)) = true) (c1 : xs.size ≤ sizeLine) (c2 : xs.size + ys.size ≤ sizeLine + 1) :
    Meets (Builtin.«list.extend» ⟨[.ref l, .ref b], []⟩) (fun _ R s =>
      s.heap.get? l = some { cls := .type "list", dict := none, data := .seq xs n, slots := #[] } ∧
      s.heap.get? b = some { cls := .type "tuple", dict := dct, data := .seq ys m, slots := sl } ∧
      R (.ok (.ret Value.none)) { s with heap := s.heap.update l (Obj.mapSeq fun z => z ++ ys), toks := s.toks }) := by
  refine .of_wp fun prog w A R s h => ?_
  obtain ⟨hp, g, d, tk, os⟩ := s
  obtain ⟨hl, hb, h⟩ := h
  have g1 := idx_int
  have g2 := sub_tuple_tuple
  have g3 := sub_list_list
  have g4 := sub_tuple_list
  have g5 := sub_list_tuple
  have c3 : (xs ++ ys).size ≤ sizeLine + 1 := by rw [Array.size_append]; exact c2
  wp_walk using (wpAny_updateSeq hl rfl (hz := c1) (_hz' := c3)), wpAny_loadPart' hl, wpAny_loadPart' hb
  exact ⟨_, rfl, h⟩
end
def rExtT (K : PySem.W.Frag) : V → List V → Hp → VK → Prop := fun x vs H Q => ∃ l b xs zs, x = .ref l ∧ vs = [.ref b] ∧ H l = some (.lst xs) ∧ SqT K H b zs ∧ xs.length + zs.length ≤ sizeLine ∧ Q .non (upd H l (.lst (xs ++ zs)))
theorem mt_extT {X : Cx} : MtM X "list.extend" (rExtT X.K) := by
  rintro pins s σ H x vs v us Q I rx rv ⟨l, b, xs, zs, rfl, rfl, hH, hB, hz, q⟩
  cases rx
  obtain ⟨u, rfl, ru⟩ := rv.one
  cases ru
  obtain ⟨z, its, n, r, hl, e⟩ := I.lstM hH
  obtain ⟨its2, r2, ⟨o, ho, hc, m, hd⟩, hz2⟩ := I.tuple hB
  obtain ⟨oc, od, odat, osl⟩ := o
  simp only at hc hd
  subst hc hd
  have l2 := r2.length
  have hsz : its.toArray.size + its2.toArray.size ≤ sizeLine := by rw [List.size_toArray, List.size_toArray]; omega
  have hlong : ¬ (!its.toArray.isEmpty && Builtin.List.listTooLong (its.toArray.size + its2.toArray.size)) = true := by
    rw [notLongL hsz, Bool.and_false]; exact Bool.false_ne_true
  refine call_meets PySem.F.slot_list_extend ⟨_, e, rfl⟩ PySem.F.entry_list_extend (PySem.F.args_list_extend_2 _ _) (meets_extT l its.toArray n b its2.toArray m od osl hlong (by rw [List.size_toArray]; omega) (by omega)) ⟨e, ho, ?_⟩
  refine ⟨.non, _, I.lset (its' := its ++ its2) hH e (by simp) (r.append r2) ?_, rfl, q⟩
  rw [List.length_append]; omega
theorem bm_extend : BM X "list" "extend" mExtend := by
  refine ⟨⟨_, PySem.F.plainAttrs_list, PySem.F.slot_list_extend, PySem.F.type_list_extend, ?_⟩⟩
  rintro pins s σ H x xs v us Q I rx rs ⟨ρ, st, d, ds, hs, hx, hr, q⟩
  unfold mExtend at q
  split at q
  · rename_i k j
    split at q
    · rename_i ys zs e0 e1
      split at q
      · rename_i hl
        obtain ⟨hk, rfl⟩ := hx.loc_
        obtain ⟨ho, h1, vs, rfl, r⟩ := hs.get e0
        obtain ⟨ho2, h2, ws, rfl, r2⟩ := hs.get e1
        obtain ⟨y, r', rfl, h3, h4⟩ := hr.inv
        obtain ⟨_, rfl⟩ := h3.loc_
        rw [h4.inv0] at rs
        exact mt_extend pins s σ H _ _ v us Q I rx rs ⟨_, _, vs, ws, rfl, rfl, h1, h2, by rw [RpL.length r, RpL.length r2]; exact hl, RQ.set q hs hk ⟨_, rfl, RpL.append r r2⟩ Rp.non⟩
      · exact q.elim
    · exact q.elim
  · rename_i k zs
    split at q
    · rename_i ys e0
      split at q
      · rename_i hl
        obtain ⟨hk, rfl⟩ := hx.loc_
        obtain ⟨ho, h1, vs, rfl, r⟩ := hs.get e0
        obtain ⟨y, r', rfl, h3, h4⟩ := hr.inv
        obtain ⟨a, ws, rfl, sq, r2⟩ := h3.tup_
        rw [h4.inv0] at rs
        exact mt_extT pins s σ H _ _ v us Q I rx rs ⟨_, _, vs, ws, rfl, rfl, h1, sq.sqT, by rw [RpL.length r, RpL.length r2]; exact hl, RQ.set q hs hk ⟨_, rfl, RpL.append r r2⟩ Rp.non⟩
      · exact q.elim
    · exact q.elim
  · exact q.elim
theorem bm_insert : BM X "list" "insert" mInsert := by
  refine ⟨⟨_, PySem.F.plainAttrs_list, PySem.F.slot_list_insert, PySem.F.type_list_insert, ?_⟩⟩
  rintro pins s σ H x xs v us Q I rx rs ⟨ρ, st, d, ds, hs, hx, hr, q⟩
  unfold mInsert at q
  split at q
  · rename_i k i d'
    split at q
    · rename_i ys e0
      split at q
      · rename_i hl
        obtain ⟨hk, rfl⟩ := hx.loc_
        obtain ⟨ho, h1, vs, rfl, r⟩ := hs.get e0
        obtain ⟨y, r', rfl, h2, h3⟩ := hr.inv
        obtain ⟨z, r'', rfl, h4, h5⟩ := h3.inv
        cases h2.int_
        rw [h5.inv0] at rs
        exact mt_insert pins s σ H _ _ v us Q I rx rs ⟨_, vs, i, z, rfl, rfl, h1, by rw [RpL.length r]; exact hl.1, hl.2.1, fitI_63 hl.2.2, RQ.set q hs hk ⟨_, rfl, RpL.append (RpL.append (r.take _) (RpL.one h4)) (r.drop _)⟩ Rp.non⟩
      · exact q.elim
    · exact q.elim
  · exact q.elim
theorem bm_pop : BM X "list" "pop" mPop := by
  refine ⟨⟨_, PySem.F.plainAttrs_list, PySem.F.slot_list_pop, PySem.F.type_list_pop, ?_⟩⟩
  rintro pins s σ H x xs v us Q I rx rs ⟨ρ, st, d, ds, hs, hx, hr, q⟩
  unfold mPop at q
  split at q
  · rename_i k
    split at q
    · rename_i ys e0
      split at q
      · rename_i d' e1
        obtain ⟨hk, rfl⟩ := hx.loc_
        obtain ⟨ho, h1, vs, rfl, r⟩ := hs.get e0
        rw [hr.inv0] at rs
        obtain ⟨y, e2, ry⟩ := r.get e1
        exact mt_pop pins s σ H _ _ v us Q I rx rs ⟨_, vs, y, rfl, rfl, h1, by rw [RpL.length r]; exact e2, RQ.set q hs hk ⟨_, rfl, r.dropLast⟩ ry⟩
      · exact q.elim
    · exact q.elim
  · exact q.elim
theorem bm_get (hr : Room 0 X.A) : BM X "dict" "get" mGet := by
  have hu : X.A.units + 1 < cLine := by have := hr.un; omega
  refine ⟨⟨_, PySem.F.plainAttrs_dict, PySem.F.slot_dict_get, PySem.F.type_dict_get, ?_⟩⟩
  rintro pins s σ H x xs v us Q I rx rs ⟨ρ, st, d, ds, hs, hx, hr, q⟩
  unfold mGet at q
  split at q
  · rename_i k y
    split at q
    · rename_i kvs q' e0 ek
      obtain ⟨hk, rfl⟩ := hx.loc_
      cases (show v = Value.ref (ρ k) from rx)
      obtain ⟨ho, h1, vs, rfl, r⟩ := hs.get e0
      obtain ⟨y', r', rfl, h2, h3⟩ := hr.inv
      rw [h3.inv0] at rs
      have ev := keyD_ok h2 ek
      subst ev
      obtain ⟨u, rfl, ru⟩ := rs.one
      obtain ⟨g1, g2⟩ := RpA.get q' r
      refine d_get1 hu I (DGet.k h1) ru fun w' s' I' rw' => ⟨_, H, I', rw', ?_⟩
      cases z : getA kvs q' with
      | none => rw [g2 z]; rw [z] at q; exact RQ.val q hs Rp.non
      | some d' => obtain ⟨v', e', r1⟩ := g1 d' z; rw [e']; rw [z] at q; exact RQ.val q hs r1
    · exact q.elim
  · rename_i k y z
    split at q
    · rename_i kvs q' e0 ek
      obtain ⟨hk, rfl⟩ := hx.loc_
      cases (show v = Value.ref (ρ k) from rx)
      obtain ⟨ho, h1, vs, rfl, r⟩ := hs.get e0
      obtain ⟨y', r', rfl, h2, h3⟩ := hr.inv
      obtain ⟨z', r'', rfl, h4, h5⟩ := h3.inv
      rw [h5.inv0] at rs
      have ev := keyD_ok h2 ek
      subst ev
      obtain ⟨u, u2, rfl, ru, ru2⟩ := rs.two
      obtain ⟨g1, g2⟩ := RpA.get q' r
      refine d_get2 hu I (DGet.k h1) ru ru2 fun w' s' I' rw' => ⟨_, H, I', rw', ?_⟩
      cases zz : getA kvs q' with
      | none => rw [g2 zz]; rw [zz] at q; exact RQ.val q hs h4
      | some d' => obtain ⟨v', e', r1⟩ := g1 d' zz; rw [e']; rw [zz] at q; exact RQ.val q hs r1
    · exact q.elim
  · exact q.elim
theorem bm_all (hr : Room 0 X.A) {T : String} {name : Str} {p : PM} (h : pMeth T name = some p) : (T = "list" ∨ T = "dict" ∨ T = "str") ∧ BM X T name p := by
  unfold pMeth at h
  split at h
  · rename_i h1
    subst h1
    split at h
    · rename_i n; subst n; cases h; exact ⟨.inl rfl, bm_append⟩
    split at h
    · rename_i n; subst n; cases h; exact ⟨.inl rfl, bm_extend⟩
    split at h
    · rename_i n; subst n; cases h; exact ⟨.inl rfl, bm_insert⟩
    split at h
    · rename_i n; subst n; cases h; exact ⟨.inl rfl, bm_pop⟩
    cases h
  split at h
  · rename_i h1
    subst h1
    split at h
    · rename_i n; subst n; cases h; exact ⟨.inr (.inl rfl), bm_get hr⟩
    cases h
  cases h
end
def eMeth (name : Str) (o : EM D) (a : EM (List D)) : EM D := fun E s => (o E s).bind fun d s1 => match tyD d s1 with
  | some T => match pMeth T name with
    | some p => (a E s1).bind fun ds s2 => .ofO (p d ds s2)
    | none => .err
  | none => .err
section
variable {X : Cx} {W : WX} {o e : Expr} {es : List Expr} {name : Str} {apos cpos : Pos} {mo : EM D} {ma : EM (List D)}
/-- what the receiver gives -/
theorem tM_meth {σ : St} {H : Hp} {Q : VK} (hr : Room 0 X.A) (h : tM (wd X) (Rp (wd X)) W (eMeth name mo ma) σ H Q) :
    tM (wd X) (Rp (wd X)) W mo σ H fun x H1 => ∃ T p, tyV X.K T x H1 ∧ (BM X T name p) ∧ tM (wd X) (RpL (wd X)) W ma σ H1 fun xs H2 => rMt (wd X) p x xs H2 Q := by
  unfold eMeth at h
  obtain ⟨ρ, E, s, hs, he, h⟩ := tM.bind (R1 := Rp (wd X)) (m := mo) h
  refine ⟨ρ, E, s, hs, he, RQ.mono h ?_⟩
  rintro x H1 ⟨ρ1, E1, s1, d, hs1, he1, rd, hq⟩
  split at hq
  · rename_i T eT
    split at hq
    · rename_i p ep
      obtain ⟨hT, hb⟩ := bm_all (X := X) hr ep
      refine ⟨T, p, tyV_of hs1 rd eT hT, hb, ρ1, E1, s1, hs1, he1, RQ.mono (RQ.bind (R1 := RpL (wd X)) hq) ?_⟩
      rintro xs H2 ⟨ρ2, s2, ds, L2, hs2, rds, hq2⟩
      exact ⟨ρ2, s2, d, ds, hs2, Rp.lat L2 _ rd, rds, RQ.ofO hq2⟩
    · exact hq.elim
  · exact hq.elim
theorem me_meth (hr : Room 0 X.A) (ho : ME X W o mo) (ha : MA X W (e :: es) ma) (hbase : attributeBase o name X.env (eval o X.env) = eval o X.env)
    (hfew : ((backTo cpos (starEach (e :: es) X.env)).all (fun x => !x.1) && (backToKw cpos (keywordEach [] X.env)).all (fun x => x.1.isSome)
      && decide ((e :: es).length + ([] : List Keyword).length + (if ([] : List Keyword).isEmpty then 0 else 1) < 30)) = true)
    (hline : (apos.endLine == cpos.line) = true) (hs : starEach (e :: es) X.env = (false, eval e X.env) :: starEach es X.env) (hplain : (backTo cpos (starEach es X.env)).any (·.1) = false) :
    ME X W (.Call (.Attribute o name apos) (e :: es) [] cpos) (eMeth name mo ma) := by
  refine ⟨fun pins s σ H Q I h => ?_⟩
  refine wpAny_Call_method_late hbase hfew hline rfl (thn (ho.run pins s σ H _ I (tM_meth hr h)) fun v s1 ⟨x, H1, I1, r1, T, p, ty, hb, q1⟩ => ?_)
  obtain ⟨h1, h2⟩ := tyV_is I1 r1 ty
  obtain ⟨id, pa, slot, hty, hm⟩ := hb.ex
  refine ⟨T, id, pa, slot, hty, h1, h2, ?_⟩
  have hA := ha.run cpos pins s1 σ H1 _ I1 q1
  rw [hs] at hA ⊢
  refine Calls.callWith_builtin (by show (false || (backTo cpos (starEach es X.env)).any (·.1)) = false; rw [hplain] <;> rfl) (Calls.evalArgs_plain ?_)
  exact thn hA fun us s2 ⟨vs, H2, I2, r2, q2⟩ => hm pins s2 σ H2 x vs v us Q I2 r1 r2 q2
theorem me_meth0 (hr : Room 0 X.A) (ho : ME X W o mo) (hbase : attributeBase o name X.env (eval o X.env) = eval o X.env) (hline : (apos.endLine == cpos.line) = true) : ME X W (.Call (.Attribute o name apos) [] [] cpos) (eMeth name mo aNil) := by
  refine ⟨fun pins s σ H Q I h => ?_⟩
  refine wpAny_Call_method0_late hbase hline (thn (ho.run pins s σ H _ I (tM_meth hr h)) fun v s1 ⟨x, H1, I1, r1, T, p, ty, hb, q1⟩ => ?_)
  obtain ⟨h1, h2⟩ := tyV_is I1 r1 ty
  obtain ⟨id, pa, slot, hty, hm⟩ := hb.ex
  obtain ⟨ρ, E, st, hs, he, q⟩ := q1
  exact ⟨T, id, pa, slot, hty, h1, h2, Calls.callWith_builtin rfl (PySem.evalArgs_none (hm pins s1 σ H1 x [] v [] Q I1 r1 .nil (q ρ H1 [] Lat.refl hs RpL.nil)))⟩
end

/-! ### targets -/
abbrev GM := D → Ev → Sto → Res Ev
/-- what stands outside the slots sl stands as it stood -/
def Out (sl : List Nat) (σ σ' : St) : Prop := ∀ vs : List Nat, (∀ i ∈ sl, i ∈ vs) → wipe σ' vs = wipe σ vs
theorem wipe_set (σ : St) (i : Nat) (o : Option V) : ∀ vs : List Nat, i ∈ vs → wipe (σ.set i o) vs = wipe σ vs
  | v :: vs, h => by
    unfold wipe
    by_cases hi : i ∈ vs
    · rw [wipe_set σ i o vs hi]
    · have e : i = v := (List.mem_cons.mp h).resolve_right hi
      subst e
      have gen : ∀ us : List Nat, i ∉ us → wipe (σ.set i o) us = (wipe σ us).set i o := by
        intro us
        induction us with
        | nil => intro _; rfl
        | cons u us ih =>
          intro hn
          unfold wipe
          rw [ih (fun z => hn (List.mem_cons_of_mem _ z))]
          rw [List.set_comm _ _ (fun z => hn (by rw [z]; exact List.mem_cons_self))]
      rw [gen vs hi, List.set_set]
theorem Out.set (i : Nat) (σ : St) (o : Option V) : Out [i] σ (σ.set i o) := fun vs h => wipe_set σ i o vs (h i (by simp))
theorem Out.refl (σ : St) : Out [] σ σ := fun _ _ => rfl
theorem Out.trans {a b : List Nat} {σ σ1 σ2 : St} (h : Out a σ σ1) (g : Out b σ1 σ2) : Out (a ++ b) σ σ2 := fun vs hv =>
  (g vs fun i hi => hv i (List.mem_append_right _ hi)).trans (h vs fun i hi => hv i (List.mem_append_left _ hi))
def tG (w : Wd) (sl : List Nat) (m : GM) : TG := fun v σ H Q => ∃ ρ E s d, RS w ρ H s ∧ RE w ρ s.length H σ E ∧ Rp w ρ s.length H v d ∧ match m d E s with
  | .ok E' s' => ∀ ρ' σ' H', Lat ρ s.length H ρ' s'.length H' → RS w ρ' H' s' → RE w ρ' s'.length H' σ' E' → Out sl σ σ' → Q σ' H'
  | _ => False
abbrev GMs := List D → Ev → Sto → Res Ev
def tGs (w : Wd) (sl : List Nat) (m : GMs) : TGs := fun vs σ H Q => ∃ ρ E s ds, RS w ρ H s ∧ RE w ρ s.length H σ E ∧ RpL w ρ s.length H vs ds ∧ match m ds E s with
  | .ok E' s' => ∀ ρ' σ' H', Lat ρ s.length H ρ' s'.length H' → RS w ρ' H' s' → RE w ρ' s'.length H' σ' E' → Out sl σ σ' → Q σ' H'
  | _ => False
theorem PG.imp {X : Cx} {tg : Expr} {t t' : TG} (h : PG X tg t) (hi : ∀ v σ H Q, t' v σ H Q → t v σ H Q) : PG X tg t' := ⟨fun pins s σ H v u Q I r q => h.run pins s σ H v u Q I r (hi _ _ _ _ q)⟩
theorem PGs.imp {X : Cx} {ts : List Expr} {t t' : TGs} (h : PGs X ts t) (hi : ∀ v σ H Q, t' v σ H Q → t v σ H Q) : PGs X ts t' := ⟨fun pins s σ H v u Q I r q => h.run pins s σ H v u Q I r (hi _ _ _ _ q)⟩
theorem PG.or {X : Cx} {tg : Expr} {t t' : TG} (h : PG X tg t) (h' : PG X tg t') : PG X tg (fun v σ H Q => t v σ H Q ∨ t' v σ H Q) := ⟨fun pins s σ H v u Q I r q => q.elim (h.run pins s σ H v u Q I r) (h'.run pins s σ H v u Q I r)⟩
theorem RE.set {w : Wd} {ρ : Nat → Addr} {n : Nat} {H : Hp} {σ : St} {E : Ev} (h : RE w ρ n H σ E) (i : Nat) {v : V} {d : D} (r : Rp w ρ n H v d) : RE w ρ n H (σ.set i (some v)) (E.set i (some d)) := by
  refine ⟨by rw [List.length_set, List.length_set]; exact h.len, fun j d' e => ?_⟩
  by_cases hj : i = j
  · subst hj
    by_cases hl : i < E.length
    · rw [List.getElem?_set_self hl] at e
      cases e
      exact ⟨v, List.getElem?_set_self (by rw [h.len]; exact hl), r⟩
    · rw [List.getElem?_eq_none (by rw [List.length_set]; omega)] at e
      cases e
  · rw [List.getElem?_set_ne hj] at e ⊢
    exact h.val j d' e
def gNm (i : Nat) : GM := fun d E s => .ok (E.set i (some d)) s
abbrev MG (X : Cx) (tg : Expr) (sl : List Nat) (m : GM) : Prop := PG X tg (tG (wd X) sl m)
abbrev MGs (X : Cx) (ts : List Expr) (sl : List Nat) (m : GMs) : Prop := PGs X ts (tGs (wd X) sl m)
def gErr : GM := fun _ _ _ => .err
theorem tG_err {w : Wd} {v : V} {σ : St} {H : Hp} {Q : St → Hp → Prop} (h : tG w [] gErr v σ H Q) : False := by obtain ⟨_, _, _, _, _, _, _, h⟩ := h; exact h
section
variable {X : Cx}
theorem mg_err {tg : Expr} : MG X tg [] gErr := ⟨fun _ _ _ _ _ _ _ _ _ h => (tG_err h).elim⟩
theorem mg_name {i : Nat} {x : Str} {pos : Pos} (hN : X.N.Nodup) (hi : X.N[i]? = some x) (hx : Loc X.env.scope x) (hf : X.fn x = true ∨ X.env.scope.names.lookup x = some .local) : MG X (.Name x pos) [i] (gNm i) := by
  refine PG.imp (pg_name hN hi hx hf) ?_
  rintro v σ H Q ⟨ρ, E, s, d, hs, he, hr, h⟩
  exact h ρ _ H Lat.refl hs (he.set i hr) (Out.set i σ _)
def gsNil : GMs := fun ds E s => match ds with
  | [] => .ok E s
  | _ => .err
def gsCons (a : GM) (b : GMs) : GMs := fun ds E s => match ds with
  | d :: r => (a d E s).bind fun E1 s1 => b r E1 s1
  | [] => .err
theorem mgs_nil : MGs X [] [] gsNil := by
  refine PGs.imp pgs_nil ?_
  rintro vs σ H Q ⟨ρ, E, s, ds, hs, he, hr, h⟩
  cases ds with
  | nil => exact ⟨hr.inv0, h ρ σ H Lat.refl hs he (Out.refl σ)⟩
  | cons _ _ => exact h.elim
theorem mgs_cons {e : Expr} {es : List Expr} {a : GM} {b : GMs} {sa sb : List Nat} (h1 : MG X e sa a) (h2 : MGs X es sb b) (hs : (assignEach (e :: es) X.env).map (·.2) = assign e X.env :: (assignEach es X.env).map (·.2)) : MGs X (e :: es) (sa ++ sb) (gsCons a b) := by
  refine PGs.imp (pgs_cons h1 h2 hs) ?_
  rintro vs σ H Q ⟨ρ, E, s, ds, hs, he, hr, h⟩
  cases ds with
  | nil => exact h.elim
  | cons d r =>
    simp only [gsCons] at h
    obtain ⟨v, vr, rfl, r1, r2⟩ := hr.inv
    refine ⟨v, vr, rfl, ρ, E, s, d, hs, he, r1, ?_⟩
    cases q : a d E s with
    | ok E1 s1 =>
      rw [q] at h
      intro ρ1 σ1 H1 L1 hs1 he1 o1
      refine ⟨ρ1, E1, s1, r, hs1, he1, RpL.lat L1 _ r2, ?_⟩
      cases q2 : b r E1 s1 with
      | ok E2 s2 =>
        simp only [Res.bind_ok, q2] at h
        exact fun ρ2 σ2 H2 L2 hs2 he2 o2 => h ρ2 σ2 H2 (L1.trans L2) hs2 he2 (o1.trans o2)
      | exc y s2 => simp only [Res.bind_ok, q2] at h
      | err => simp only [Res.bind_ok, q2] at h
    | exc y s1 => rw [q] at h; exact h.elim
    | err => rw [q] at h; exact h.elim
def gTp (n : Nat) (gs : GMs) : GM := fun d E s => match seqD d s with
  | some xs => if xs.length = n then gs xs E s else .err
  | none => .err
theorem mg_tup {es : List Expr} {k : Nat} {m : GMs} {n : Nat} {sl : List Nat} {pos : Pos} (hc : X.calm = true) (h : MGs X es sl m) (hn : (assignEach es X.env).length = n) (hst : (assignEach es X.env).findIdx? (·.1) = none) : MG X (.Tuple es k pos) sl (gTp n m) := by
  refine PG.imp (Y.PG.or (pg_tup (k := k) hc h hn hst) (pg_lst (k := k) hc h hn hst)) ?_
  rintro v σ H Q ⟨ρ, E, s, d, hs, he, hr, h⟩
  unfold gTp at h
  cases e : seqD d s with
  | none => rw [e] at h; exact h.elim
  | some xs =>
    simp only [e] at h
    by_cases hl : xs.length = n
    · rw [if_pos hl] at h
      obtain ⟨a, vs, rfl, sq, r⟩ := seqD_ok hs hr e
      rcases sq with sq | sq
      · exact .inr ⟨a, vs, rfl, sq, by rw [RpL.length r]; exact hl, ρ, E, s, xs, hs, he, r, h⟩
      · exact .inl ⟨a, vs, rfl, sq.sqT, by rw [RpL.length r]; exact hl, ρ, E, s, xs, hs, he, r, h⟩
    · rw [if_neg hl] at h; exact h.elim
/-- o[i] = v -/
def pSet (o i v : D) (s : Sto) : Option Sto := match o with
  | .loc k => match s[k]? with
    | some (.lst xs) => match i with
      | .int z => match ixN xs.length z with
        | some j => some (s.set k (.lst (xs.set j v)))
        | none => none
      | _ => none
    | some (.dic kvs) => match keyD i with
      | some q => if kvs.length < sizeLine then some (s.set k (.dic (putA kvs q v))) else none
      | none => none
    | _ => none
  | _ => none
theorem pset_ok (hr : Room 0 X.A) : PSet X (fun o i v H Q => ∃ ρ s dO dI dV s', RS (wd X) ρ H s ∧ Rp (wd X) ρ s.length H o dO ∧ Rp (wd X) ρ s.length H i dI ∧ Rp (wd X) ρ s.length H v dV ∧ pSet dO dI dV s = some s' ∧
    ∀ H', Lat ρ s.length H ρ s'.length H' → RS (wd X) ρ H' s' → Q H') := by
  have hu : X.A.units + 1 < cLine := by have := hr.un; omega
  rintro pins s σ H o i v ov iv u Q I ro ri rv ⟨ρ, st, dO, dI, dV, s', hs, hO, hI, hV, e, q⟩
  have fin : ∀ {k : Nat} {ho : HO} {ob : O}, k < st.length → s' = st.set k ob → RO (wd X) ρ st.length H ho ob → Q (upd H (ρ k) ho) := fun {k ho ob} hk es hro => by
    have hl : (st.set k ob).length = st.length := List.length_set
    subst es
    exact q _ (by rw [hl]; exact Lat.set hs hk _ rfl) (hs.set hk hro)
  unfold pSet at e
  split at e
  · rename_i k
    obtain ⟨hk, rfl⟩ := hO.loc_
    split at e
    · rename_i xs e0
      obtain ⟨ho, h1, vs, rfl, r⟩ := hs.get e0
      split at e
      · rename_i z
        split at e
        · rename_i j ej
          cases e
          exact set_list pins s σ H _ i v ov iv u Q I ro ri rv ⟨_, vs, z, j, rfl, hI.int_, h1, by rw [RpL.length r]; exact ej, fin hk rfl ⟨_, rfl, RpL.set hV _ r⟩⟩
        · cases e
      · cases e
    · rename_i kvs e0
      obtain ⟨ho, h1, vs, rfl, r⟩ := hs.get e0
      split at e
      · rename_i q' ek
        split at e
        · rename_i hl
          cases e
          have ev := keyD_ok hI ek
          subst ev
          cases (show ov = Value.ref (ρ k) from ro)
          exact d_setItem hu I (DPut.k h1 (by rw [RpA.length r]; exact hl)) ri rv fun s4 I4 => ⟨_, I4, fin hk rfl ⟨_, rfl, RpA.put hV _ r⟩⟩
        · cases e
      · cases e
    · cases e
  · cases e
def gSb (o i : EM D) : GM := fun v E s => (o E s).bind fun dO s1 => (i E s1).bind fun dI s2 => match pSet dO dI v s2 with
  | some s3 => .ok E s3
  | none => .err
theorem mg_sub {o i : Expr} {mo mi : EM D} {pos : Pos} (hr : Room 0 X.A) (ho : ME X (fun _ _ _ _ => False) o mo) (hi : ME X (fun _ _ _ _ => False) i mi)
    (ha : ∀ v, assign (.Subscript o i pos) X.env v = (do
      let ov ← holding [v] (eval o X.env)
      let iv ← holding [v, ov] (eval i X.env)
      standAt pos
      holding [v, ov, iv] (setItem ov iv v)
      release [v, ov, iv] [])) : MG X (.Subscript o i pos) [] (gSb mo mi) := by
  refine PG.imp (pg_sub ho hi (pset_ok hr) ha) ?_
  rintro v σ H Q ⟨ρ, E, s, d, hs, he, hr, h⟩
  unfold gSb at h
  cases q1 : mo E s with
  | exc y s1 => rw [q1] at h; exact h.elim
  | err => rw [q1] at h; exact h.elim
  | ok dO s1 =>
    rw [q1] at h
    refine ⟨ρ, E, s, hs, he, ?_⟩
    rw [q1]
    intro ρ1 H1 ov L1 hs1 r1
    cases q2 : mi E s1 with
    | exc y s2 => simp only [Res.bind_ok, q2, Res.bind_exc] at h
    | err => simp only [Res.bind_ok, q2, Res.bind_err] at h
    | ok dI s2 =>
      simp only [Res.bind_ok, q2] at h
      refine ⟨ρ1, E, s1, hs1, he.lat L1, ?_⟩
      rw [q2]
      intro ρ2 H2 iv L2 hs2 r2
      cases q3 : pSet dO dI d s2 with
      | none => rw [q3] at h; exact h.elim
      | some s3 =>
        rw [q3] at h
        have L12 := L1.trans L2
        exact ⟨ρ2, s2, dO, dI, d, s3, hs2, Rp.lat L2 _ r1, r2, Rp.lat L12 _ hr, q3, fun H' L3 hs3 => h ρ2 σ H' (L12.trans L3) hs3 (he.lat (L12.trans L3)) (Out.refl σ)⟩
end
end Y

set_option Elab.async false
set_option linter.all false
set_option maxRecDepth 100000
/-! Y8: statements, loops. -/
namespace Y
open PySem L2

inductive SR where
  | nx (E : Ev) (s : Sto)
  | rt (d : D) (s : Sto)
  | bk (E : Ev) (s : Sto)
  | ct (E : Ev) (s : Sto)
  | exc (x : Str) (E : Ev) (s : Sto)
  | err
abbrev SM := Ev → Sto → SR
def SQ (w : Wd) (W : WX) (ρ : Nat → Addr) (n : Nat) (H : Hp) (r : SR) (Dn : Ends) : Prop := match r with
  | .nx E' s' => ∀ ρ' σ' H', Lat ρ n H ρ' s'.length H' → RS w ρ' H' s' → RE w ρ' s'.length H' σ' E' → Dn.nx σ' H'
  | .bk E' s' => ∀ ρ' σ' H', Lat ρ n H ρ' s'.length H' → RS w ρ' H' s' → RE w ρ' s'.length H' σ' E' → Dn.bk σ' H'
  | .ct E' s' => ∀ ρ' σ' H', Lat ρ n H ρ' s'.length H' → RS w ρ' H' s' → RE w ρ' s'.length H' σ' E' → Dn.ct σ' H'
  | .rt d s' => ∀ ρ' H' v, Lat ρ n H ρ' s'.length H' → RS w ρ' H' s' → Rp w ρ' s'.length H' v d → Dn.rt v H'
  | .exc x E' s' => ∀ ρ' σ' H' c, Lat ρ n H ρ' s'.length H' → RS w ρ' H' s' → RE w ρ' s'.length H' σ' E' → w.mg x = some c → W c none σ' H'
  | .err => False
def tS (w : Wd) (W : WX) (m : SM) : TS := fun Dn σ H => ∃ ρ E s, RS w ρ H s ∧ RE w ρ s.length H σ E ∧ SQ w W ρ s.length H (m E s) Dn
abbrev MS (X : Cx) (W : WX) (st : Stmt) (m : SM) : Prop := PS X st (tS (wd X) W m)
abbrev MB (X : Cx) (W : WX) (sts : List Stmt) (m : SM) : Prop := PSs X sts (tS (wd X) W m)
def sErr : SM := fun _ _ => .err
theorem tS_err {w : Wd} {W : WX} {Dn : Ends} {σ : St} {H : Hp} (h : tS w W sErr Dn σ H) : False := by obtain ⟨_, _, _, _, _, h⟩ := h; exact h
theorem SQ.lat {w : Wd} {W : WX} {ρ ρ1 : Nat → Addr} {n n1 : Nat} {H H1 : Hp} {r : SR} {Dn : Ends} (h : SQ w W ρ n H r Dn) (L : Lat ρ n H ρ1 n1 H1) : SQ w W ρ1 n1 H1 r Dn := by
  cases r with
  | nx E' s' => exact fun ρ' σ' H' L' a b => h ρ' σ' H' (L.trans L') a b
  | bk E' s' => exact fun ρ' σ' H' L' a b => h ρ' σ' H' (L.trans L') a b
  | ct E' s' => exact fun ρ' σ' H' L' a b => h ρ' σ' H' (L.trans L') a b
  | rt d s' => exact fun ρ' H' v L' a b => h ρ' H' v (L.trans L') a b
  | exc x E' s' => exact fun ρ' σ' H' c L' a b e => h ρ' σ' H' c (L.trans L') a b e
  | err => exact h
def exprS {α : Type} (m : EM α) (k : α → SM) : SM := fun E s => match m E s with
  | .ok a s1 => k a E s1
  | .exc x s1 => .exc x E s1
  | .err => .err
theorem tS.ex {α β : Type} {w : Wd} {R : Rl α β} {W : WX} {m : EM α} {k : α → SM} {Dn : Ends} {σ : St} {H : Hp} (h : tS w W (exprS m k) Dn σ H) :
    tM w R W m σ H fun b H1 => ∃ ρ1 E s1 a, RS w ρ1 H1 s1 ∧ RE w ρ1 s1.length H1 σ E ∧ R ρ1 s1.length H1 b a ∧ SQ w W ρ1 s1.length H1 (k a E s1) Dn := by
  obtain ⟨ρ, E, s, hs, he, h⟩ := h
  refine ⟨ρ, E, s, hs, he, ?_⟩
  unfold exprS at h
  cases q : m E s with
  | ok a s1 =>
    rw [q] at h
    exact fun ρ' H' b L hs' hr => ⟨ρ', E, s1, a, hs', he.lat L, hr, h.lat L⟩
  | exc x s1 =>
    rw [q] at h
    exact fun ρ' H' c L hs' hc => h ρ' σ H' c L hs' (he.lat L) hc
  | err => rw [q] at h; exact h
/-- the same for a fresh list -/
theorem tS.exF {w : Wd} {W : WX} {m : EM (List D)} {k : D → SM} {Dn : Ends} {σ : St} {H : Hp} (h : tS w W (exprS (eAlloc m) k) Dn σ H) :
    tF w W m σ H fun b H1 => ∃ ρ1 E s1 d, RS w ρ1 H1 s1 ∧ RE w ρ1 s1.length H1 σ E ∧ Rp w ρ1 s1.length H1 b d ∧ SQ w W ρ1 s1.length H1 (k d E s1) Dn := by
  obtain ⟨ρ, E, s, hs, he, h⟩ := h
  refine ⟨ρ, E, s, hs, he, ?_⟩
  unfold exprS eAlloc at h
  cases q : m E s with
  | ok ds s' =>
    rw [q] at h
    simp only [Res.bind_ok] at h
    intro ρ' H' a vs L hs' h0 hn e r
    have hl : (s' ++ [O.lst ds]).length = s'.length + 1 := by simp
    have L2 : Lat ρ s.length H (ext ρ' s'.length a) (s' ++ [O.lst ds]).length H' := by
      rw [hl]
      refine ⟨Nat.le_succ_of_le L.le, fun k hk => by rw [ext_lt (Nat.lt_of_lt_of_le hk L.le)]; exact L.agree k hk, L.keep, L.froz, L.dom, fun k h1 h2 => ?_⟩
      by_cases hk : k < s'.length
      · rw [ext_lt hk]; exact L.new k h1 hk
      · have : k = s'.length := by omega
        rw [this, ext_eq]; exact h0
    refine ⟨ext ρ' s'.length a, E, s' ++ [O.lst ds], .loc s'.length, hs'.adopt hn e ⟨vs, rfl, r⟩, he.lat L2, ?_, h.lat L2⟩
    unfold Rp
    exact ⟨by rw [hl]; exact Nat.lt_succ_self _, by rw [ext_eq]⟩
  | exc x s1 =>
    rw [q] at h
    exact fun ρ' H' c L hs' hc => h ρ' σ H' c L hs' (he.lat L) hc
  | err => rw [q] at h; exact h

section
variable {X : Cx} {W : WX}
theorem ms_err {st : Stmt} : MS X W st sErr := ⟨fun _ _ _ _ _ _ h => (tS_err h).elim⟩
theorem mb_err {st : List Stmt} : MB X W st sErr := ⟨fun _ _ _ _ _ _ h => (tS_err h).elim⟩
def sNil : SM := fun E s => .nx E s
def sCons (a b : SM) : SM := fun E s => match a E s with
  | .nx E1 s1 => b E1 s1
  | r => r
theorem mb_nil : MB X W [] sNil := by
  refine PSs.imp pss_nil ?_
  rintro Dn σ H ⟨ρ, E, s, hs, he, h⟩
  exact h ρ σ H Lat.refl hs he
theorem mb_cons {st : Stmt} {sts : List Stmt} {a b : SM} (h1 : MS X W st a) (h2 : MB X W sts b) : MB X W (st :: sts) (sCons a b) := by
  refine PSs.imp (pss_cons h1 h2) ?_
  rintro Dn σ H ⟨ρ, E, s, hs, he, h⟩
  refine ⟨ρ, E, s, hs, he, ?_⟩
  unfold sCons at h
  cases q : a E s with
  | nx E1 s1 =>
    rw [q] at h
    exact fun ρ' σ' H' L hs' he' => ⟨ρ', E1, s1, hs', he', h.lat L⟩
  | rt d s1 => rw [q] at h; exact h
  | bk E1 s1 => rw [q] at h; exact h
  | ct E1 s1 => rw [q] at h; exact h
  | exc x E1 s1 => rw [q] at h; exact h
  | err => rw [q] at h; exact h
variable {pos : Pos} {e : Expr} {m : EM D}
theorem ms_pass : MS X W (.Pass pos) sNil := by
  refine PS.imp ps_pass ?_
  rintro Dn σ H ⟨ρ, E, s, hs, he, h⟩
  exact h ρ σ H Lat.refl hs he
def sBreak : SM := fun E s => .bk E s
def sCont : SM := fun E s => .ct E s
theorem ms_break : MS X W (.Break pos) sBreak := by
  refine PS.imp ps_break ?_
  rintro Dn σ H ⟨ρ, E, s, hs, he, h⟩
  exact h ρ σ H Lat.refl hs he
theorem ms_cont : MS X W (.Continue pos) sCont := by
  refine PS.imp ps_continue ?_
  rintro Dn σ H ⟨ρ, E, s, hs, he, h⟩
  exact h ρ σ H Lat.refl hs he
def sRet (m : EM D) : SM := exprS m fun d _ s => .rt d s
theorem ms_ret (he : ME X W e m) : MS X W (.Return (some e) pos) (sRet m) := by
  refine PS.imp (ps_ret he) fun Dn σ H h => ?_
  obtain ⟨ρ, E, s, hs, he, h⟩ := tS.ex (R := Rp (wd X)) h
  refine ⟨ρ, E, s, hs, he, RQ.mono h ?_⟩
  rintro v H1 ⟨ρ1, E1, s1, d, hs1, he1, r, q⟩
  exact q ρ1 H1 v Lat.refl hs1 r
def sRetN : SM := fun _ s => .rt .non s
theorem ms_retN : MS X W (.Return none pos) sRetN := by
  refine PS.imp ps_retN ?_
  rintro Dn σ H ⟨ρ, E, s, hs, he, h⟩
  exact h ρ H _ Lat.refl hs Rp.non
def sExpr (m : EM D) : SM := exprS m fun _ E s => .nx E s
theorem ms_expr (he : ME X W e m) (hs : swapsWith e none pos.line X.env = pure false) : MS X W (.Expr e pos) (sExpr m) := by
  refine PS.imp (ps_expr he hs) fun Dn σ H h => ?_
  obtain ⟨ρ, E, s, hs, he, h⟩ := tS.ex (R := Rp (wd X)) h
  refine ⟨ρ, E, s, hs, he, RQ.mono h ?_⟩
  rintro v H1 ⟨ρ1, E1, s1, d, hs1, he1, r, q⟩
  exact q ρ1 σ H1 Lat.refl hs1 he1
def sIf (c : EM Bool) (a b : SM) : SM := exprS c fun k E s => if k = true then a E s else b E s
theorem ms_if {c : Expr} {mc : EM Bool} {xs ys : List Stmt} {a b : SM} (hc : MT X W c mc) (ha : MB X W xs a) (hb : MB X W ys b) : MS X W (.If c xs ys pos) (sIf mc a b) := by
  refine PS.imp (ps_if hc ha hb) fun Dn σ H h => ?_
  obtain ⟨ρ, E, s, hs, he, h⟩ := tS.ex (R := RB) h
  refine ⟨ρ, E, s, hs, he, RQ.mono h ?_⟩
  rintro k H1 ⟨ρ1, E1, s1, k', hs1, he1, r, q⟩
  cases r
  cases k with
  | true => exact ⟨ρ1, E1, s1, hs1, he1, q⟩
  | false => exact ⟨ρ1, E1, s1, hs1, he1, q⟩
def sSet (i : Nat) (m : EM D) : SM := exprS m fun d E s => .nx (E.set i (some d)) s
theorem ms_set {i : Nat} {x : Str} {pos' : Pos} (hN : X.N.Nodup) (hi : X.N[i]? = some x) (hx : Loc X.env.scope x) (he : ME X W e m) (hs : swapsWith e (some (.Name x pos')) pos.line X.env = pure false) (hf : X.fn x = true ∨ X.env.scope.names.lookup x = some .local) : MS X W (.Assign [.Name x pos'] e pos) (sSet i m) := by
  refine PS.imp (ps_set hN hi hx he hs hf) fun Dn σ H h => ?_
  obtain ⟨ρ, E, s, hs, he, h⟩ := tS.ex (R := Rp (wd X)) h
  refine ⟨ρ, E, s, hs, he, RQ.mono h ?_⟩
  rintro v H1 ⟨ρ1, E1, s1, d, hs1, he1, r, q⟩
  exact q ρ1 _ H1 Lat.refl hs1 (he1.set i r)
def sAsg (g : GM) (m : EM D) : SM := exprS m fun d E s => match g d E s with
  | .ok E' s' => .nx E' s'
  | _ => .err
theorem ms_asg {tg : Expr} {g : GM} {sl : List Nat} (he : ME X W e m) (hg : MG X tg sl g) (hs : swapsWithSole [tg] e pos.line X.env = pure false) (hw : swappedStores [tg] e X.env = pure none)
    (h1 : (assignEach [tg] X.env).map (·.2) = [assign tg X.env]) : MS X W (.Assign [tg] e pos) (sAsg g m) := by
  refine PS.imp (ps_asg he hg hs hw h1) fun Dn σ H h => ?_
  obtain ⟨ρ, E, s, hs, he, h⟩ := tS.ex (R := Rp (wd X)) h
  refine ⟨ρ, E, s, hs, he, RQ.mono h ?_⟩
  rintro v H1 ⟨ρ1, E1, s1, d, hs1, he1, r, q⟩
  refine ⟨ρ1, E1, s1, d, hs1, he1, r, ?_⟩
  cases z : g d E1 s1 with
  | ok E' s' => rw [z] at q; exact fun ρ' σ' H' L a b _ => q ρ' σ' H' L a b
  | exc x s' => rw [z] at q; exact q.elim
  | err => rw [z] at q; exact q.elim
/-- x op= e, by values -/
def pInp : Operator → P2
  | .Add => fun x y s => match x, y with
    | .int i, .int j => some (.int (i + j), s)
    | .str a, .str b => if a.length + b.length ≤ sizeLine then some (.str (a ++ b), s) else none
    | _, _ => none
  | .Sub => pSub
  | .FloorDiv => pDiv
  | .Mult => fun x y s => match x, y with
    | .int i, .int j => if fitI i = true ∨ fitI j = true then some (.int (i * j), s) else none
    | _, _ => none
  | .Mod => pMod
  | _ => p2None
theorem op_inp (op : Operator) : OpM X (inplaceOp op) (pInp op) := by
  cases op with
  | Add =>
    rintro pins s σ H x y v u Q I rx ry ⟨ρ, st, dx, dy, hs, hx, hy, q⟩
    simp only [pInp] at q
    split at q
    · exact iop_add pins s σ H x y v u Q I rx ry ⟨_, _, hx.int_, hy.int_, q.val hs (Rp.int _)⟩
    · split at q
      · rename_i hl
        exact iop_add_str pins s σ H x y v u Q I rx ry ⟨_, _, hx.str_, hy.str_, hl, q.val hs (Rp.str _)⟩
      · exact q.elim
    · exact q.elim
  | Sub =>
    refine op_int (C := fun _ _ => True) (g := fun i j => i - j) (fun pins s σ H x y v u Q I rx ry ⟨i, j, a, b, _, q⟩ => iop_sub pins s σ H x y v u Q I rx ry ⟨i, j, a, b, q⟩) fun dx dy s r e => ?_
    have e : pSub dx dy s = some r := e
    unfold pSub at e
    split at e
    · cases e; exact ⟨_, _, rfl, rfl, trivial, rfl⟩
    · cases e
  | Mult =>
    refine op_int (C := fun i j => (-(2 ^ 64) < i ∧ i < 2 ^ 64) ∨ (-(2 ^ 64) < j ∧ j < 2 ^ 64)) (g := fun i j => i * j) iop_mul fun dx dy s r e => ?_
    simp only [pInp] at e
    split at e
    · split at e
      · rename_i hc; cases e; exact ⟨_, _, rfl, rfl, hc.imp fitI_64 fitI_64, rfl⟩
      · cases e
    · cases e
  | FloorDiv =>
    refine op_int (C := fun i j => 0 < j ∧ j.natAbs.log2 < 9000) (g := fun i j => i / j) iop_fdivW fun dx dy s r e => ?_
    have e : pDiv dx dy s = some r := e
    unfold pDiv at e
    split at e
    · split at e
      · cases e; exact ⟨_, _, rfl, rfl, by assumption, rfl⟩
      · cases e
    · cases e
  | Mod =>
    refine op_int (C := fun i j => 0 < j) (g := fun i j => i % j) iop_mod fun dx dy s r e => ?_
    have e : pMod dx dy s = some r := e
    unfold pMod at e
    split at e
    · split at e
      · cases e; exact ⟨_, _, rfl, rfl, by assumption, rfl⟩
      · cases e
    · cases e
  | _ => exact op_none
def sAug (i : Nat) (op : Operator) (m : EM D) : SM := fun E s => match E[i]? with
  | some (some x) => exprS (fun E s => (m E s).bind fun y s1 => Res.ofO (pInp op x y s1)) (fun d E s => .nx (E.set i (some d)) s) E s
  | _ => .err
theorem ms_aug {i : Nat} {x : Str} {op : Operator} {pos' : Pos} (hN : X.N.Nodup) (hi : X.N[i]? = some x) (hx : Loc X.env.scope x) (he : ME X W e m) (hf : X.fn x = true ∨ X.env.scope.names.lookup x = some .local) : MS X W (.AugAssign (.Name x pos') op e pos) (sAug i op m) := by
  refine PS.imp (ps_aug (ti := r2 (wd X) (pInp op)) hN hi hx he (op_inp op) hf) fun Dn σ H h => ?_
  obtain ⟨ρ, E, s, hs, he, h⟩ := h
  unfold sAug at h
  split at h
  · rename_i dx ex
    obtain ⟨v, hv, rv⟩ := he.val _ _ ex
    refine ⟨v, hv, ρ, E, s, hs, he, ?_⟩
    unfold exprS at h
    cases q : m E s with
    | ok dy s1 =>
      simp only [q, Res.bind_ok] at h
      intro ρ1 H1 y L1 hs1 ry
      refine ⟨ρ1, s1, dx, dy, hs1, Rp.lat L1 _ rv, ry, ?_⟩
      cases z : pInp op dx dy s1 with
      | none => rw [z] at h; exact h.elim
      | some p =>
        obtain ⟨d, s2⟩ := p
        rw [z] at h
        intro ρ2 H2 zv L2 hs2 rz
        have L12 := L1.trans L2
        exact h ρ2 _ H2 L12 hs2 ((he.lat L12).set i rz)
    | exc y s1 =>
      simp only [q, Res.bind_exc] at h
      exact fun ρ' H' c L hs' hc => h ρ' σ H' c L hs' (he.lat L) hc
    | err => simp only [q, Res.bind_err] at h; exact h.elim
  · exact h.elim
/-- while -/
def whileL (c : EM Bool) (b : SM) : Nat → SM
  | 0, _, _ => .err
  | n + 1, E, s => match c E s with
    | .ok true s1 => match b E s1 with
      | .nx E2 s2 => whileL c b n E2 s2
      | .ct E2 s2 => whileL c b n E2 s2
      | .bk E2 s2 => .nx E2 s2
      | r => r
    | .ok false s1 => .nx E s1
    | .exc x s1 => .exc x E s1
    | .err => .err
def fuelMax : Nat := 1000000000
def sWhile (c : EM Bool) (b : SM) : SM := whileL c b fuelMax
theorem ms_while {c : Expr} {body : List Stmt} {mc : EM Bool} {b : SM} (hp : PassesOwn (model X.prog X.w) X.A X.env X.xe) (hc : MT X W c mc) (hb : MB X W body b) : MS X W (.While c body [] pos) (sWhile mc b) := by
  refine PS.imp (ps_while hp hc hb) ?_
  rintro Dn σ H ⟨ρ, E, s, hs, he, h⟩
  refine ⟨fun m σ H => ∃ ρ E s, RS (wd X) ρ H s ∧ RE (wd X) ρ s.length H σ E ∧ SQ (wd X) W ρ s.length H (whileL mc b m E s) Dn, ⟨fuelMax, ρ, E, s, hs, he, h⟩, ?_⟩
  rintro m σ H ⟨ρ, E, s, hs, he, h⟩
  cases m with
  | zero => exact h.elim
  | succ m =>
    refine ⟨ρ, E, s, hs, he, ?_⟩
    simp only [whileL] at h
    cases q : mc E s with
    | ok k s1 =>
      rw [q] at h
      intro ρ1 H1 k' L1 hs1 ek
      cases ek
      cases k with
      | false => exact SQ.lat h L1 ρ1 σ H1 Lat.refl hs1 (he.lat L1)
      | true =>
        refine ⟨fun σ' H' => ∃ ρ E s, RS (wd X) ρ H' s ∧ RE (wd X) ρ s.length H' σ' E ∧ SQ (wd X) W ρ s.length H' (whileL mc b m E s) Dn, fun σ' H' z => ⟨m, Nat.lt_succ_self m, z⟩, ρ1, E, s1, hs1, he.lat L1, ?_⟩
        have h := SQ.lat h L1
        cases q2 : b E s1 with
        | nx E2 s2 => simp only [q2] at h; exact fun ρ' σ' H' L hs' he' => ⟨ρ', E2, s2, hs', he', h.lat L⟩
        | ct E2 s2 => simp only [q2] at h; exact fun ρ' σ' H' L hs' he' => ⟨ρ', E2, s2, hs', he', h.lat L⟩
        | bk E2 s2 => simp only [q2] at h; exact h
        | rt d s2 => simp only [q2] at h; exact h
        | exc x E2 s2 => simp only [q2] at h; exact h
        | err => simp only [q2] at h; exact h
    | exc x s1 =>
      rw [q] at h
      exact fun ρ' H' c L hs' hc => h ρ' σ H' c L hs' (he.lat L) hc
    | err => rw [q] at h; exact h.elim

/-! ### what is walked -/
inductive Src where
  | fix (ds : List D)
  | lst (k : Nat)
def Src.at (src : Src) (i : Nat) (s : Sto) : Option (Option D) := match src with
  | .fix ds => some ds[i]?
  | .lst k => match s[k]? with
    | some (.lst xs) => some xs[i]?
    | _ => none
def RJ (w : Wd) : Rl Src It := fun ρ n H J src => ∀ i ρ1 H1 s1, Lat ρ n H ρ1 s1.length H1 → RS w ρ1 H1 s1 → match src.at i s1 with
  | some none => J.stop i H1
  | some (some d) => J.go i H1 ∧ ∀ x H2, J.yld i H1 x H2 → Lat ρ1 s1.length H1 ρ1 s1.length H2 ∧ RS w ρ1 H2 s1 ∧ Rp w ρ1 s1.length H2 x d
  | none => True
abbrev MI (X : Cx) (W : WX) (tg iter : Expr) (m : EM Src) : Prop := PI X tg iter (tM (wd X) (RJ (wd X)) W m)
theorem PI.imp {X : Cx} {tg iter : Expr} {t t' : TI} (h : PI X tg iter t) (hi : ∀ σ H R, t' σ H R → t σ H R) : PI X tg iter t' := ⟨fun pins s σ H R I q => h.run pins s σ H R I (hi _ _ _ q)⟩
def iErr : EM Src := fun _ _ => .err
theorem mi_err {tg iter : Expr} : MI X W tg iter iErr := ⟨fun _ _ _ _ _ _ h => by obtain ⟨_, _, _, _, _, h⟩ := h; exact h.elim⟩
def turnL (g : GM) (b : SM) (d : D) (k : SM) : SM := fun E s => match g d E s with
  | .ok E1 s1 => match b E1 s1 with
    | .nx E2 s2 => k E2 s2
    | .ct E2 s2 => k E2 s2
    | .bk E2 s2 => .nx E2 s2
    | r => r
  | _ => .err
def forL (g : GM) (b : SM) : List D → SM
  | [] => fun E s => .nx E s
  | d :: ds => turnL g b d (forL g b ds)
def forK (g : GM) (b : SM) (k : Nat) : Nat → Nat → SM
  | 0, _ => fun _ _ => .err
  | n + 1, i => fun E s => match s[k]? with
    | some (.lst xs) => match xs[i]? with
      | some d => turnL g b d (forK g b k n (i + 1)) E s
      | none => .nx E s
    | _ => .err
def forS (g : GM) (b : SM) (src : Src) : SM := match src with
  | .fix ds => forL g b ds
  | .lst k => forK g b k fuelMax 0
def sFor (it : EM Src) (g : GM) (b : SM) : SM := exprS it (forS g b)
/-- one turn -/
theorem turn_run {w : Wd} {g : GM} {b : SM} {sl : List Nat} {d : D} {k : SM} {Dn : Ends} {ρ ρ0 : Nat → Addr} {n0 : Nat} {H H0 : Hp} {σ : St} {E : Ev} {s : Sto} {x : V} {Nn : St → Hp → Prop} (hs : RS w ρ H s) (he : RE w ρ s.length H σ E) (rd : Rp w ρ s.length H x d)
    (L0 : Lat ρ0 n0 H0 ρ s.length H) (h : SQ w W ρ s.length H (turnL g b d k E s) Dn)
    (hN : ∀ ρ' σ' H' E' s', Lat ρ0 n0 H0 ρ' s'.length H' → RS w ρ' H' s' → RE w ρ' s'.length H' σ' E' → SQ w W ρ' s'.length H' (k E' s') Dn → Nn σ' H') :
    tG w sl g x σ H fun σ2 H2 => tS w W b { Dn with nx := Nn, ct := Nn, bk := Dn.nx } σ2 H2 := by
  refine ⟨ρ, E, s, d, hs, he, rd, ?_⟩
  unfold turnL at h
  cases q : g d E s with
  | ok E1 s1 =>
    rw [q] at h
    intro ρ1 σ1 H1 L1 hs1 he1 _
    refine ⟨ρ1, E1, s1, hs1, he1, ?_⟩
    have h := SQ.lat h L1
    cases q2 : b E1 s1 with
    | nx E2 s2 => simp only [q2] at h; exact fun ρ' σ' H' L hs' he' => hN ρ' σ' H' E2 s2 ((L0.trans L1).trans L) hs' he' (h.lat L)
    | ct E2 s2 => simp only [q2] at h; exact fun ρ' σ' H' L hs' he' => hN ρ' σ' H' E2 s2 ((L0.trans L1).trans L) hs' he' (h.lat L)
    | bk E2 s2 => simp only [q2] at h; exact h
    | rt d' s2 => simp only [q2] at h; exact h
    | exc y E2 s2 => simp only [q2] at h; exact h
    | err => simp only [q2] at h; exact h
  | exc y s1 => rw [q] at h; exact h.elim
  | err => rw [q] at h; exact h.elim
theorem ms_for {tg iter : Expr} {body : List Stmt} {it : EM Src} {g : GM} {sl : List Nat} {b : SM} (hp : PassesOwn (model X.prog X.w) X.A X.env X.xe) (hc : X.calm = true) (hi : MI X W tg iter it) (hg : MG X tg sl g) (hb : MB X W body b)
    (hs : ∀ x, foldedSetIterable iter X.env x = pure x) : MS X W (.For tg iter body [] pos) (sFor it g b) := by
  refine PS.imp (ps_for hp hc hi hg hb hs) fun Dn σ H h => ?_
  obtain ⟨ρ, E, s, hs, he, h⟩ := tS.ex (R := RJ (wd X)) h
  refine ⟨ρ, E, s, hs, he, RQ.mono h ?_⟩
  rintro J H0 ⟨ρ0, E0, s0, src, hs0, he0, rj, q⟩
  cases src with
  | fix ds =>
    refine ⟨fun i m σ H => i ≤ ds.length ∧ m = ds.length - i ∧ ∃ ρ E s, Lat ρ0 s0.length H0 ρ s.length H ∧ RS (wd X) ρ H s ∧ RE (wd X) ρ s.length H σ E ∧ SQ (wd X) W ρ s.length H (forL g b (ds.drop i) E s) Dn, ⟨ds.length, Nat.zero_le _, rfl, ρ0, E0, s0, Lat.refl, hs0, he0, q⟩, ?_⟩
    rintro i m σ H ⟨hi, rfl, ρ, E, s, L, hs, he, h⟩
    have rji := rj i ρ H s L hs
    simp only [Src.at] at rji
    by_cases hlt : i < ds.length
    · rw [List.getElem?_eq_getElem hlt] at rji
      obtain ⟨go, yl⟩ := rji
      refine .inr ⟨go, fun σ' H' => ∃ ρ E s, Lat ρ0 s0.length H0 ρ s.length H' ∧ RS (wd X) ρ H' s ∧ RE (wd X) ρ s.length H' σ' E ∧ SQ (wd X) W ρ s.length H' (forL g b (ds.drop (i + 1)) E s) Dn, fun σ' H' z => ⟨ds.length - (i + 1), by omega, hlt, rfl, z⟩, fun x H' y => ?_⟩
      obtain ⟨L1, hs1, rx⟩ := yl x H' y
      rw [List.drop_eq_getElem_cons hlt] at h
      exact turn_run hs1 (he.lat L1) rx (L.trans L1) (SQ.lat h L1) fun ρ' σ' H' E' s' a b c d => ⟨ρ', E', s', a, b, c, d⟩
    · rw [List.getElem?_eq_none (by omega)] at rji
      rw [List.drop_eq_nil_of_le (by omega)] at h
      exact .inl ⟨rji, h ρ σ H Lat.refl hs he⟩
  | lst k =>
    refine ⟨fun i m σ H => ∃ ρ E s, Lat ρ0 s0.length H0 ρ s.length H ∧ RS (wd X) ρ H s ∧ RE (wd X) ρ s.length H σ E ∧ SQ (wd X) W ρ s.length H (forK g b k m i E s) Dn, ⟨fuelMax, ρ0, E0, s0, Lat.refl, hs0, he0, q⟩, ?_⟩
    rintro i m σ H ⟨ρ, E, s, L, hs, he, h⟩
    cases m with
    | zero => exact h.elim
    | succ m =>
      have rji := rj i ρ H s L hs
      simp only [Src.at] at rji
      simp only [forK] at h
      split at h
      · rename_i xs e0
        rw [e0] at rji
        simp only at rji
        split at h
        · rename_i d ed
          rw [ed] at rji
          obtain ⟨go, yl⟩ := rji
          refine .inr ⟨go, fun σ' H' => ∃ ρ E s, Lat ρ0 s0.length H0 ρ s.length H' ∧ RS (wd X) ρ H' s ∧ RE (wd X) ρ s.length H' σ' E ∧ SQ (wd X) W ρ s.length H' (forK g b k m (i + 1) E s) Dn, fun σ' H' z => ⟨m, Nat.lt_succ_self m, z⟩, fun x H' y => ?_⟩
          obtain ⟨L1, hs1, rx⟩ := yl x H' y
          exact turn_run hs1 (he.lat L1) rx (L.trans L1) (SQ.lat h L1) fun ρ' σ' H' E' s' a b c d => ⟨ρ', E', s', a, b, c, d⟩
        · rename_i ed
          rw [ed] at rji
          exact .inl ⟨rji, h ρ σ H Lat.refl hs he⟩
      · exact h.elim
end
end Y

set_option Elab.async false
set_option linter.all false
set_option maxRecDepth 100000
/-! Y9: what is walked; comprehensions. -/
namespace Y
open PySem L2

abbrev W0 : WX := fun _ _ _ _ => False
/-! ### sources -/
section
variable {X : Cx} {W : WX} {tg : Expr}
def IterV (X : Cx) (tg : Expr) (r : V → Hp → (It → Hp → Prop) → Prop) : Prop :=
  ∀ (pins : List (Addr × Obj)) (s : Shared) (σ : St) (H : Hp) (x : V) (v : Value) (R : It → Hp → Prop), Inv X pins σ H s → RelV x v → r x H R → wpAny (model X.prog X.w) X.A (pyIter v) (PIE X pins σ tg R) X.xe s
theorem pi_val {l : Expr} {tl : TE} {r : V → Hp → (It → Hp → Prop) → Prop} (hl : PE X l tl) (hv : IterV X tg r) : PI X tg l (fun σ H R => tl σ H fun x H1 => r x H1 R) := by
  refine ⟨fun pins s σ H R I h => ?_⟩
  exact thn (hl.run pins s σ H _ I h) fun v s1 ⟨x, H1, I1, r1, q1⟩ => hv pins s1 σ H1 x v R I1 r1 q1
theorem iv_list : IterV X tg (fun x H R => ∃ a, x = .ref a ∧ (∃ xs, SqL X.K H a xs) ∧ R (Itl X.K a) H) := by
  intro pins s1 σ H1 x v R I1 r1 q1
  obtain ⟨a, e, ⟨xs, hq⟩, q⟩ := q1
  subst e
  cases r1
  obtain ⟨its, rv, p, hz⟩ := I1.list hq
  refine wpAny_pyIter_list p.isList ?_
  refine ⟨s1.heap.objs.size, [s1.heap.objs.size], _, _, H1, rfl, I1.kept (t' := s1.toks) fun b o e => Heap.get?_push_of_some _ e, turn_list a _, ⟨_, Heap.get?_push_size _ rfl, rfl, rfl⟩, fun b hb => ?_, q⟩
  have e : b = s1.heap.objs.size := by simpa using hb
  subst e
  exact I1.fpOk (Nat.le_refl _) (I1.hok.fresh (Nat.le_refl _))
theorem iv_tup : IterV X tg (fun x H R => ∃ a, x = .ref a ∧ (∃ xs, SqT X.K H a xs) ∧ R (Itt X.K a) H) := by
  intro pins s1 σ H1 x v R I1 r1 q1
  obtain ⟨a, e, ⟨xs, hq⟩, q⟩ := q1
  subst e
  cases r1
  obtain ⟨its, rv, p, hz⟩ := I1.tuple hq
  refine wpAny_pyIter_tuple (show s1.heap.IsTuple a its.toArray from p) ?_
  refine ⟨s1.heap.objs.size, [s1.heap.objs.size], _, _, H1, rfl, I1.kept (t' := s1.toks) fun b o e => Heap.get?_push_of_some _ e, turn_tuple a _, ⟨_, Heap.get?_push_size _ rfl, rfl, rfl⟩, fun b hb => ?_, q⟩
  have e : b = s1.heap.objs.size := by simpa using hb
  subst e
  exact I1.fpOk (Nat.le_refl _) (I1.hok.fresh (Nat.le_refl _))
theorem iv_str : IterV X tg (fun y H R => ∃ x, y = .str x ∧ R (Its x) H) := by
  intro pins s1 σ H1 y v R I1 r1 q1
  obtain ⟨x, ex, q⟩ := q1
  subst ex
  obtain ⟨t, rfl⟩ := r1
  cases ha : x.cps.all (· < 128)
  · exact wpAny_pyIter_wide ha (pi_one (tk := s1.toks) I1 _ (turn_str _ x t "str_iterator" (.inr rfl)) ⟨_, Heap.get?_push_size _ rfl, rfl, rfl⟩ q)
  · exact wpAny_pyIter_ascii ha (pi_one (tk := s1.toks) I1 _ (turn_str _ x t "str_ascii_iterator" (.inl rfl)) ⟨_, Heap.get?_push_size _ rfl, rfl, rfl⟩ q)
theorem IterV.or {r r' : V → Hp → (It → Hp → Prop) → Prop} (h : IterV X tg r) (h' : IterV X tg r') : IterV X tg (fun x H R => r x H R ∨ r' x H R) :=
  fun pins s σ H x v R I rx q => q.elim (h pins s σ H x v R I rx) (h' pins s σ H x v R I rx)
end
def charsD (z : Str) : List D := z.cps.toList.map fun c => .str ⟨#[c]⟩
def srcD (d : D) (s : Sto) : Option Src := match d with
  | .tup xs => some (.fix xs)
  | .ro xs => some (.fix xs)
  | .str z => some (.fix (charsD z))
  | .loc k => match s[k]? with
    | some (.lst _) => some (.lst k)
    | _ => none
  | _ => none
def iVal (m : EM D) : EM Src := fun E s => (m E s).bind fun d s1 => match srcD d s1 with
  | some src => .ok src s1
  | none => .err
section
variable {w : Wd} {ρ : Nat → Addr} {n : Nat} {H : Hp}
theorem rj_tup {a : Addr} {vs : List V} {ds : List D} (sq : SqU w.K H a vs) (r : RpL w ρ n H vs ds) : RJ w ρ n H (Itt w.K a) (.fix ds) := by
  intro i ρ1 H1 s1 L hs
  simp only [Src.at]
  have sq1 := (SqU.lat L sq).sqT
  have r1 := RpL.lat L _ r
  cases e : ds[i]? with
  | none => exact ⟨vs, sq1, by rw [RpL.length r]; exact List.getElem?_eq_none_iff.mp e⟩
  | some d =>
    obtain ⟨v, e1, rv⟩ := r1.get e
    refine ⟨⟨vs, v, sq1, e1⟩, fun x H2 y => ?_⟩
    obtain ⟨rfl, y⟩ := y
    have e2 := y vs sq1
    rw [e1] at e2; cases e2
    exact ⟨Lat.refl, hs, rv⟩
theorem rj_ro {a : Addr} {vs : List V} {ds : List D} (sq : SqR w.K H a vs) (r : RpL w ρ n H vs ds) : RJ w ρ n H (Itl w.K a) (.fix ds) := by
  intro i ρ1 H1 s1 L hs
  simp only [Src.at]
  have sq1 := (SqR.lat L sq).sqL
  have r1 := RpL.lat L _ r
  cases e : ds[i]? with
  | none => exact ⟨vs, sq1, by rw [RpL.length r]; exact List.getElem?_eq_none_iff.mp e⟩
  | some d =>
    obtain ⟨v, e1, rv⟩ := r1.get e
    refine ⟨⟨vs, v, sq1, e1⟩, fun x H2 y => ?_⟩
    obtain ⟨rfl, y⟩ := y
    have e2 := y vs sq1
    rw [e1] at e2; cases e2
    exact ⟨Lat.refl, hs, rv⟩
theorem rj_fresh {a : Addr} {vs : List V} {ds : List D} (e : H a = some (.lst vs)) (hn : ∀ k, k < n → ρ k ≠ a) (r : RpL w ρ n H vs ds) : RJ w ρ n H (Itl w.K a) (.fix ds) := by
  intro i ρ1 H1 s1 L hs
  simp only [Src.at]
  have sq1 : SqL w.K H1 a vs := SqL.of (L.keep a _ e hn)
  have r1 := RpL.lat L _ r
  cases e : ds[i]? with
  | none => exact ⟨vs, sq1, by rw [RpL.length r]; exact List.getElem?_eq_none_iff.mp e⟩
  | some d =>
    obtain ⟨v, e1, rv⟩ := r1.get e
    refine ⟨⟨vs, v, sq1, e1⟩, fun x H2 y => ?_⟩
    obtain ⟨rfl, y⟩ := y
    have e2 := y vs sq1
    rw [e1] at e2; cases e2
    exact ⟨Lat.refl, hs, rv⟩
theorem rj_lst {k : Nat} (hk : k < n) : RJ w ρ n H (Itl w.K (ρ k)) (.lst k) := by
  intro i ρ1 H1 s1 L hs
  simp only [Src.at]
  cases e0 : s1[k]? with
  | none => trivial
  | some o =>
    cases o with
    | lst xs =>
      simp only
      obtain ⟨ho, h1, vs, rfl, r⟩ := hs.get e0
      have ea := L.agree k hk
      rw [ea] at h1
      have sq1 : SqL w.K H1 (ρ k) vs := SqL.of h1
      cases e : xs[i]? with
      | none => exact ⟨vs, sq1, by rw [RpL.length r]; exact List.getElem?_eq_none_iff.mp e⟩
      | some d =>
        obtain ⟨v, e1, rv⟩ := r.get e
        refine ⟨⟨vs, v, sq1, e1⟩, fun x H2 y => ?_⟩
        obtain ⟨rfl, y⟩ := y
        have e2 := y vs sq1
        rw [e1] at e2; cases e2
        exact ⟨Lat.refl, hs, rv⟩
    | dic _ => trivial
    | ins _ _ => trivial
theorem rj_str {z : Str} : RJ w ρ n H (Its z) (.fix (charsD z)) := by
  intro i ρ1 H1 s1 L hs
  simp only [Src.at, charsD]
  rw [List.getElem?_map]
  cases e : z.cps.toList[i]? with
  | none =>
    have : z.cps.toList.length ≤ i := List.getElem?_eq_none_iff.mp e
    exact (by simpa using this : z.cps.size ≤ i)
  | some c =>
    have e' : z.cps[i]? = some c := by simpa using e
    refine ⟨(Array.getElem?_eq_some_iff.mp e').1, fun x H2 y => ?_⟩
    obtain ⟨rfl, c', e2, rfl⟩ := y
    rw [e'] at e2; cases e2
    exact ⟨Lat.refl, hs, Rp.str _⟩
def rngD (lo hi : Int) : List D := (List.range (hi - lo).toNat).map fun i => .int (lo + (i : Nat))
theorem rj_rng {lo hi : Int} : RJ w ρ n H (Itr lo (hi - lo).toNat) (.fix (rngD lo hi)) := by
  intro i ρ1 H1 s1 L hs
  simp only [Src.at, rngD]
  rw [List.getElem?_map]
  by_cases h : i < (hi - lo).toNat
  · rw [List.getElem?_range h]
    refine ⟨h, fun x H2 y => ?_⟩
    obtain ⟨rfl, rfl⟩ := y
    exact ⟨Lat.refl, hs, Rp.int _⟩
  · rw [List.getElem?_eq_none (by rw [List.length_range]; omega)]
    exact Nat.le_of_not_lt h
end
section
variable {X : Cx} {W : WX} {tg : Expr}
theorem mi_val {e : Expr} {m : EM D} (h : ME X W e m) : MI X W tg e (iVal m) := by
  refine PI.imp (pi_val h ((iv_list.or iv_tup).or iv_str)) fun σ H R h => ?_
  unfold iVal at h
  obtain ⟨ρ, E, s, hs, he, h⟩ := tM.bind (R1 := Rp (wd X)) (m := m) h
  refine ⟨ρ, E, s, hs, he, RQ.mono h ?_⟩
  rintro x H1 ⟨ρ1, E1, s1, d, hs1, he1, rd, hq⟩
  split at hq
  · rename_i src e
    unfold srcD at e
    split at e
    · cases e
      obtain ⟨a, vs, rfl, sq, r⟩ := rd.tup_
      exact .inl (.inr ⟨a, rfl, ⟨vs, sq.sqT⟩, hq ρ1 H1 _ Lat.refl hs1 (rj_tup sq r)⟩)
    · cases e
      obtain ⟨a, vs, rfl, sq, r⟩ := rd.ro_
      exact .inl (.inl ⟨a, rfl, ⟨vs, sq.sqL⟩, hq ρ1 H1 _ Lat.refl hs1 (rj_ro sq r)⟩)
    · cases e
      exact .inr ⟨_, rd.str_, hq ρ1 H1 _ Lat.refl hs1 rj_str⟩
    · split at e
      · rename_i e0
        cases e
        obtain ⟨hk, rfl⟩ := rd.loc_
        obtain ⟨ho, h1, vs, rfl, r⟩ := hs1.get e0
        exact .inl (.inl ⟨_, rfl, ⟨vs, SqL.of h1⟩, hq ρ1 H1 _ Lat.refl hs1 (rj_lst hk)⟩)
      · cases e
    · cases e
  · exact hq.elim
def iFix (m : EM (List D)) : EM Src := fun E s => (m E s).bind fun ds s1 => .ok (.fix ds) s1
theorem mi_fresh {e : Expr} {m : EM (List D)} (h : MF X W e m) : MI X W tg e (iFix m) := by
  refine PI.imp (pi_val h iv_list) fun σ H R h => ?_
  obtain ⟨ρ, E, s, hs, he, h⟩ := h
  refine ⟨ρ, E, s, hs, he, ?_⟩
  simp only [iFix] at h
  cases q : m E s with
  | ok ds s' =>
    rw [q] at h
    intro ρ' H' a vs L hs' h0 hn e r
    exact ⟨a, rfl, ⟨vs, SqL.of e⟩, h ρ' H' _ L hs' (rj_fresh e hn r)⟩
  | exc x s' => rw [q] at h; exact h
  | err => rw [q] at h; exact h
def iRng1' (m : EM (List D)) : EM Src := fun E s => (m E s).bind fun ds s1 => match ds with
  | [.int j] => if fitI j = true then .ok (.fix (rngD 0 j)) s1 else .err
  | _ => .err
def iRng2' (m : EM (List D)) : EM Src := fun E s => (m E s).bind fun ds s1 => match ds with
  | [.int i, .int j] => if fitI i = true ∧ fitI j = true then .ok (.fix (rngD i j)) s1 else .err
  | _ => .err
theorem mi_range1 {a : Expr} {m : EM (List D)} {p pos : Pos} (hg : Gl X "range") (hm : X.mg "range" = none) (ha : MA X W [a] m) (hst : starEach [a] X.env = [(false, eval a X.env)]) : MI X W tg (.Call (.Name "range" p) [a] [] pos) (iRng1' m) := by
  refine PI.imp (pi_range1 hg hm ha hst) fun σ H R h => ?_
  unfold iRng1' at h
  obtain ⟨ρ, E, s, hs, he, h⟩ := tM.bind (R1 := RpL (wd X)) (m := m) h
  refine ⟨ρ, E, s, hs, he, RQ.mono h ?_⟩
  rintro xs H1 ⟨ρ1, E1, s1, ds, hs1, he1, rd, hq⟩
  split at hq
  · rename_i j
    split at hq
    · rename_i hb
      obtain ⟨v, r, rfl, h1, h2⟩ := rd.inv
      rw [h2.inv0, h1.int_]
      refine ⟨j, rfl, (fitI_62 hb).1, (fitI_62 hb).2, hq ρ1 H1 _ Lat.refl hs1 ?_⟩
      have := rj_rng (w := wd X) (ρ := ρ1) (n := s1.length) (H := H1) (lo := 0) (hi := j)
      rw [Int.sub_zero] at this
      exact this
    · exact hq.elim
  · exact hq.elim
theorem mi_range2 {a b : Expr} {m : EM (List D)} {p pos : Pos} (hg : Gl X "range") (hm : X.mg "range" = none) (ha : MA X W [a, b] m) (hst : starEach [a, b] X.env = [(false, eval a X.env), (false, eval b X.env)]) (hst2 : starEach [b] X.env = [(false, eval b X.env)]) : MI X W tg (.Call (.Name "range" p) [a, b] [] pos) (iRng2' m) := by
  refine PI.imp (pi_range2 hg hm ha hst hst2) fun σ H R h => ?_
  unfold iRng2' at h
  obtain ⟨ρ, E, s, hs, he, h⟩ := tM.bind (R1 := RpL (wd X)) (m := m) h
  refine ⟨ρ, E, s, hs, he, RQ.mono h ?_⟩
  rintro xs H1 ⟨ρ1, E1, s1, ds, hs1, he1, rd, hq⟩
  split at hq
  · rename_i i j
    split at hq
    · rename_i hb
      obtain ⟨v, r, rfl, h1, h2⟩ := rd.inv
      obtain ⟨v2, r2, rfl, h3, h4⟩ := h2.inv
      rw [h4.inv0, h1.int_, h3.int_]
      exact ⟨i, j, rfl, ⟨(fitI_62 hb.1).1, (fitI_62 hb.1).2, (fitI_62 hb.2).1, (fitI_62 hb.2).2⟩, hq ρ1 H1 _ Lat.refl hs1 rj_rng⟩
    · exact hq.elim
  · exact hq.elim
end
/-! ### zip of two tuples -/
def zipD (xs ys : List D) : List D := (xs.zip ys).map fun p => .tup [p.1, p.2]
theorem zipD_at {xs ys : List D} {i : Nat} {d : D} (h : (zipD xs ys)[i]? = some d) : ∃ x y, xs[i]? = some x ∧ ys[i]? = some y ∧ d = .tup [x, y] := by
  unfold zipD at h
  rw [List.getElem?_map] at h
  cases e : (xs.zip ys)[i]? with
  | none => rw [e] at h; cases h
  | some p =>
    rw [e] at h; cases h
    obtain ⟨a, b⟩ := p
    have := List.getElem?_zip_eq_some.mp e
    exact ⟨a, b, this.1, this.2, rfl⟩
theorem RpL.two {w : Wd} {ρ : Nat → Addr} {n : Nat} {H : Hp} {v u : V} {x y : D} (h : Rp w ρ n H v x) (h' : Rp w ρ n H u y) : RpL w ρ n H [v, u] [x, y] := by
  unfold RpL
  exact ⟨v, [u], rfl, h, RpL.one h'⟩
theorem rj_zip {w : Wd} {ρ : Nat → Addr} {n : Nat} {H : Hp} {a b : Addr} {vs ws : List V} {xs ys : List D} (sa : SqU w.K H a vs) (sb : SqU w.K H b ws) (ra : RpL w ρ n H vs xs) (rb : RpL w ρ n H ws ys) : RJ w ρ n H (RZ.ItzT w.K a b) (.fix (zipD xs ys)) := by
  intro i ρ1 H1 s1 L hs
  simp only [Src.at]
  have sa1 := (SqU.lat L sa).sqT
  have sb1 := (SqU.lat L sb).sqT
  have ra1 := RpL.lat L _ ra
  have rb1 := RpL.lat L _ rb
  cases e : (zipD xs ys)[i]? with
  | none =>
    refine ⟨vs, ws, sa1, sb1, ?_⟩
    have hl := List.getElem?_eq_none_iff.mp e
    unfold zipD at hl
    rw [List.length_map, List.length_zip] at hl
    rw [RpL.length ra, RpL.length rb]
    omega
  | some d =>
    obtain ⟨x, y, ex, ey, rfl⟩ := zipD_at e
    obtain ⟨v, ev, rv⟩ := ra1.get ex
    obtain ⟨u, eu, ru⟩ := rb1.get ey
    refine ⟨⟨vs, ws, v, u, sa1, sb1, ev, eu⟩, ?_⟩
    rintro x' H2 ⟨T, x2, y2, rfl, hT, rfl, h1, h2⟩
    have q1 := h1 vs sa1
    have q2 := h2 ws sb1
    rw [ev] at q1; cases q1
    rw [eu] at q2; cases q2
    have L1 : Lat ρ1 s1.length H1 ρ1 s1.length (upd H1 T (.tup [v, u])) := Lat.fresh hT
    refine ⟨L1, hs.fresh hT, ?_⟩
    unfold Rp
    exact ⟨T, [v, u], rfl, SqU.of upd_same, RpL.two (Rp.lat L1 _ rv) (Rp.lat L1 _ ru)⟩
def iZip' (m : EM (List D)) : EM Src := fun E s => (m E s).bind fun ds s1 => match ds with
  | [.tup xs, .tup ys] => .ok (.fix (zipD xs ys)) s1
  | _ => .err
theorem mi_zip {X : Cx} {W : WX} {a b : Expr} {m : EM (List D)} {p pos tpos : Pos} {elts : List Expr} {kk : Nat} (hg : Gl X "zip") (hm : X.mg "zip" = none) (ha : MA X W [a, b] m) (hst : starEach [a, b] X.env = (false, eval a X.env) :: starEach [b] X.env) (hpl : (backTo pos (starEach [b] X.env)).any (·.1) = false) :
    MI X W (.Tuple elts kk tpos) (.Call (.Name "zip" p) [a, b] [] pos) (iZip' m) := by
  refine PI.imp (RZ.pi_zipA hg hm ha hst hpl) fun σ H R h => ?_
  unfold iZip' at h
  obtain ⟨ρ, E, s, hs, he, h⟩ := tM.bind (R1 := RpL (wd X)) (m := m) h
  refine ⟨ρ, E, s, hs, he, RQ.mono h ?_⟩
  rintro xs H1 ⟨ρ1, E1, s1, ds, hs1, he1, rd, hq⟩
  split at hq
  · obtain ⟨v, r, rfl, h1, h2⟩ := rd.inv
    obtain ⟨v2, r2, rfl, h3, h4⟩ := h2.inv
    rw [h4.inv0]
    obtain ⟨a1, vs, rfl, sa, ra⟩ := h1.tup_
    obtain ⟨b1, ws, rfl, sb, rb⟩ := h3.tup_
    exact ⟨a1, b1, vs, ws, rfl, .inr ⟨sa.sqT, sb.sqT, hq ρ1 H1 _ Lat.refl hs1 (rj_zip sa sb ra rb)⟩⟩
  · exact hq.elim

/-! ### list comprehensions -/
def wipeE (E : Ev) : List Nat → Ev
  | [] => E
  | v :: vs => (wipeE E vs).set v none
theorem RE.wipe {w : Wd} {ρ : Nat → Addr} {n : Nat} {H : Hp} {σ : St} {E : Ev} (h : RE w ρ n H σ E) : ∀ vs : List Nat, RE w ρ n H (wipe σ vs) (wipeE E vs)
  | [] => h
  | v :: vs => by
    have ih := RE.wipe h vs
    unfold L2.wipe wipeE
    refine ⟨by rw [List.length_set, List.length_set]; exact ih.len, fun j d e => ?_⟩
    by_cases hj : v = j
    · subst hj
      by_cases hl : v < (wipeE E vs).length
      · rw [List.getElem?_set_self hl] at e; cases e
      · rw [List.getElem?_eq_none (by rw [List.length_set]; omega)] at e; cases e
    · rw [List.getElem?_set_ne hj] at e ⊢
      exact ih.val j d e
def noX {α : Type} : Res α → Res α
  | .exc _ _ => .err
  | r => r
def turnC (g : GM) (t : EM Bool) (e : EM D) (E0 : Ev) (d : D) (s : Sto) : Res (Option D) := match g d E0 s with
  | .ok E1 s1 => (noX (t E1 s1)).bind fun b s2 => if b = true then (noX (e E1 s2)).bind fun y s3 => .ok (some y) s3 else .ok none s2
  | _ => .err
def consO (o : Option D) (ys : List D) : List D := match o with
  | some y => y :: ys
  | none => ys
def compL (g : GM) (t : EM Bool) (e : EM D) (E0 : Ev) : List D → Sto → Res (List D)
  | [], s => .ok [] s
  | d :: ds, s => (turnC g t e E0 d s).bind fun o s1 => (compL g t e E0 ds s1).bind fun ys s2 => .ok (consO o ys) s2
def compK (g : GM) (t : EM Bool) (e : EM D) (E0 : Ev) (k : Nat) : Nat → Nat → Sto → Res (List D)
  | 0, _, _ => .err
  | n + 1, i, s => match s[k]? with
    | some (.lst xs) => match xs[i]? with
      | some d => (turnC g t e E0 d s).bind fun o s1 => (compK g t e E0 k n (i + 1) s1).bind fun ys s2 => .ok (consO o ys) s2
      | none => .ok [] s
    | _ => .err
def compS (g : GM) (t : EM Bool) (e : EM D) (E0 : Ev) (src : Src) (s : Sto) : Res (List D) := match src with
  | .fix ds => if ds.length ≤ sizeLine then compL g t e E0 ds s else .err
  | .lst k => compK g t e E0 k sizeLine 0 s
def fLc (it : EM Src) (g : GM) (t : EM Bool) (e : EM D) (vs : List Nat) : EM (List D) := fun E s => (it E s).bind fun src s1 => compS g t e (wipeE E vs) src s1
/-- the heap with the list that is made at the untracked place Dd -/
theorem Lat.frame {ρ ρ1 : Nat → Addr} {n n1 : Nat} {H H1 : Hp} {Dd : Addr} {o : HO} (L : Lat ρ n H ρ1 n1 H1) (h0 : H Dd = none) : Lat ρ n H ρ1 n1 (upd H1 Dd o) where
  le := L.le
  agree := L.agree
  keep := fun a u e hk => by rw [upd_ne (ne_of_none e h0)]; exact L.keep a u e hk
  froz := fun a u e f => by rw [upd_ne (ne_of_none e h0)]; exact L.froz a u e f
  dom := fun a e => by
    by_cases q : a = Dd
    · rw [q]; exact h0
    · rw [upd_ne q] at e; exact L.dom a e
  new := L.new
theorem Rp.frame {w : Wd} {ρ : Nat → Addr} {n : Nat} {H : Hp} {Dd : Addr} {o o' : HO} (hD : H Dd = some o) (nf : ¬ Fz o) : Lat ρ n H ρ n (upd H Dd o') ∨ True := .inr trivial
section
variable {w : Wd} {ρ : Nat → Addr} {n : Nat} {H : Hp} {Dd : Addr} {o o' : HO}
mutual
theorem Rp.fr (hD : H Dd = some o) (nf : ¬ Fz o) : ∀ {v : V} (d : D), Rp w ρ n H v d → Rp w ρ n (upd H Dd o') v d
  | v, .non, h => by unfold Rp at h ⊢; exact h
  | v, .bl _, h => by unfold Rp at h ⊢; exact h
  | v, .int _, h => by unfold Rp at h ⊢; exact h
  | v, .str _, h => by unfold Rp at h ⊢; exact h
  | v, .tup xs, h => by
    obtain ⟨a, vs, e, q, r⟩ := h.tup_
    unfold Rp
    refine ⟨a, vs, e, ?_, RpL.fr hD nf xs r⟩
    rcases q with q | q
    · refine .inl ?_
      rw [upd_ne (fun z => by rw [z, hD] at q; cases q; exact nf trivial)]
      exact q
    · exact .inr q
  | v, .ro xs, h => by
    obtain ⟨a, vs, e, q, r⟩ := h.ro_
    unfold Rp
    refine ⟨a, vs, e, ?_, RpL.fr hD nf xs r⟩
    rcases q with ⟨oo, q⟩ | q
    · refine .inl ⟨oo, ?_⟩
      rw [upd_ne (fun z => by rw [z, hD] at q; cases q; exact nf trivial)]
      exact q
    · exact .inr q
  | v, .loc k, h => by unfold Rp at h ⊢; exact h
  | v, .gl _, h => by unfold Rp at h ⊢; exact h
  | v, .ty _, h => by unfold Rp at h ⊢; exact h
theorem RpL.fr (hD : H Dd = some o) (nf : ¬ Fz o) : ∀ {vs : List V} (ds : List D), RpL w ρ n H vs ds → RpL w ρ n (upd H Dd o') vs ds
  | vs, [], h => by unfold RpL at h ⊢; exact h
  | vs, d :: ds, h => by
    obtain ⟨v, r, e, h1, h2⟩ := h.inv
    unfold RpL
    exact ⟨v, r, e, Rp.fr hD nf d h1, RpL.fr hD nf ds h2⟩
end
theorem RpA.fr {κ : Type} (hD : H Dd = some o) (nf : ¬ Fz o) : ∀ {vs : List (κ × V)} (ds : List (κ × D)), RpA w ρ n H vs ds → RpA w ρ n (upd H Dd o') vs ds
  | vs, [], h => by unfold RpA at h ⊢; exact h
  | vs, (k, d) :: ds, h => by
    obtain ⟨v, r, e, h1, h2⟩ := h.inv
    unfold RpA
    exact ⟨v, r, e, Rp.fr hD nf d h1, RpA.fr hD nf ds h2⟩
theorem RO.fr (hD : H Dd = some o) (nf : ¬ Fz o) {ho : HO} {ob : O} (h : RO w ρ n H ho ob) : RO w ρ n (upd H Dd o') ho ob := by
  cases ob with
  | lst xs =>
    obtain ⟨vs, e, r⟩ := h
    exact ⟨vs, e, RpL.fr hD nf _ r⟩
  | dic kvs =>
    obtain ⟨vs, e, r⟩ := h
    exact ⟨vs, e, RpA.fr hD nf _ r⟩
  | ins c fs =>
    obtain ⟨C, dx, vs, m, e, r⟩ := h
    exact ⟨C, dx, vs, m, e, RpA.fr hD nf _ r⟩
theorem RS.fr {s : Sto} (hD : H Dd = some o) (nf : ¬ Fz o) (hn : ∀ k, k < s.length → ρ k ≠ Dd) (h : RS w ρ H s) : RS w ρ (upd H Dd o') s :=
  ⟨fun k u e => by
    obtain ⟨ho, q, r⟩ := h.obj k u e
    exact ⟨ho, by rw [upd_ne (hn k (List.getElem?_eq_some_iff.mp e).1)]; exact q, RO.fr hD nf r⟩, h.inj⟩
end
/-- what stands between two turns -/
structure LcI (w : Wd) (W : XK) (ρ1 : Nat → Addr) (n1 : Nat) (H1 : Hp) (Dd : Addr) (Q : VK) (i : Nat) (k : Sto → Res (List D)) (H : Hp) : Prop where
  ex : ∃ ρ s vacc acc, Lat ρ1 n1 H1 ρ s.length H ∧ RS w ρ H s ∧ H Dd = some (.lst vacc) ∧ RpL w ρ s.length H vacc acc ∧ (∀ j, j < s.length → ρ j ≠ Dd) ∧ acc.length ≤ i ∧
    RF w W ρ1 n1 H1 ((k s).bind fun ys s' => .ok (acc ++ ys) s') Q
theorem turnC_run {w : Wd} {W : XK} {ρ1 ρ : Nat → Addr} {n1 : Nat} {H1 H : Hp} {Dd : Addr} {Q : VK} {i : Nat} {k : Sto → Res (List D)} {g : GM} {t : EM Bool} {e : EM D} {sl vs : List Nat} {σ : St} {E : Ev} {s : Sto} {x : V} {d : D} {vacc : List V} {acc : List D} {tt : TT}
    (h0 : H1 Dd = none) (L : Lat ρ1 n1 H1 ρ s.length H) (hs : RS w ρ H s) (hD : H Dd = some (.lst vacc)) (ra : RpL w ρ s.length H vacc acc) (hn : ∀ j, j < s.length → ρ j ≠ Dd) (hi : acc.length ≤ i) (hiz : i < sizeLine) (he : RE w ρ s.length H (wipe σ vs) (wipeE E vs)) (rx : Rp w ρ s.length H x d)
    (hsl : ∀ i ∈ sl, i ∈ vs) (htt : ∀ σ H Q, tM w RB W0 t σ H Q → tt σ H Q)
    (q : RF w W ρ1 n1 H1 (((turnC g t e (wipeE E vs) d s).bind fun o s1 => (k s1).bind fun ys s2 => .ok (consO o ys) s2).bind fun ys s' => .ok (acc ++ ys) s') Q) :
    tG w sl g x (wipe σ vs) H fun σ2 H2 => wipe σ2 vs = wipe σ vs ∧ tt σ2 H2 fun b H3 =>
      if b = true then tM w (Rp w) W0 e σ2 H3 fun y H4 => ∃ acc, H4 Dd = some (.lst acc) ∧ acc.length < sizeLine ∧ LcI w W ρ1 n1 H1 Dd Q (i + 1) k (upd H4 Dd (.lst (acc ++ [y]))) else LcI w W ρ1 n1 H1 Dd Q (i + 1) k H3 := by
  refine ⟨ρ, wipeE E vs, s, d, hs, he, rx, ?_⟩
  unfold turnC at q
  cases z : g d (wipeE E vs) s with
  | exc y s1 => rw [z] at q; exact q.elim
  | err => rw [z] at q; exact q.elim
  | ok E1 s1 =>
    simp only [z] at q
    intro ρ2 σ2 H2 L2 hs2 he2 out
    have ww : wipe (wipe σ vs) vs = wipe σ vs := by
      have gen : ∀ us : List Nat, wipe (wipe σ us) us = wipe σ us := by
        intro us
        induction us with
        | nil => rfl
        | cons u us ih =>
          by_cases hu : u ∈ us
          · have e1 : wipe σ (u :: us) = (wipe σ us).set u none := rfl
            rw [e1]
            have e2 : wipe ((wipe σ us).set u none) (u :: us) = (wipe ((wipe σ us).set u none) us).set u none := rfl
            rw [e2, wipe_set _ u none us hu, ih]
          · have e1 : wipe σ (u :: us) = (wipe σ us).set u none := rfl
            rw [e1]
            rw [wipe_set (wipe σ us) u none (u :: us) (by simp)]
            have e2 : wipe (wipe σ us) (u :: us) = (wipe (wipe σ us) us).set u none := rfl
            rw [e2, ih]
      exact gen vs
    refine ⟨(out vs hsl).trans ww, htt _ _ _ ⟨ρ2, E1, s1, hs2, he2, ?_⟩⟩
    have hD2 : H2 Dd = some (.lst vacc) := L2.keep Dd _ hD hn
    have nn : ∀ {ρ3 : Nat → Addr} {n3 : Nat} {H3 : Hp}, Lat ρ s.length H ρ3 n3 H3 → ∀ j, j < n3 → ρ3 j ≠ Dd := fun {ρ3 n3 H3} L3 j hj ej => by
      by_cases hl : j < s.length
      · exact hn j hl ((L3.agree j hl).symm.trans ej)
      · have := L3.new j (Nat.le_of_not_lt hl) hj
        rw [ej, hD] at this; cases this
    cases z1 : t E1 s1 with
    | exc y s2 => simp only [z1, noX, Res.bind_err] at q; exact q.elim
    | err => simp only [z1, noX, Res.bind_err] at q; exact q.elim
    | ok b s2 =>
      simp only [z1, noX, Res.bind_ok] at q
      intro ρ3 H3 b' L3 hs3 eb
      cases eb
      have L23 := L2.trans L3
      have hD3 : H3 Dd = some (.lst vacc) := L23.keep Dd _ hD hn
      cases b with
      | false =>
        rw [if_neg Bool.false_ne_true] at q ⊢
        simp only [Res.bind_ok] at q
        refine ⟨ρ3, s2, vacc, acc, L.trans L23, hs3, hD3, RpL.lat L23 _ ra, nn L23, Nat.le_succ_of_le hi, ?_⟩
        simp only [consO] at q
        have e1 : ((k s2).bind fun ys s2 => (Res.ok ys s2 : Res (List D))) = k s2 := by cases k s2 <;> rfl
        rw [e1] at q
        exact q
      | true =>
        rw [if_pos rfl] at q ⊢
        refine ⟨ρ3, E1, s2, hs3, he2.lat L3, ?_⟩
        cases z2 : e E1 s2 with
        | exc y s3 => simp only [z2, noX, Res.bind_err] at q; exact q.elim
        | err => simp only [z2, noX, Res.bind_err] at q; exact q.elim
        | ok y s3 =>
          simp only [z2, noX, Res.bind_ok] at q
          intro ρ4 H4 v4 L4 hs4 r4
          have L24 := L23.trans L4
          have hD4 : H4 Dd = some (.lst vacc) := L24.keep Dd _ hD hn
          have nf : ¬ Fz (HO.lst vacc) := id
          refine ⟨vacc, hD4, by rw [RpL.length ra]; omega, ρ4, s3, vacc ++ [v4], acc ++ [y], Lat.frame (L.trans L24) h0, hs4.fr hD4 nf (nn L24), upd_same, RpL.fr hD4 nf _ (RpL.append (RpL.lat L24 _ ra) (RpL.one r4)), nn L24, by rw [List.length_append, List.length_singleton]; omega, ?_⟩
          simp only [consO] at q
          have e1 : (((k s3).bind fun ys s2 => (Res.ok (y :: ys) s2 : Res (List D))).bind fun ys s' => (Res.ok (acc ++ ys) s' : Res (List D))) = (k s3).bind fun ys s' => Res.ok (acc ++ [y] ++ ys) s' := by
            cases k s3 with
            | ok ys s4 => simp
            | exc _ _ => rfl
            | err => rfl
          rw [e1] at q
          exact q
theorem lc_red {w : Wd} {W : WX} {it : EM Src} {g : GM} {t : EM Bool} {e : EM D} {sl vs : List Nat} {tt : TT} (hsl : ∀ i ∈ sl, i ∈ vs) (htt : ∀ σ H Q, tM w RB W0 t σ H Q → tt σ H Q) {σ : St} {H : Hp} {Q : VK} (h : tF w W (fLc it g t e vs) σ H Q) :
    tLc (tM w (RJ w) W it) (tG w sl g) tt (tM w (Rp w) W0 e) vs σ H Q := by
  unfold fLc at h
  obtain ⟨ρ, E, s, hs, he, h⟩ := tF.bind (R1 := RJ w) (m := it) h
  refine ⟨ρ, E, s, hs, he, RQ.mono h ?_⟩
  rintro J H1 ⟨ρ1, E1, s1, src, hs1, he1, rj, q⟩ Dd h0
  have hn0 : ∀ j, j < s1.length → ρ1 j ≠ Dd := fun j hj => hs1.ne h0 hj
  cases src with
  | fix ds =>
    simp only [compS] at q
    split at q
    · rename_i hz
      refine ⟨fun i m H => i ≤ ds.length ∧ m = ds.length - i ∧ LcI w (WE W σ) ρ1 s1.length H1 Dd Q i (fun s => compL g t e (wipeE E1 vs) (ds.drop i) s) H, ⟨ds.length, Nat.zero_le _, rfl, ρ1, s1, [], [], Lat.fresh h0, hs1.fresh h0, upd_same, RpL.nil, hn0, Nat.zero_le _, ?_⟩, ?_⟩
      · have e1 : ((compL g t e (wipeE E1 vs) (ds.drop 0) s1).bind fun ys s' => (Res.ok ([] ++ ys) s' : Res (List D))) = compL g t e (wipeE E1 vs) ds s1 := by
          rw [List.drop_zero]; cases compL g t e (wipeE E1 vs) ds s1 <;> rfl
        rw [e1]; exact q
      rintro i m H2 ⟨hi, rfl, ⟨ρ2, s2, vacc, acc, L2, hs2, hD, ra, hn, hai, q2⟩⟩
      have rji := rj i ρ2 H2 s2 L2 hs2
      simp only [Src.at] at rji
      by_cases hlt : i < ds.length
      · rw [List.getElem?_eq_getElem hlt] at rji
        obtain ⟨go, yl⟩ := rji
        refine .inr ⟨go, LcI w (WE W σ) ρ1 s1.length H1 Dd Q (i + 1) (fun s => compL g t e (wipeE E1 vs) (ds.drop (i + 1)) s), fun H' z => ⟨ds.length - (i + 1), by omega, hlt, rfl, z⟩, fun x H' y => ?_⟩
        obtain ⟨L3, hs3, rx⟩ := yl x H' y
        simp only [List.drop_eq_getElem_cons hlt, compL] at q2
        exact turnC_run h0 (L2.trans L3) hs3 (L3.keep _ _ hD hn) (RpL.lat L3 _ ra) hn hai (by omega) ((he1.lat (L2.trans L3)).wipe vs) rx hsl htt q2
      · rw [List.getElem?_eq_none (by omega)] at rji
        simp only [List.drop_eq_nil_of_le (show ds.length ≤ i by omega), compL, Res.bind_ok, List.append_nil] at q2
        exact .inl ⟨rji, q2 ρ2 H2 Dd vacc L2 hs2 h0 hn hD ra⟩
    · exact q.elim
  | lst k =>
    simp only [compS] at q
    refine ⟨fun i m H => i + m = sizeLine ∧ LcI w (WE W σ) ρ1 s1.length H1 Dd Q i (fun s => compK g t e (wipeE E1 vs) k m i s) H, ⟨sizeLine, Nat.zero_add _, ρ1, s1, [], [], Lat.fresh h0, hs1.fresh h0, upd_same, RpL.nil, hn0, Nat.zero_le _, ?_⟩, ?_⟩
    · have e1 : ((compK g t e (wipeE E1 vs) k sizeLine 0 s1).bind fun ys s' => (Res.ok ([] ++ ys) s' : Res (List D))) = compK g t e (wipeE E1 vs) k sizeLine 0 s1 := by
        cases compK g t e (wipeE E1 vs) k sizeLine 0 s1 <;> rfl
      rw [e1]; exact q
    rintro i m H2 ⟨him, ⟨ρ2, s2, vacc, acc, L2, hs2, hD, ra, hn, hai, q2⟩⟩
    have rji := rj i ρ2 H2 s2 L2 hs2
    simp only [Src.at] at rji
    cases m with
    | zero => exact q2.elim
    | succ m =>
      simp only [compK] at q2
      cases e0 : s2[k]? with
      | none => rw [e0] at q2; exact q2.elim
      | some ob =>
        cases ob with
        | dic _ => rw [e0] at q2; exact q2.elim
        | ins _ _ => rw [e0] at q2; exact q2.elim
        | lst xs =>
          simp only [e0] at q2 rji
          cases ed : xs[i]? with
          | some d =>
            simp only [ed] at q2 rji
            obtain ⟨go, yl⟩ := rji
            refine .inr ⟨go, LcI w (WE W σ) ρ1 s1.length H1 Dd Q (i + 1) (fun s => compK g t e (wipeE E1 vs) k m (i + 1) s), fun H' z => ⟨m, Nat.lt_succ_self m, by omega, z⟩, fun x H' y => ?_⟩
            obtain ⟨L3, hs3, rx⟩ := yl x H' y
            exact turnC_run h0 (L2.trans L3) hs3 (L3.keep _ _ hD hn) (RpL.lat L3 _ ra) hn hai (by omega) ((he1.lat (L2.trans L3)).wipe vs) rx hsl htt q2
          | none =>
            simp only [ed, Res.bind_ok, List.append_nil] at q2 rji
            exact .inl ⟨rji, q2 ρ2 H2 Dd vacc L2 hs2 h0 hn hD ra⟩
end Y

set_option Elab.async false
set_option linter.all false
set_option maxRecDepth 100000
/-! Y10: dict comprehensions, name = comprehension. -/
namespace Y
open PySem L2

theorem length_putA {κ α : Type} [DecidableEq κ] (kvs : List (κ × α)) (k : κ) (v : α) : (putA kvs k v).length ≤ kvs.length + 1 := by
  unfold putA
  split
  · rw [List.length_map]; omega
  · rw [List.length_append, List.length_singleton]; exact Nat.le_refl _
def RFd (w : Wd) (W : XK) (ρ : Nat → Addr) (n : Nat) (H : Hp) (r : Res (List (Key × D))) (Q : VK) : Prop := match r with
  | .ok ds s' => ∀ ρ' H' a vs, Lat ρ n H ρ' s'.length H' → RS w ρ' H' s' → H a = none → (∀ k, k < s'.length → ρ' k ≠ a) → H' a = some (.dK vs) → RpA w ρ' s'.length H' vs ds → Q (.ref a) H'
  | .exc x s' => ∀ ρ' H' c, Lat ρ n H ρ' s'.length H' → RS w ρ' H' s' → w.mg x = some c → W c none H'
  | .err => False
def tFd (w : Wd) (W : WX) (m : EM (List (Key × D))) : TE := fun σ H Q => ∃ ρ E s, RS w ρ H s ∧ RE w ρ s.length H σ E ∧ RFd w (WE W σ) ρ s.length H (m E s) Q
def eAllocD (m : EM (List (Key × D))) : EM D := fun E s => (m E s).bind fun ds s1 => .ok (.loc s1.length) (s1 ++ [.dic ds])
theorem RFd.lat {w : Wd} {W : XK} {ρ ρ1 : Nat → Addr} {n n1 : Nat} {H H1 : Hp} {r : Res (List (Key × D))} {Q : VK} (h : RFd w W ρ n H r Q) (L : Lat ρ n H ρ1 n1 H1) : RFd w W ρ1 n1 H1 r Q := by
  cases r with
  | ok a s' => exact fun ρ' H' a vs L' hs h0 hn e hr => h ρ' H' a vs (L.trans L') hs (L.dom _ h0) hn e hr
  | exc x s' => exact fun ρ' H' c L' hs hc => h ρ' H' c (L.trans L') hs hc
  | err => exact h
theorem tFd.bind {γ δ : Type} {W : WX} {w : Wd} {R1 : Rl γ δ} {σ : St} {H : Hp} {Q : VK} {m : EM γ} {f : γ → EM (List (Key × D))} (h : tFd w W (fun E s => (m E s).bind fun a s1 => f a E s1) σ H Q) :
    tM w R1 W m σ H fun b H1 => ∃ ρ1 E s1 a, RS w ρ1 H1 s1 ∧ RE w ρ1 s1.length H1 σ E ∧ R1 ρ1 s1.length H1 b a ∧ RFd w (WE W σ) ρ1 s1.length H1 (f a E s1) Q := by
  obtain ⟨ρ, E, s, hs, he, h⟩ := h
  refine ⟨ρ, E, s, hs, he, ?_⟩
  replace h : RFd w (WE W σ) ρ s.length H ((m E s).bind fun a s1 => f a E s1) Q := h
  cases q : m E s with
  | ok a s' => rw [q] at h; exact fun ρ' H' b L hs' hr => ⟨ρ', E, s', a, hs', he.lat L, hr, RFd.lat h L⟩
  | exc x s' => rw [q] at h; exact h
  | err => rw [q] at h; exact h.elim
theorem adoptD {w : Wd} {ρ ρ' : Nat → Addr} {n : Nat} {H H' : Hp} {s' : Sto} {a : Addr} {ho : HO} {o : O} (L : Lat ρ n H ρ' s'.length H') (hs' : RS w ρ' H' s') (h0 : H a = none) (hn : ∀ k, k < s'.length → ρ' k ≠ a) (e : H' a = some ho) (r : RO w ρ' s'.length H' ho o) :
    Lat ρ n H (ext ρ' s'.length a) (s' ++ [o]).length H' ∧ RS w (ext ρ' s'.length a) H' (s' ++ [o]) ∧ Rp w (ext ρ' s'.length a) (s' ++ [o]).length H' (.ref a) (.loc s'.length) := by
  have hl : (s' ++ [o]).length = s'.length + 1 := by simp
  refine ⟨?_, hs'.adopt hn e r, ?_⟩
  · rw [hl]
    refine ⟨Nat.le_succ_of_le L.le, fun k hk => by rw [ext_lt (Nat.lt_of_lt_of_le hk L.le)]; exact L.agree k hk, L.keep, L.froz, L.dom, fun k h1 h2 => ?_⟩
    by_cases hk : k < s'.length
    · rw [ext_lt hk]; exact L.new k h1 hk
    · have : k = s'.length := by omega
      rw [this, ext_eq]; exact h0
  · unfold Rp
    exact ⟨by rw [hl]; exact Nat.lt_succ_self _, by rw [ext_eq]⟩
theorem me_of_fd {X : Cx} {W : WX} {e : Expr} {m : EM (List (Key × D))} (h : PE X e (tFd (wd X) W m)) : ME X W e (eAllocD m) := by
  refine PE.imp h ?_
  rintro σ H Q ⟨ρ, E, s, hs, he, h⟩
  refine ⟨ρ, E, s, hs, he, ?_⟩
  unfold eAllocD at h
  cases q : m E s with
  | ok ds s' =>
    rw [q] at h
    intro ρ' H' a vs L hs' h0 hn e r
    obtain ⟨a1, a2, a3⟩ := adoptD (o := .dic ds) L hs' h0 hn e ⟨vs, rfl, r⟩
    exact h _ H' (.ref a) a1 a2 a3
  | exc x s' => rw [q] at h; exact h
  | err => rw [q] at h; exact h.elim
theorem tS.exFd {w : Wd} {W : WX} {m : EM (List (Key × D))} {k : D → SM} {Dn : Ends} {σ : St} {H : Hp} (h : tS w W (exprS (eAllocD m) k) Dn σ H) :
    tFd w W m σ H fun b H1 => ∃ ρ1 E s1 d, RS w ρ1 H1 s1 ∧ RE w ρ1 s1.length H1 σ E ∧ Rp w ρ1 s1.length H1 b d ∧ SQ w W ρ1 s1.length H1 (k d E s1) Dn := by
  obtain ⟨ρ, E, s, hs, he, h⟩ := h
  refine ⟨ρ, E, s, hs, he, ?_⟩
  unfold exprS eAllocD at h
  cases q : m E s with
  | ok ds s' =>
    rw [q] at h
    simp only [Res.bind_ok] at h
    intro ρ' H' a vs L hs' h0 hn e r
    obtain ⟨a1, a2, a3⟩ := adoptD (o := .dic ds) L hs' h0 hn e ⟨vs, rfl, r⟩
    exact ⟨_, E, _, _, a2, he.lat a1, a3, h.lat a1⟩
  | exc x s1 =>
    rw [q] at h
    exact fun ρ' H' c L hs' hc => h ρ' σ H' c L hs' (he.lat L) hc
  | err => rw [q] at h; exact h

def turnD (g : GM) (t : EM Bool) (ek ev : EM D) (E0 : Ev) (d : D) (s : Sto) : Res (Option (Key × D)) := match g d E0 s with
  | .ok E1 s1 => (noX (t E1 s1)).bind fun b s2 => if b = true then (noX (ek E1 s2)).bind fun y s3 => (noX (ev E1 s3)).bind fun z s4 => match keyD y with
      | some q => .ok (some (q, z)) s4
      | none => .err
    else .ok none s2
  | _ => .err
def putO (o : Option (Key × D)) (acc : List (Key × D)) : List (Key × D) := match o with
  | some p => putA acc p.1 p.2
  | none => acc
def dcompL (g : GM) (t : EM Bool) (ek ev : EM D) (E0 : Ev) : List D → List (Key × D) → Sto → Res (List (Key × D))
  | [], acc, s => .ok acc s
  | d :: ds, acc, s => (turnD g t ek ev E0 d s).bind fun o s1 => dcompL g t ek ev E0 ds (putO o acc) s1
def dcompK (g : GM) (t : EM Bool) (ek ev : EM D) (E0 : Ev) (k : Nat) : Nat → Nat → List (Key × D) → Sto → Res (List (Key × D))
  | 0, _, _, _ => .err
  | n + 1, i, acc, s => match s[k]? with
    | some (.lst xs) => match xs[i]? with
      | some d => (turnD g t ek ev E0 d s).bind fun o s1 => dcompK g t ek ev E0 k n (i + 1) (putO o acc) s1
      | none => .ok acc s
    | _ => .err
def fDc (it : EM Src) (g : GM) (t : EM Bool) (ek ev : EM D) (vs : List Nat) : EM (List (Key × D)) := fun E s => (it E s).bind fun src s1 => match src with
  | .fix ds => if ds.length ≤ sizeLine then dcompL g t ek ev (wipeE E vs) ds [] s1 else .err
  | .lst k => dcompK g t ek ev (wipeE E vs) k sizeLine 0 [] s1
structure DcI (w : Wd) (W : XK) (ρ1 : Nat → Addr) (n1 : Nat) (H1 : Hp) (Dd : Addr) (Q : VK) (i : Nat) (k : List (Key × D) → Sto → Res (List (Key × D))) (H : Hp) : Prop where
  ex : ∃ ρ s vacc acc, Lat ρ1 n1 H1 ρ s.length H ∧ RS w ρ H s ∧ H Dd = some (.dK vacc) ∧ RpA w ρ s.length H vacc acc ∧ (∀ j, j < s.length → ρ j ≠ Dd) ∧ acc.length ≤ i ∧
    RFd w W ρ1 n1 H1 (k acc s) Q
theorem wipe_wipe (σ : St) : ∀ us : List Nat, wipe (wipe σ us) us = wipe σ us
  | [] => rfl
  | u :: us => by
    have ih := wipe_wipe σ us
    have e1 : wipe σ (u :: us) = (wipe σ us).set u none := rfl
    rw [e1]
    rw [wipe_set (wipe σ us) u none (u :: us) (by simp)]
    have e2 : wipe (wipe σ us) (u :: us) = (wipe (wipe σ us) us).set u none := rfl
    rw [e2, ih]
theorem turnD_run {w : Wd} {W : XK} {ρ1 ρ : Nat → Addr} {n1 : Nat} {H1 H : Hp} {Dd : Addr} {Q : VK} {i : Nat} {k : List (Key × D) → Sto → Res (List (Key × D))} {g : GM} {t : EM Bool} {ek ev : EM D} {sl vs : List Nat} {σ : St} {E : Ev} {s : Sto} {x : V} {d : D} {vacc : List (Key × V)} {acc : List (Key × D)} {tt : TT}
    (h0 : H1 Dd = none) (L : Lat ρ1 n1 H1 ρ s.length H) (hs : RS w ρ H s) (hD : H Dd = some (.dK vacc)) (ra : RpA w ρ s.length H vacc acc) (hn : ∀ j, j < s.length → ρ j ≠ Dd) (hi : acc.length ≤ i) (hiz : i < sizeLine) (he : RE w ρ s.length H (wipe σ vs) (wipeE E vs)) (rx : Rp w ρ s.length H x d)
    (hsl : ∀ i ∈ sl, i ∈ vs) (htt : ∀ σ H Q, tM w RB W0 t σ H Q → tt σ H Q)
    (q : RFd w W ρ1 n1 H1 ((turnD g t ek ev (wipeE E vs) d s).bind fun o s1 => k (putO o acc) s1) Q) :
    tG w sl g x (wipe σ vs) H fun σ2 H2 => wipe σ2 vs = wipe σ vs ∧ tt σ2 H2 fun b H3 =>
      if b = true then tM w (Rp w) W0 ek σ2 H3 fun y H4 => tM w (Rp w) W0 ev σ2 H4 fun z H5 => ∃ kvs q, y = kV q ∧ H5 Dd = some (.dK kvs) ∧ kvs.length < sizeLine ∧ DcI w W ρ1 n1 H1 Dd Q (i + 1) k (upd H5 Dd (.dK (putK kvs q z))) else DcI w W ρ1 n1 H1 Dd Q (i + 1) k H3 := by
  refine ⟨ρ, wipeE E vs, s, d, hs, he, rx, ?_⟩
  unfold turnD at q
  cases z : g d (wipeE E vs) s with
  | exc y s1 => rw [z] at q; exact q.elim
  | err => rw [z] at q; exact q.elim
  | ok E1 s1 =>
    simp only [z] at q
    intro ρ2 σ2 H2 L2 hs2 he2 out
    refine ⟨(out vs hsl).trans (wipe_wipe σ vs), htt _ _ _ ⟨ρ2, E1, s1, hs2, he2, ?_⟩⟩
    have nn : ∀ {ρ3 : Nat → Addr} {n3 : Nat} {H3 : Hp}, Lat ρ s.length H ρ3 n3 H3 → ∀ j, j < n3 → ρ3 j ≠ Dd := fun {ρ3 n3 H3} L3 j hj ej => by
      by_cases hl : j < s.length
      · exact hn j hl ((L3.agree j hl).symm.trans ej)
      · have := L3.new j (Nat.le_of_not_lt hl) hj
        rw [ej, hD] at this; cases this
    cases z1 : t E1 s1 with
    | exc y s2 => simp only [z1, noX, Res.bind_err] at q; exact q.elim
    | err => simp only [z1, noX, Res.bind_err] at q; exact q.elim
    | ok b s2 =>
      simp only [z1, noX, Res.bind_ok] at q
      intro ρ3 H3 b' L3 hs3 eb
      cases eb
      have L23 := L2.trans L3
      have hD3 : H3 Dd = some (.dK vacc) := L23.keep Dd _ hD hn
      cases b with
      | false =>
        rw [if_neg Bool.false_ne_true] at q ⊢
        simp only [Res.bind_ok, putO] at q
        exact ⟨ρ3, s2, vacc, acc, L.trans L23, hs3, hD3, RpA.lat L23 _ ra, nn L23, Nat.le_succ_of_le hi, q⟩
      | true =>
        rw [if_pos rfl] at q ⊢
        refine ⟨ρ3, E1, s2, hs3, he2.lat L3, ?_⟩
        cases z2 : ek E1 s2 with
        | exc y s3 => simp only [z2, noX, Res.bind_err] at q; exact q.elim
        | err => simp only [z2, noX, Res.bind_err] at q; exact q.elim
        | ok y s3 =>
          simp only [z2, noX, Res.bind_ok] at q
          intro ρ4 H4 v4 L4 hs4 r4
          have L24 := L23.trans L4
          refine ⟨ρ4, E1, s3, hs4, he2.lat (L3.trans L4), ?_⟩
          cases z3 : ev E1 s3 with
          | exc y s3 => simp only [z3, noX, Res.bind_err] at q; exact q.elim
          | err => simp only [z3, noX, Res.bind_err] at q; exact q.elim
          | ok y2 s4 =>
            simp only [z3, noX, Res.bind_ok] at q
            intro ρ5 H5 v5 L5 hs5 r5
            cases ek : keyD y with
            | none => rw [ek] at q; exact q.elim
            | some qk =>
              simp only [ek, Res.bind_ok, putO] at q
              have L25 := L24.trans L5
              have hD5 : H5 Dd = some (.dK vacc) := L25.keep Dd _ hD hn
              have nf : ¬ Fz (HO.dK vacc) := id
              refine ⟨vacc, qk, keyD_ok r4 ek, hD5, by rw [RpA.length ra]; omega, ρ5, s4, _, putA acc qk y2, Lat.frame (L.trans L25) h0, hs5.fr hD5 nf (nn L25), upd_same, RpA.fr hD5 nf _ (RpA.put r5 qk (RpA.lat L25 _ ra)), nn L25, by have := length_putA acc qk y2; omega, q⟩
theorem dc_red {w : Wd} {W : WX} {it : EM Src} {g : GM} {t : EM Bool} {ek ev : EM D} {sl vs : List Nat} {tt : TT} (hsl : ∀ i ∈ sl, i ∈ vs) (htt : ∀ σ H Q, tM w RB W0 t σ H Q → tt σ H Q) {σ : St} {H : Hp} {Q : VK} (h : tFd w W (fDc it g t ek ev vs) σ H Q) :
    tDc (tM w (RJ w) W it) (tG w sl g) tt (tM w (Rp w) W0 ek) (tM w (Rp w) W0 ev) vs σ H Q := by
  unfold fDc at h
  obtain ⟨ρ, E, s, hs, he, h⟩ := tFd.bind (R1 := RJ w) (m := it) h
  refine ⟨ρ, E, s, hs, he, RQ.mono h ?_⟩
  rintro J H1 ⟨ρ1, E1, s1, src, hs1, he1, rj, q⟩ Dd h0
  have hn0 : ∀ j, j < s1.length → ρ1 j ≠ Dd := fun j hj => hs1.ne h0 hj
  cases src with
  | fix ds =>
    simp only at q
    split at q
    · rename_i hz
      refine ⟨fun i m H => i ≤ ds.length ∧ m = ds.length - i ∧ DcI w (WE W σ) ρ1 s1.length H1 Dd Q i (fun acc s => dcompL g t ek ev (wipeE E1 vs) (ds.drop i) acc s) H, ⟨ds.length, Nat.zero_le _, rfl, ρ1, s1, [], [], Lat.fresh h0, hs1.fresh h0, upd_same, RpA.nil, hn0, Nat.zero_le _, by rw [List.drop_zero]; exact q⟩, ?_⟩
      rintro i m H2 ⟨hi, rfl, ⟨ρ2, s2, vacc, acc, L2, hs2, hD, ra, hn, hai, q2⟩⟩
      have rji := rj i ρ2 H2 s2 L2 hs2
      simp only [Src.at] at rji
      by_cases hlt : i < ds.length
      · rw [List.getElem?_eq_getElem hlt] at rji
        obtain ⟨go, yl⟩ := rji
        refine .inr ⟨go, DcI w (WE W σ) ρ1 s1.length H1 Dd Q (i + 1) (fun acc s => dcompL g t ek ev (wipeE E1 vs) (ds.drop (i + 1)) acc s), fun H' z => ⟨ds.length - (i + 1), by omega, hlt, rfl, z⟩, fun x H' y => ?_⟩
        obtain ⟨L3, hs3, rx⟩ := yl x H' y
        simp only [List.drop_eq_getElem_cons hlt, dcompL] at q2
        exact turnD_run (k := fun acc s => dcompL g t ek ev (wipeE E1 vs) (ds.drop (i + 1)) acc s) h0 (L2.trans L3) hs3 (L3.keep _ _ hD hn) (RpA.lat L3 _ ra) hn hai (by omega) ((he1.lat (L2.trans L3)).wipe vs) rx hsl htt q2
      · rw [List.getElem?_eq_none (by omega)] at rji
        simp only [List.drop_eq_nil_of_le (show ds.length ≤ i by omega), dcompL] at q2
        exact .inl ⟨rji, q2 ρ2 H2 Dd vacc L2 hs2 h0 hn hD ra⟩
    · exact q.elim
  | lst k =>
    simp only at q
    refine ⟨fun i m H => i + m = sizeLine ∧ DcI w (WE W σ) ρ1 s1.length H1 Dd Q i (fun acc s => dcompK g t ek ev (wipeE E1 vs) k m i acc s) H, ⟨sizeLine, Nat.zero_add _, ρ1, s1, [], [], Lat.fresh h0, hs1.fresh h0, upd_same, RpA.nil, hn0, Nat.zero_le _, q⟩, ?_⟩
    rintro i m H2 ⟨him, ⟨ρ2, s2, vacc, acc, L2, hs2, hD, ra, hn, hai, q2⟩⟩
    have rji := rj i ρ2 H2 s2 L2 hs2
    simp only [Src.at] at rji
    cases m with
    | zero => exact q2.elim
    | succ m =>
      simp only [dcompK] at q2
      cases e0 : s2[k]? with
      | none => rw [e0] at q2; exact q2.elim
      | some ob =>
        cases ob with
        | dic _ => rw [e0] at q2; exact q2.elim
        | ins _ _ => rw [e0] at q2; exact q2.elim
        | lst xs =>
          simp only [e0] at q2 rji
          cases ed : xs[i]? with
          | some d =>
            simp only [ed] at q2 rji
            obtain ⟨go, yl⟩ := rji
            refine .inr ⟨go, DcI w (WE W σ) ρ1 s1.length H1 Dd Q (i + 1) (fun acc s => dcompK g t ek ev (wipeE E1 vs) k m (i + 1) acc s), fun H' z => ⟨m, Nat.lt_succ_self m, by omega, z⟩, fun x H' y => ?_⟩
            obtain ⟨L3, hs3, rx⟩ := yl x H' y
            exact turnD_run (k := fun acc s => dcompK g t ek ev (wipeE E1 vs) k m (i + 1) acc s) h0 (L2.trans L3) hs3 (L3.keep _ _ hD hn) (RpA.lat L3 _ ra) hn hai (by omega) ((he1.lat (L2.trans L3)).wipe vs) rx hsl htt q2
          | none =>
            simp only [ed] at q2 rji
            exact .inl ⟨rji, q2 ρ2 H2 Dd vacc L2 hs2 h0 hn hD ra⟩

/-! ### the rules -/
section
variable {X : Cx} {W : WX} {elt kx vx tg iter : Expr} {ifs : List Expr} {scope : Scope} {own : List (Str × Nat)} {pos spos : Pos} {it : EM Src} {g : GM} {t : EM Bool} {e ek ev : EM D} {sl : List Nat}
/-- what a comprehension's block wants -/
structure Blk (X : Cx) (scope : Scope) (tg : Expr) (ifs : List Expr) (sl : List Nat) (g : GM) (t : EM Bool) (tt : TT) : Prop where
  bg : ∀ (s : Shared) (H : Hp) (C : Addr) (cl : List (Str × Addr)) (fp : List Addr), MG (X.blk s H scope (compEnvC scope cl C X.env) fp) tg sl g
  bt : ∀ (s : Shared) (H : Hp) (C : Addr) (cl : List (Str × Addr)) (fp : List Addr), PTs (X.blk s H scope (compEnvC scope cl C X.env) fp) ifs tt
  tt : ∀ σ H Q, tM (wd X) RB W0 t σ H Q → tt σ H Q
abbrev MEb (X : Cx) (scope : Scope) (e : Expr) (m : EM D) : Prop := ∀ (s : Shared) (H : Hp) (C : Addr) (cl : List (Str × Addr)) (fp : List Addr), ME (X.blk s H scope (compEnvC scope cl C X.env) fp) W0 e m
theorem mf_lc {tt : TT} (hc : X.calm = true) (hN : X.N.Nodup) (hi : MI X W tg iter it) (ok : BlkOk X.N X.env.scope scope own) (B : Blk X scope tg ifs sl g t tt) (he : MEb X scope elt e) (hsl : ∀ i ∈ sl, i ∈ own.map (·.2)) (hs : ∀ x, foldedSetIterable iter X.env x = pure x) :
    MF X W (.ListComp elt [⟨tg, iter, ifs, 0⟩] scope pos) (fLc it g t e (own.map (·.2))) :=
  PE.imp (pe_lc hc hN hi ok B.bg B.bt he hs) fun _ _ _ h => lc_red hsl B.tt h
theorem md_dc {tt : TT} (hc : X.calm = true) (hN : X.N.Nodup) (hi : MI X W tg iter it) (ok : BlkOk X.N X.env.scope scope own) (B : Blk X scope tg ifs sl g t tt) (hk : MEb X scope kx ek) (hv : MEb X scope vx ev) (hsl : ∀ i ∈ sl, i ∈ own.map (·.2)) (hs : ∀ x, foldedSetIterable iter X.env x = pure x) :
    PE X (.DictComp kx vx [⟨tg, iter, ifs, 0⟩] scope pos) (tFd (wd X) W (fDc it g t ek ev (own.map (·.2)))) :=
  PE.imp (pe_dc hc hN hi ok B.bg B.bt hk hv hs) fun _ _ _ h => dc_red hsl B.tt h
theorem ms_setLc {tt : TT} {i : Nat} {y : Str} {py : Pos} (hc : X.calm = true) (hN : X.N.Nodup) (hy : X.N[i]? = some y) (hyl : X.env.scope.names.lookup y = some .local)
    (hsw : swapsWith (.ListComp elt [⟨tg, iter, ifs, 0⟩] scope pos) (some (.Name y py)) spos.line X.env = pure true) (hi : MI X W tg iter it) (ok : BlkOk X.N X.env.scope scope own) (B : Blk X scope tg ifs sl g t tt) (he : MEb X scope elt e) (hsl : ∀ i ∈ sl, i ∈ own.map (·.2)) (hs : ∀ x, foldedSetIterable iter X.env x = pure x) :
    MS X W (.Assign [.Name y py] (.ListComp elt [⟨tg, iter, ifs, 0⟩] scope pos) spos) (sSet i (eAlloc (fLc it g t e (own.map (·.2))))) := by
  refine PS.imp (ps_setLc (te := tM (wd X) (Rp (wd X)) W0 e) (g := tG (wd X) sl g) hc hN hy hyl hsw hi ok B.bg B.bt he hs) fun Dn σ H h => ?_
  refine lc_red hsl B.tt ?_
  obtain ⟨ρ, E, s, hs, he, h⟩ := tS.exF h
  refine ⟨ρ, E, s, hs, he, ?_⟩
  cases q : fLc it g t e (own.map (·.2)) E s with
  | ok ds s' =>
    rw [q] at h
    intro ρ' H' a vs L hs' h0 hn e r
    obtain ⟨ρ1, E1, s1, d, hs1, he1, r1, q1⟩ := h ρ' H' a vs L hs' h0 hn e r
    exact q1 ρ1 _ H' Lat.refl hs1 (he1.set i r1)
  | exc x s' => rw [q] at h; exact h
  | err => rw [q] at h; exact h
theorem ps_setDc {i : Nat} {y : Str} {py : Pos} {wi : TI} {g : TG} {tt : TT} {tk tv : TE} (hc : X.calm = true) (hN : X.N.Nodup) (hy : X.N[i]? = some y) (hyl : X.env.scope.names.lookup y = some .local)
    (hsw : swapsWith (.DictComp kx vx [⟨tg, iter, ifs, 0⟩] scope pos) (some (.Name y py)) spos.line X.env = pure true) (hi : PI X tg iter wi) (ok : BlkOk X.N X.env.scope scope own)
    (hg : ∀ (s : Shared) (H : Hp) (C : Addr) (cl : List (Str × Addr)) (fp : List Addr), PG (X.blk s H scope (compEnvC scope cl C X.env) fp) tg g) (ht : ∀ (s : Shared) (H : Hp) (C : Addr) (cl : List (Str × Addr)) (fp : List Addr), PTs (X.blk s H scope (compEnvC scope cl C X.env) fp) ifs tt)
    (hk : ∀ (s : Shared) (H : Hp) (C : Addr) (cl : List (Str × Addr)) (fp : List Addr), PE (X.blk s H scope (compEnvC scope cl C X.env) fp) kx tk)
    (he : ∀ (s : Shared) (H : Hp) (C : Addr) (cl : List (Str × Addr)) (fp : List Addr), PE (X.blk s H scope (compEnvC scope cl C X.env) fp) vx tv) (hs : ∀ x, foldedSetIterable iter X.env x = pure x) :
    PS X (.Assign [.Name y py] (.DictComp kx vx [⟨tg, iter, ifs, 0⟩] scope pos) spos) (tAsg (tDc wi g tt tk tv (own.map (·.2))) (gName i)) := by
  refine ⟨fun pins s σ H D I h => ?_⟩
  rw [exec_Assign_Name_used _ _ _ _ hsw]
  refine wpAny_bind (wpAny_standAt (wpAny_bind ?_))
  show wpAny _ X.A (do let _ ← comprehension (.DictComp kx vx [⟨tg, iter, ifs, 0⟩] scope pos) scope X.env (firstIterPos [⟨tg, iter, ifs, 0⟩] pos) newDict false (eval iter X.env) (some (assign (.Name y py) X.env))) _ _ s
  have h : tDc wi g tt tk tv (own.map (·.2)) σ H (fun x H1 => gName i x σ H1 D.nx) := h
  refine wpAny_bind (thn (dc_core (Qf := fun _ s' => SP X pins D .next s') hc hN I hi ok hg ht hk he hs h fun L C s' m H' I' q hn f => ?_) fun _ s' hq => wpAny_pure (wpAny_pure hq))
  show wpAny _ _ (assign (.Name y py) X.env (.ref L)) _ _ _
  refine wpAny_assign_Name (store_ok2 (v := V.ref L) I' hN hy (.inl hyl) rfl (fun s2 I2 ⟨a, sb, ha⟩ => ?_) (.inr hyl))
  obtain ⟨f0, f1, f2, f3, f4, f5⟩ := f
  have haC : C ≠ a := by
    rcases ha with z | z
    · rw [z]; exact f1
    · exact fun e => f4 y a z e.symm
  refine ⟨m, hn.sameBut sb haC, fun h3 sb3 => ?_⟩
  exact ⟨_, H', I2.turned (t' := s2.toks) (fun b o hb e => (sb3.2 b hb).trans e) f0 f1 f3 f4 f5, q⟩
theorem ms_setDc {tt : TT} {i : Nat} {y : Str} {py : Pos} (hc : X.calm = true) (hN : X.N.Nodup) (hy : X.N[i]? = some y) (hyl : X.env.scope.names.lookup y = some .local)
    (hsw : swapsWith (.DictComp kx vx [⟨tg, iter, ifs, 0⟩] scope pos) (some (.Name y py)) spos.line X.env = pure true) (hi : MI X W tg iter it) (ok : BlkOk X.N X.env.scope scope own) (B : Blk X scope tg ifs sl g t tt) (hk : MEb X scope kx ek) (hv : MEb X scope vx ev) (hsl : ∀ i ∈ sl, i ∈ own.map (·.2)) (hs : ∀ x, foldedSetIterable iter X.env x = pure x) :
    MS X W (.Assign [.Name y py] (.DictComp kx vx [⟨tg, iter, ifs, 0⟩] scope pos) spos) (sSet i (eAllocD (fDc it g t ek ev (own.map (·.2))))) := by
  refine PS.imp (ps_setDc (tk := tM (wd X) (Rp (wd X)) W0 ek) (tv := tM (wd X) (Rp (wd X)) W0 ev) (g := tG (wd X) sl g) hc hN hy hyl hsw hi ok B.bg B.bt hk hv hs) fun Dn σ H h => ?_
  refine dc_red hsl B.tt ?_
  obtain ⟨ρ, E, s, hs, he, h⟩ := tS.exFd h
  refine ⟨ρ, E, s, hs, he, ?_⟩
  cases q : fDc it g t ek ev (own.map (·.2)) E s with
  | ok ds s' =>
    rw [q] at h
    intro ρ' H' a vs L hs' h0 hn e r
    obtain ⟨ρ1, E1, s1, d, hs1, he1, r1, q1⟩ := h ρ' H' a vs L hs' h0 hn e r
    exact q1 ρ1 _ H' Lat.refl hs1 (he1.set i r1)
  | exc x s' => rw [q] at h; exact h
  | err => rw [q] at h; exact h
end
/-! ### a dict that is written out, with texts as keys -/
def fPairs : List (Str × EM D) → EM (List (Key × D))
  | [] => fun _ s => .ok [] s
  | (x, m) :: r => fun E s => (m E s).bind fun d s1 => (fPairs r E s1).bind fun ds s2 => .ok ((.inr x, d) :: ds) s2
def eDisp (ps : List (Str × EM D)) : EM D := fun E s => (fPairs ps E (s ++ [.dic []])).bind fun kvs s1 => match s1[s.length]? with
  | some (.dic []) => .ok (.loc s.length) (s1.set s.length (.dic (mergeA [] kvs)))
  | _ => .err
section
variable {X : Cx} {W : WX}
def kvR (w : Wd) : Rl (List (Key × D)) (List (V × V)) := fun ρ n H ps kvs => ∃ rs : List (Key × V), ps = rs.map (fun kv => (kV kv.1, kv.2)) ∧ RpA w ρ n H rs kvs
def trsOf (w : Wd) (W : WX) (ps : List (Str × EM D)) : List (TE × TE) := ps.map fun p => (tC (.str p.1), tM w (Rp w) W p.2)
theorem pairs_run {w : Wd} : ∀ (ps : List (Str × EM D)) {σ : St} {H : Hp} {Q : List (V × V) → Hp → Prop}, tM w (kvR w) W (fPairs ps) σ H Q → tPairs (trsOf w W ps) σ H Q
  | [], σ, H, Q, h => by
    obtain ⟨ρ, E, s, hs, he, h⟩ := h
    exact h ρ H [] Lat.refl hs ⟨[], rfl, RpA.nil⟩
  | (x, m) :: r, σ, H, Q, h => by
    obtain ⟨ρ, E, s, hs, he, h⟩ := tM.bind (R1 := Rp w) (m := m) (f := fun d E s1 => (fPairs r E s1).bind fun ds s2 => .ok ((.inr x, d) :: ds) s2) h
    show tC (.str x) σ H fun a H1 => tM w (Rp w) W m σ H1 fun b H2 => tPairs (trsOf w W r) σ H2 fun qs H3 => Q ((a, b) :: qs) H3
    refine ⟨ρ, E, s, hs, he, RQ.mono h ?_⟩
    rintro b H2 ⟨ρ1, E1, s1, d, hs1, he1, rd, hq⟩
    refine pairs_run r ⟨ρ1, E1, s1, hs1, he1, ?_⟩
    cases z : fPairs r E1 s1 with
    | ok ds s2 =>
      rw [z] at hq
      rintro ρ' H' qs L hs' ⟨rs, rfl, ra⟩
      exact hq ρ' H' _ L hs' ⟨(.inr x, b) :: rs, rfl, RpA.cons (Rp.lat L _ rd) ra⟩
    | exc y s2 => rw [z] at hq; exact hq
    | err => rw [z] at hq; exact hq.elim
theorem me_disp {pos : Pos} {keys : List (Option Expr)} {values : List Expr} {ps : List (Str × EM D)} (h : PPs X pos keys values (trsOf (wd X) W ps)) (hall : keys.all (·.isSome) = true) (hl : keys.length = values.length) (h0 : keys ≠ []) (h15 : keys.length ≤ 15) (hp : ps.length ≤ 15) :
    ME X W (.Dict keys values pos) (eDisp ps) := by
  refine PE.imp (pe_disp h hall hl h0 h15) ?_
  rintro σ H Q ⟨ρ, E, s, hs, he, h⟩ p hp0
  have L0 : Lat ρ s.length H (ext ρ s.length p) (s ++ [O.dic []]).length (upd H p (.dK [])) := by
    rw [List.length_append, List.length_singleton]; exact Lat.alloc hp0
  have hs0 : RS (wd X) (ext ρ s.length p) (upd H p (.dK [])) (s ++ [.dic []]) := hs.alloc hp0 ⟨[], rfl, RpA.nil⟩
  refine pairs_run ps ⟨ext ρ s.length p, E, s ++ [.dic []], hs0, he.lat L0, ?_⟩
  unfold eDisp at h
  have lenP : ∀ (qs : List (Str × EM D)) (E : Ev) (s : Sto) kvs s1, fPairs qs E s = .ok kvs s1 → kvs.length = qs.length := fun qs => by
    induction qs with
    | nil => intro E s kvs s1 e; cases e; rfl
    | cons q r ih =>
      intro E s kvs s1 e
      obtain ⟨x, m⟩ := q
      simp only [fPairs] at e
      cases z : m E s with
      | ok d s2 =>
        rw [z] at e
        simp only [Res.bind_ok] at e
        cases z2 : fPairs r E s2 with
        | ok ds s3 => rw [z2] at e; cases e; rw [List.length_cons, List.length_cons, ih _ _ _ _ z2]
        | exc y s3 => rw [z2] at e; cases e
        | err => rw [z2] at e; cases e
      | exc y s2 => rw [z] at e; cases e
      | err => rw [z] at e; cases e
  cases z : fPairs ps E (s ++ [.dic []]) with
  | ok kvs s1 =>
    rw [z] at h
    simp only [Res.bind_ok] at h
    rintro ρ' H' qs L hs' ⟨rs, rfl, ra⟩
    split at h
    · rename_i e1
      obtain ⟨ho, h1, vs, rfl, r1⟩ := hs'.get e1
      have hlt : s.length < s1.length := (List.getElem?_eq_some_iff.mp e1).1
      have ea : ρ' s.length = p := by
        have q := L.agree s.length (by rw [List.length_append, List.length_singleton]; exact Nat.lt_succ_self _)
        rw [ext_eq] at q
        first | exact q | exact q.symm
      rw [r1.inv0, ea] at h1
      refine ⟨h1, rs, rfl, by rw [RpA.length ra, lenP _ _ _ _ _ z]; exact hp, ?_⟩
      have LL := L0.trans L
      have hset := RS.set hs' hlt (ho := .dK (mergeK [] rs)) (o := .dic (mergeA [] kvs)) ⟨_, rfl, RpA.merge ra RpA.nil⟩
      have Lset : Lat ρ' s1.length H' ρ' s1.length (upd H' (ρ' s.length) (.dK (mergeK [] rs))) := Lat.set hs' hlt _ rfl
      rw [ea] at hset Lset
      have hl : (s1.set s.length (.dic (mergeA [] kvs))).length = s1.length := List.length_set
      exact h ρ' _ (.ref p) (by rw [hl]; exact LL.trans Lset) hset (by unfold Rp; exact ⟨by rw [hl]; exact hlt, by rw [ea]⟩)
    · exact h.elim
  | exc y s1 => rw [z] at h; exact fun ρ' H' c L hs' hc => h ρ' H' c (L0.trans L) hs' hc
  | err => rw [z] at h; exact h.elim
end
end Y

set_option Elab.async false
set_option linter.all false
set_option maxRecDepth 100000
/-! Y11: what a piece of syntax means (dE, dT, .., dB), and that it is so. -/
namespace Y
open PySem L2

structure Sx where
  N : List Str
  sc : Scope
  fn : Str → Bool
structure Ctx where
  blt : Str → Bool
  cst : Str → Option D
  fn : Str → Option (Nat × (List D → Sto → Res D))
structure OkX (C : Ctx) (S : Sx) (X : Cx) : Prop where
  hN : X.N = S.N
  hsc : X.env.scope = S.sc
  hfn : X.fn = S.fn
  calm : X.calm = true
  nd : S.N.Nodup
  room : Room 0 X.A
  blt : ∀ x, C.blt x = true → X.mg x = none
  cst : ∀ x d, C.cst x = some d → ∃ u v, X.mg x = some u ∧ RelV v u ∧ ∀ ρ n H, Rp (wd X) ρ n H v d
  fns : ∀ x n F, C.fn x = some (n, F) → FnG X x n F
  kind : S.sc.kind = .function

def slotN : List Str → Str → Option Nat
  | [], _ => none
  | y :: r, x => if y = x then some 0 else (slotN r x).map (· + 1)
theorem slotN_ok : ∀ {N : List Str} {x : Str} {i : Nat}, slotN N x = some i → N[i]? = some x
  | [], x, i, h => by cases h
  | y :: r, x, i, h => by
    unfold slotN at h
    split at h
    · rename_i e; cases h; subst e; rfl
    · cases e : slotN r x with
      | none => rw [e] at h; cases h
      | some j => rw [e] at h; cases h; exact slotN_ok (N := r) e
def okName (x : Str) : Bool := !(x == ("__debug__" : Str)) && !(x == ("__classdict__" : Str)) && !(x == ("__name__" : Str))
def visB (sc : Scope) (x : Str) : Bool := match sc.names.lookup x with
  | some .local => true
  | some .cell => true
  | some .free => true
  | _ => false
def locB (S : Sx) (x : Str) : Bool := match S.sc.names.lookup x with
  | some .local => true
  | some .cell => S.fn x
  | _ => false
def glB (sc : Scope) (x : Str) : Bool := match sc.names.lookup x with
  | some .globalImplicit => true
  | _ => false
theorem visB_ok {sc : Scope} {x : Str} (h : visB sc x = true) : Vis sc x := by
  unfold visB at h
  split at h
  · exact .inl (by assumption)
  · exact .inr (.inl (by assumption))
  · exact .inr (.inr (by assumption))
  · cases h
theorem locB_ok {S : Sx} {x : Str} (h : locB S x = true) : Loc S.sc x ∧ (S.fn x = true ∨ S.sc.names.lookup x = some .local) := by
  unfold locB at h
  split at h
  · exact ⟨.inl (by assumption), .inr (by assumption)⟩
  · exact ⟨.inr (by assumption), .inl h⟩
  · cases h
theorem glB_ok {sc : Scope} {x : Str} (h : glB sc x = true) : sc.names.lookup x = some .globalImplicit := by
  unfold glB at h
  split at h
  · assumption
  · cases h
theorem okName_ok {x : Str} (h : okName x = true) : (x == ("__debug__" : Str)) = false ∧ (x == ("__classdict__" : Str)) = false ∧ x ≠ "__name__" := by
  unfold okName at h
  simp only [Bool.and_eq_true, Bool.not_eq_true'] at h
  exact ⟨h.1.1, h.1.2, fun e => by have := h.2; rw [e] at this; simp at this⟩
def tyName (x : Str) : Option String :=
  if x = "int" then some "int" else if x = "str" then some "str" else if x = "tuple" then some "tuple" else if x = "bool" then some "bool" else if x = "list" then some "list" else if x = "dict" then some "dict" else none
theorem tyName_ok {x : Str} {t : String} (h : tyName x = some t) : bootBuiltins x = some (.type t) := by
  unfold tyName at h
  repeat' split at h
  all_goals first | (cases h; done) | skip
  all_goals (cases h; subst_vars; decide +kernel)
def dName (C : Ctx) (S : Sx) (x : Str) : EM D :=
  if okName x = true then
    if visB S.sc x = true then
      match slotN S.N x with
      | some i => eVar i
      | none => eErr
    else if glB S.sc x = true then
      match C.cst x with
      | some d => eC d
      | none => if C.blt x = true then
          match tyName x with
          | some t => eC (.ty t)
          | none => eErr
        else eErr
    else eErr
  else eErr
def dConst : Const → EM D
  | .none => eC .non
  | .bool b => eC (.bl b)
  | .int i => eC (.int i)
  | .str x => eC (.str x)
  | _ => eErr
def isStar : Expr → Bool
  | .Starred _ _ => true
  | _ => false
def noStar (es : List Expr) : Bool := es.all fun e => !isStar e
theorem star_cons {e : Expr} {es : List Expr} {env : Env} (h : isStar e = false) : starEach (e :: es) env = (false, eval e env) :: starEach es env := by
  cases e <;> first | (cases h; done) | (simp only [starEach]; done)
theorem star_no {env : Env} {pos : Pos} : ∀ {es : List Expr}, noStar es = true → (backTo pos (starEach es env)).any (·.1) = false
  | [], _ => by simp [starEach, backTo]
  | e :: es, h => by
    unfold noStar at h
    rw [List.all_cons, Bool.and_eq_true, Bool.not_eq_true'] at h
    rw [star_cons h.1]
    show (false || (backTo pos (starEach es env)).any (·.1)) = false
    rw [star_no (es := es) h.2]; rfl
theorem star_all {env : Env} {pos : Pos} : ∀ {es : List Expr}, noStar es = true → (backTo pos (starEach es env)).all (fun x => !x.1) = true
  | [], _ => by simp [starEach, backTo]
  | e :: es, h => by
    unfold noStar at h
    rw [List.all_cons, Bool.and_eq_true, Bool.not_eq_true'] at h
    rw [star_cons h.1]
    show (!false && (backTo pos (starEach es env)).all (fun x => !x.1)) = true
    rw [star_all (es := es) h.2]; rfl
theorem assign_no {env : Env} : ∀ {es : List Expr}, noStar es = true → (assignEach es env).length = es.length ∧ (assignEach es env).findIdx? (·.1) = none ∧ (assignEach es env).map (·.2) = es.map (fun e => assign e env)
  | [], _ => by simp [assignEach]
  | e :: es, h => by
    unfold noStar at h
    rw [List.all_cons, Bool.and_eq_true, Bool.not_eq_true'] at h
    have ih := assign_no (env := env) (es := es) h.2
    have e1 : assignEach (e :: es) env = (false, assign e env) :: assignEach es env := by
      cases e <;> first | (cases h.1; done) | (simp only [assignEach]; done)
    rw [e1]
    refine ⟨by simp [ih.1], ?_, by simp [ih.2.2]⟩
    rw [List.findIdx?_cons]
    simp [ih.2.1]
def isSup : Expr → Bool
  | .Call (.Name _ _) [] [] _ => true
  | _ => false
theorem base_ok {o : Expr} {m : Str} {env : Env} {whole : Sem Value} (h : isSup o = false) : attributeBase o m env whole = whole := by
  unfold attributeBase
  split
  · cases h
  · rfl
def isComp : Expr → Bool
  | .ListComp _ _ _ _ => true
  | .SetComp _ _ _ _ => true
  | .DictComp _ _ _ _ _ => true
  | _ => false
theorem swaps_no {e : Expr} {t : Option Expr} {l : Nat} {env : Env} (h : isComp e = false) : swapsWith e t l env = pure false := by
  cases e <;> first | (cases h; done) | (unfold swapsWith; rfl)
def isNameE : Expr → Bool
  | .Name _ _ => true
  | _ => false
theorem swaps_tg {e t : Expr} {l : Nat} {env : Env} (h : isNameE t = false) : swapsWith e (some t) l env = pure false := by
  cases hc : isComp e with
  | false => exact swaps_no hc
  | true =>
    cases e <;> first | (cases hc; done) | skip
    all_goals (unfold swapsWith; cases t <;> first | (cases h; done) | rfl)
def isTupE : Expr → Bool
  | .Tuple _ _ _ => true
  | _ => false
theorem swapped_no {t e : Expr} {env : Env} (h : isTupE e = false) : swappedStores [t] e env = pure none := by
  unfold swappedStores
  cases e <;> first | (cases h; done) | (cases t <;> rfl)
def isSet : Expr → Bool
  | .Set _ _ _ => true
  | _ => false
theorem folded_ok {e : Expr} {env : Env} (h : isSet e = false) : ∀ x, foldedSetIterable e env x = pure x := by
  intro x
  unfold foldedSetIterable
  cases e <;> first | (cases h; done) | rfl
def plainT : Expr → Bool
  | .UnaryOp .Not _ _ => false
  | .BoolOp _ _ _ => false
  | .IfExp _ _ _ _ => false
  | .Compare _ _ _ _ => false
  | _ => true
theorem plainT_ok {e : Expr} {env : Env} (h : plainT e = true) : ∀ whole, isTrue e env whole = (do let v ← whole; standAt e.pos; holding [v] (truthy v)) := by
  intro whole
  cases e with
  | UnaryOp op x p => cases op <;> first | (cases h; done) | rfl
  | BoolOp _ _ _ => cases h
  | IfExp _ _ _ _ => cases h
  | Compare _ _ _ _ => cases h
  | _ => rfl
/-- built-ins that are called by name -/
def bNames : List Str := ["tuple", "sum", "all", "any", "sorted", "list", "len", "abs", "int", "isinstance", "range", "dict", "zip"]
def bKind (x : Str) : Nat := match slotN bNames x with
  | some i => i + 1
  | none => 0
theorem bKind_ok {x : Str} {i : Nat} (h : bKind x = i + 1) : bNames[i]? = some x := by
  unfold bKind at h
  split at h
  · rename_i j e
    have : j = i := by omega
    subst this
    exact slotN_ok e
  · cases h
/-- which list functions make a fresh list -/
def frK (C : Ctx) (S : Sx) (e : Expr) : Nat := match e with
  | .ListComp _ [⟨_, _, _, 0⟩] _ _ => 1
  | .Call (.Name x _) [a] [] _ => if glB S.sc x = true ∧ C.blt x = true ∧ isStar a = false then
      if bKind x = 5 then 2 else if bKind x = 6 then 3 else 0
    else 0
  | .Subscript _ (.Slice none none (some (.UnaryOp .USub (.Constant (.int 1) _ _) _)) _) _ => 4
  | _ => 0
def ownOf (S : Sx) (scope : Scope) : List (Str × Nat) := scope.names.filterMap fun y => match y.2 with
  | .local => (slotN S.N y.1).map fun i => (y.1, i)
  | .cell => (slotN S.N y.1).map fun i => (y.1, i)
  | _ => none
def Sx.blk (S : Sx) (scope : Scope) : Sx := ⟨S.N, relS scope S.sc, fun x => scope.names.lookup x == some .cell⟩
def dictNew : EM D := fun _ s => .ok (.loc s.length) (s ++ [.dic []])
mutual
def gSlots (S : Sx) : Nat → Expr → List Nat
  | 0, _ => []
  | n + 1, e => match e with
    | .Name x _ => (slotN S.N x).toList
    | .Tuple es _ _ => gsSlots S n es
    | _ => []
def gsSlots (S : Sx) : Nat → List Expr → List Nat
  | 0, _ => []
  | n + 1, es => match es with
    | [] => []
    | e :: es => gSlots S n e ++ gsSlots S n es
end
def tYesM : EM Bool := fun _ s => .ok true s
mutual
def dE (C : Ctx) (S : Sx) : Nat → Expr → EM D
  | 0, _ => eErr
  | n + 1, e => match e with
    | .Name x _ => dName C S x
    | .Constant c _ _ => dConst c
    | .BinOp a op b _ => eBin (pBin op) (dE C S n a) (dE C S n b)
    | .UnaryOp op a _ => match op with
      | .Not => eNt (dE C S n a)
      | .USub => eUn pNeg (dE C S n a)
      | _ => eErr
    | .Compare a ops bs _ => match ops, bs with
      | [op], [b] => if behindInMarks op b = false then eBin (pCmp op) (dE C S n a) (dE C S n b) else eErr
      | _, _ => eErr
    | .BoolOp op vs _ => dBo C S n op vs
    | .IfExp c a b _ => eIf (dT C S n c) (dE C S n a) (dE C S n b)
    | .Tuple es _ _ => if noStar es = true then eA mkTup (dA C S n es) else eErr
    | .List es _ => if noStar es = true then eA mkLst (dA C S n es) else eErr
    | .Dict ks vs _ => match ks, vs with
      | [], [] => dictNew
      | ks, vs => if ks.length = vs.length ∧ ks.length ≤ 15 ∧ ks ≠ [] then
          match dPs C S n ks vs with
          | some ps => eDisp ps
          | none => eErr
        else eErr
    | .ListComp elt gs scope p => if frK C S (.ListComp elt gs scope p) = 0 then eErr else eAlloc (dF C S n (.ListComp elt gs scope p))
    | .DictComp kx vx gs scope _ => match gs with
      | [⟨tg, iter, ifs, 0⟩] => eAllocD (dDc C S n kx vx tg iter ifs scope)
      | _ => eErr
    | .Subscript a i p => if frK C S (.Subscript a i p) = 0 then
        match i with
        | .Slice lo hi none _ => eSl (dE C S n a) (dO C S n lo) (dO C S n hi)
        | i => if isSl i = false then eBin pIx (dE C S n a) (dE C S n i) else eErr
      else eAlloc (dF C S n (.Subscript a i p))
    | .Call f args kws pos => match kws with
      | [] => match f with
        | .Name x _ => if frK C S (.Call f args [] pos) = 0 then dCall C S n x args else eAlloc (dF C S n (.Call f args [] pos))
        | .Attribute o m apos => if noStar args = true ∧ isSup o = false ∧ (apos.endLine == pos.line) = true ∧ args.length < 29 then
            match args with
            | [] => eMeth m (dE C S n o) aNil
            | a :: as => eMeth m (dE C S n o) (dA C S n (a :: as))
          else eErr
        | _ => eErr
      | _ => eErr
    | _ => eErr
def dPs (C : Ctx) (S : Sx) : Nat → List (Option Expr) → List Expr → Option (List (Str × EM D))
  | 0, _, _ => none
  | n + 1, ks, vs => match ks, vs with
    | [], [] => some []
    | some (.Constant (.str x) _ _) :: ks, v :: vs => match dPs C S n ks vs with
      | some ps => some ((x, dE C S n v) :: ps)
      | none => none
    | _, _ => none
def dCall (C : Ctx) (S : Sx) : Nat → Str → List Expr → EM D
  | 0, _, _ => eErr
  | n + 1, x, args => if okName x = true ∧ glB S.sc x = true ∧ noStar args = true then
      if C.blt x = true then
        match args with
        | [] => eErr
        | [a] => match bKind x with
          | 1 => eL lTup (dLs C S n a)
          | 2 => eL lSum (dLl C S n a)
          | 3 => eL lAll (dLl C S n a)
          | 4 => eL lAny (dLl C S n a)
          | 7 => eA pLen (dA C S n [a])
          | 8 => eA pAbs (dA C S n [a])
          | 9 => eA pIntC (dA C S n [a])
          | 12 => eA pDict (dA C S n [a])
          | _ => eErr
        | a :: b :: as => match bKind x with
          | 10 => eA pIsi (dA C S n (a :: b :: as))
          | _ => eErr
      else match C.fn x with
        | some (k, F) => match args with
          | [] => if k = 0 then eCall 0 F aNil else eErr
          | a :: as => eCall k F (dA C S n (a :: as))
        | none => eErr
    else eErr
def dLs (C : Ctx) (S : Sx) : Nat → Expr → EM (List D)
  | 0, _ => eErr
  | n + 1, e => if frK C S e = 0 then lOfE (dE C S n e) else dF C S n e
def dLl (C : Ctx) (S : Sx) : Nat → Expr → EM (List D)
  | 0, _ => eErr
  | n + 1, e => if frK C S e = 0 then lOfL (dE C S n e) else dF C S n e
def dF (C : Ctx) (S : Sx) : Nat → Expr → EM (List D)
  | 0, _ => eErr
  | n + 1, e => match e with
    | .ListComp elt gs scope _ => match gs with
      | [⟨tg, iter, ifs, 0⟩] => if blkC S.N S.sc scope (ownOf S scope) = true ∧ isSet iter = false ∧ ((gSlots (S.blk scope) n tg).all fun i => ((ownOf S scope).map (·.2)).contains i) = true then
          fLc (dI C S n (isTupE tg) iter) (dG C (S.blk scope) n tg) (dIfs C (S.blk scope) n ifs) (dE C (S.blk scope) n elt) ((ownOf S scope).map (·.2))
        else eErr
      | _ => eErr
    | .Call f args _ _ => match f, args with
      | .Name x _, [a] => if bKind x = 5 then (if frK C S a = 0 then fSorted (dE C S n a) else fSortedL (dF C S n a)) else fList (dLs C S n a)
      | _, _ => eErr
    | .Subscript a _ _ => fRev (dE C S n a)
    | _ => eErr
def dDc (C : Ctx) (S : Sx) : Nat → Expr → Expr → Expr → Expr → List Expr → Scope → EM (List (Key × D))
  | 0, _, _, _, _, _, _ => eErr
  | n + 1, kx, vx, tg, iter, ifs, scope => if blkC S.N S.sc scope (ownOf S scope) = true ∧ isSet iter = false ∧ ((gSlots (S.blk scope) n tg).all fun i => ((ownOf S scope).map (·.2)).contains i) = true then
      fDc (dI C S n (isTupE tg) iter) (dG C (S.blk scope) n tg) (dIfs C (S.blk scope) n ifs) (dE C (S.blk scope) n kx) (dE C (S.blk scope) n vx) ((ownOf S scope).map (·.2))
    else eErr
def dIfs (C : Ctx) (S : Sx) : Nat → List Expr → EM Bool
  | 0, _ => eErr
  | n + 1, es => match es with
    | [] => tYesM
    | [c] => dT C S n c
    | _ => eErr
def dI (C : Ctx) (S : Sx) : Nat → Bool → Expr → EM Src
  | 0, _, _ => iErr
  | n + 1, tb, e => if frK C S e = 0 then
      match e with
      | .Call (.Name x p) args kws pos => if bKind x = 11 ∧ C.blt x = true ∧ glB S.sc x = true ∧ noStar args = true then
          match args, kws with
          | [a], [] => iRng1' (dA C S n [a])
          | [a, b], [] => iRng2' (dA C S n [a, b])
          | _, _ => iErr
        else if bKind x = 13 ∧ C.blt x = true ∧ glB S.sc x = true ∧ noStar args = true ∧ tb = true then
          match args, kws with
          | [a, b], [] => iZip' (dA C S n [a, b])
          | _, _ => iErr
        else iVal (dE C S n (.Call (.Name x p) args kws pos))
      | e => iVal (dE C S n e)
    else iFix (dF C S n e)
def dA (C : Ctx) (S : Sx) : Nat → List Expr → EM (List D)
  | 0, _ => eErr
  | n + 1, es => match es with
    | [] => aNil
    | e :: es => if isStar e = false then aCons (dE C S n e) (dA C S n es) else eErr
def dO (C : Ctx) (S : Sx) : Nat → Option Expr → EM (Option Int)
  | 0, _ => eErr
  | n + 1, e => match e with
    | none => oNone
    | some e => oSome (dE C S n e)
def dT (C : Ctx) (S : Sx) : Nat → Expr → EM Bool
  | 0, _ => eErr
  | n + 1, e => match e with
    | .UnaryOp op a p => match op with
      | .Not => tNt (dT C S n a)
      | op => tOfT (dE C S n (.UnaryOp op a p))
    | .BoolOp op vs _ => dW C S n op vs
    | .Compare a ops bs _ => match ops, bs with
      | [op], [b] => if behindInMarks op b = false then tOfB (eBin (pCmp op) (dE C S n a) (dE C S n b)) else eErr
      | _, _ => eErr
    | .IfExp _ _ _ _ => eErr
    | e => tOfT (dE C S n e)
def dW (C : Ctx) (S : Sx) : Nat → BoolOp → List Expr → EM Bool
  | 0, _, _ => eErr
  | n + 1, op, vs => match vs with
    | [] => eErr
    | [a] => dT C S n a
    | a :: b :: r => match op with
      | .And => tAn (dT C S n a) (dW C S n .And (b :: r))
      | .Or => tOr' (dT C S n a) (dW C S n .Or (b :: r))
def dBo (C : Ctx) (S : Sx) : Nat → BoolOp → List Expr → EM D
  | 0, _, _ => eErr
  | n + 1, op, vs => match vs with
    | [] => eErr
    | [a] => dE C S n a
    | a :: b :: r => match op with
      | .And => eAn (dE C S n a) (dBo C S n .And (b :: r))
      | .Or => eOr (dE C S n a) (dBo C S n .Or (b :: r))
def dG (C : Ctx) (S : Sx) : Nat → Expr → GM
  | 0, _ => gErr
  | n + 1, e => match e with
    | .Name x _ => if locB S x = true then
        match slotN S.N x with
        | some i => gNm i
        | none => gErr
      else gErr
    | .Tuple es _ _ => if noStar es = true then gTp es.length (dGs C S n es) else gErr
    | .Subscript o i _ => if isSl i = false then gSb (dE C S n o) (dE C S n i) else gErr
    | _ => gErr
def dGs (C : Ctx) (S : Sx) : Nat → List Expr → GMs
  | 0, _ => fun _ _ _ => .err
  | n + 1, es => match es with
    | [] => gsNil
    | e :: es => if isStar e = false then gsCons (dG C S n e) (dGs C S n es) else fun _ _ _ => .err
end
mutual
def dS (C : Ctx) (S : Sx) : Nat → Stmt → SM
  | 0, _ => sErr
  | n + 1, st => match st with
    | .Pass _ => sNil
    | .Break _ => sBreak
    | .Continue _ => sCont
    | .Return e _ => match e with
      | some e => sRet (dE C S n e)
      | none => sRetN
    | .Expr e _ => if isComp e = false then sExpr (dE C S n e) else sErr
    | .If c a b _ => sIf (dT C S n c) (dB C S n a) (dB C S n b)
    | .While c b els _ => match els with
      | [] => sWhile (dT C S n c) (dB C S n b)
      | _ => sErr
    | .For tg iter b els _ => match els with
      | [] => if isSet iter = false then sFor (dI C S n (isTupE tg) iter) (dG C S n tg) (dB C S n b) else sErr
      | _ => sErr
    | .Assign tgs e pos => match tgs with
      | [.Name x _] => if locB S x = true then
          match slotN S.N x with
          | some i => sSet i (dE C S n e)
          | none => sErr
        else sErr
      | [tg] => if isStar tg = false ∧ isTupE e = false then sAsg (dG C S n tg) (dE C S n e) else sErr
      | _ => sErr
    | .AugAssign tg op e _ => match tg with
      | .Name x _ => if locB S x = true then
          match slotN S.N x with
          | some i => sAug i op (dE C S n e)
          | none => sErr
        else sErr
      | _ => sErr
    | _ => sErr
def dB (C : Ctx) (S : Sx) : Nat → List Stmt → SM
  | 0, _ => sErr
  | n + 1, sts => match sts with
    | [] => sNil
    | st :: sts => sCons (dS C S n st) (dB C S n sts)
end
end Y

set_option Elab.async false
set_option linter.all false
set_option maxRecDepth 100000
set_option maxHeartbeats 4000000
/-! Y12: the meaning is right. -/
namespace Y
open PySem L2

structure Snd (C : Ctx) (n : Nat) : Prop where
  e : ∀ {S X W}, OkX C S X → Takes X W → ∀ e, ME X W e (dE C S n e)
  call : ∀ {S X W}, OkX C S X → Takes X W → ∀ x args np pos, ME X W (.Call (.Name x np) args [] pos) (dCall C S n x args)
  ls : ∀ {S X W}, OkX C S X → Takes X W → ∀ e, ML X W e (dLs C S n e)
  ll : ∀ {S X W}, OkX C S X → Takes X W → ∀ e, MLl X W e (dLl C S n e)
  f : ∀ {S X W}, OkX C S X → Takes X W → ∀ e, frK C S e ≠ 0 → MF X W e (dF C S n e)
  dc : ∀ {S X W}, OkX C S X → Takes X W → ∀ kx vx tg iter ifs scope pos, PE X (.DictComp kx vx [⟨tg, iter, ifs, 0⟩] scope pos) (tFd (wd X) W (dDc C S n kx vx tg iter ifs scope))
  ifs : ∀ {S} (w : Wd) (es : List Expr), ∃ tt : TT, (∀ X, OkX C S X → wd X = w → PTs X es tt) ∧ ∀ σ H Q, tM w RB W0 (dIfs C S n es) σ H Q → tt σ H Q
  i : ∀ {S X W}, OkX C S X → Takes X W → ∀ tg e, MI X W tg e (dI C S n (isTupE tg) e)
  a : ∀ {S X W}, OkX C S X → Takes X W → ∀ es, MA X W es (dA C S n es)
  ps : ∀ {S X W}, OkX C S X → Takes X W → ∀ pos ks vs l, dPs C S n ks vs = some l → PPs X pos ks vs (trsOf (wd X) W l) ∧ l.length = ks.length ∧ ks.all (·.isSome) = true
  o : ∀ {S X W}, OkX C S X → Takes X W → ∀ e, MO X W e (dO C S n e)
  t : ∀ {S X W}, OkX C S X → Takes X W → ∀ e, MT X W e (dT C S n e)
  w : ∀ {S X W}, OkX C S X → Takes X W → ∀ op vs pos, MW X W (.BoolOp op vs pos) (dW C S n op vs)
  bo : ∀ {S X W}, OkX C S X → Takes X W → ∀ op vs pos, ME X W (.BoolOp op vs pos) (dBo C S n op vs)
  g : ∀ {S X}, OkX C S X → ∀ tg, MG X tg (gSlots S n tg) (dG C S n tg)
  gs : ∀ {S X}, OkX C S X → ∀ es, MGs X es (gsSlots S n es) (dGs C S n es)

section
variable {C : Ctx} {S : Sx} {X : Cx} {W : WX}
theorem OkX.gl (ok : OkX C S X) {x : Str} (h : glB S.sc x = true) : Gl X x := by
  show X.env.scope.names.lookup x = _
  rw [ok.hsc]
  exact glB_ok h
theorem OkX.blk (ok : OkX C S X) {scope : Scope} (hk : scope.kind = .function) (s : Shared) (H : Hp) (Cc : Addr) (cl : List (Str × Addr)) (fp : List Addr) : OkX C (S.blk scope) (X.blk s H scope (compEnvC scope cl Cc X.env) fp) where
  hN := ok.hN
  hsc := by
    show relS scope X.env.scope = relS scope S.sc
    rw [ok.hsc]
  hfn := rfl
  calm := ok.calm
  nd := ok.nd
  room := ok.room
  blt := ok.blt
  cst := ok.cst
  fns := fun x n F h => let ⟨z⟩ := ok.fns x n F h; ⟨z⟩
  kind := hk
theorem blkC_kind {N : List Str} {sc scope : Scope} {own : List (Str × Nat)} (h : blkC N sc scope own = true) : scope.kind = .function := (blkOk_by h).kind
theorem me_name (ok : OkX C S X) (x : Str) (p : Pos) : ME X W (.Name x p) (dName C S x) := by
  unfold dName
  by_cases h1 : okName x = true
  · rw [if_pos h1]
    obtain ⟨a1, a2, a3⟩ := okName_ok h1
    by_cases h2 : visB S.sc x = true
    · rw [if_pos h2]
      cases e : slotN S.N x with
      | none => exact me_err
      | some i => exact me_var (by rw [ok.hN]; exact slotN_ok e) (by rw [ok.hsc]; exact visB_ok h2) a1 a2
    · rw [if_neg h2]
      by_cases h3 : glB S.sc x = true
      · rw [if_pos h3]
        cases e : C.cst x with
        | some d =>
          obtain ⟨u, v, hm, rv, rp⟩ := ok.cst x d e
          exact me_const (pe_glob (ok.gl h3) hm rv a1) rp
        | none =>
          by_cases h4 : C.blt x = true
          · simp only [if_pos h4]
            cases e2 : tyName x with
            | none => exact me_err
            | some t => exact me_const (pe_bltn (v := .ty t) (ok.gl h3) (ok.blt x h4) (tyName_ok e2) rfl a3 a1) fun _ _ _ => by unfold Rp; rfl
          · simp only [if_neg h4]; exact me_err
      · rw [if_neg h3]; exact me_err
  · rw [if_neg h1]; exact me_err
theorem me_cons (c : Const) (k : Nat) (p : Pos) : ME X W (.Constant c k p) (dConst c) := by
  cases c with
  | none => exact me_non
  | bool b => exact me_bl
  | int i => exact me_int
  | str x => exact me_str
  | _ => exact me_err
theorem me_dict {p : Pos} : ME X W (.Dict [] [] p) dictNew := by
  refine PE.imp pe_dnewK ?_
  rintro σ H Q ⟨ρ, E, s, hs, he, h⟩ p hp
  exact RQ.obj h hs ⟨[], rfl, RpA.nil⟩ hp
theorem mgs_err {es : List Expr} {sl : List Nat} : MGs X es sl (fun _ _ _ => .err) := ⟨fun _ _ _ _ _ _ _ _ _ h => by obtain ⟨_, _, _, _, _, _, _, h⟩ := h; exact h.elim⟩
theorem mg_err' {tg : Expr} {sl : List Nat} : MG X tg sl gErr := ⟨fun _ _ _ _ _ _ _ _ _ h => by obtain ⟨_, _, _, _, _, _, _, h⟩ := h; exact h.elim⟩
theorem mo_err {e : Option Expr} : MO X W e eErr := ⟨fun _ _ _ _ _ _ h => (tM_err h).elim⟩
theorem mf_err {e : Expr} : MF X W e eErr := ⟨fun _ _ _ _ _ _ h => by obtain ⟨_, _, _, _, _, h⟩ := h; exact h.elim⟩
theorem md_err {e : Expr} : PE X e (tFd (wd X) W eErr) := ⟨fun _ _ _ _ _ _ h => by obtain ⟨_, _, _, _, _, h⟩ := h; exact h.elim⟩
theorem mll_err {e : Expr} : MLl X W e eErr := ⟨fun _ _ _ _ _ _ h => (tM_err h).elim⟩
end
theorem snd0 (C : Ctx) : Snd C 0 where
  e := fun _ _ _ => by unfold dE; exact me_err
  call := fun _ _ _ _ _ _ => by unfold dCall; exact me_err
  ls := fun _ _ _ => by unfold dLs; exact ml_err
  ll := fun _ _ _ => by unfold dLl; exact mll_err
  f := fun _ _ _ _ => by unfold dF; exact mf_err
  dc := fun _ _ _ _ _ _ _ _ _ => by unfold dDc; exact md_err
  ifs := fun w es => ⟨fun _ _ _ => False, fun X ok _ => ⟨fun _ _ _ _ _ _ h => h.elim⟩, fun _ _ _ h => by unfold dIfs at h; exact (tM_err h).elim⟩
  i := fun _ _ _ _ => by unfold dI; exact mi_err
  a := fun _ _ _ => by unfold dA; exact ma_err
  ps := fun _ _ _ _ _ _ h => by unfold dPs at h; cases h
  o := fun _ _ _ => by unfold dO; exact mo_err
  t := fun _ _ _ => by unfold dT; exact mt_err
  w := fun _ _ _ _ _ => by unfold dW; exact mw_err
  bo := fun _ _ _ _ _ => by unfold dBo; exact me_err
  g := fun _ _ => by unfold dG; exact mg_err'
  gs := fun _ _ => by unfold dGs; exact mgs_err
section
variable {C : Ctx} {n : Nat} (ih : Snd C n)
include ih
theorem snd_a {S : Sx} {X : Cx} {W : WX} (ok : OkX C S X) (tk : Takes X W) (es : List Expr) : MA X W es (dA C S (n + 1) es) := by
  cases es with
  | nil => simp only [dA]; exact ma_nil
  | cons e es =>
    simp only [dA]
    by_cases h : isStar e = false
    · rw [if_pos h]; exact ma_cons (ih.e ok tk e) (ih.a ok tk es) (star_cons h)
    · rw [if_neg h]; exact ma_err
theorem snd_ps {S : Sx} {X : Cx} {W : WX} (ok : OkX C S X) (tk : Takes X W) (pos : Pos) (ks : List (Option Expr)) (vs : List Expr) (l : List (Str × EM D)) (h : dPs C S (n + 1) ks vs = some l) : PPs X pos ks vs (trsOf (wd X) W l) ∧ l.length = ks.length ∧ ks.all (·.isSome) = true := by
  simp only [dPs] at h
  split at h
  · cases h; exact ⟨pps_nil, rfl, rfl⟩
  · rename_i x k p ks v vs
    split at h
    · rename_i ps e
      cases h
      obtain ⟨h1, h2, h3⟩ := ih.ps ok tk pos ks vs ps e
      exact ⟨pps_cons pe_str (ih.e ok tk v) h1, by rw [List.length_cons, List.length_cons, h2], by rw [List.all_cons, h3]; rfl⟩
    · cases h
  · cases h
theorem snd_o {S : Sx} {X : Cx} {W : WX} (ok : OkX C S X) (tk : Takes X W) (e : Option Expr) : MO X W e (dO C S (n + 1) e) := by
  cases e with
  | none => simp only [dO]; exact mo_none
  | some e => simp only [dO]; exact mo_some (ih.e ok tk e)
theorem snd_w {S : Sx} {X : Cx} {W : WX} (ok : OkX C S X) (tk : Takes X W) (op : BoolOp) (vs : List Expr) (pos : Pos) : MW X W (.BoolOp op vs pos) (dW C S (n + 1) op vs) := by
  cases vs with
  | nil => simp only [dW]; exact mw_err
  | cons a r =>
    cases r with
    | nil =>
      simp only [dW]
      cases op with
      | And => exact mw_and1 (ih.t ok tk a)
      | Or => exact mw_or1 (ih.t ok tk a)
    | cons b r =>
      simp only [dW]
      cases op with
      | And => exact mw_and (ih.t ok tk a) (ih.w ok tk .And (b :: r) pos)
      | Or => exact mw_or (ih.t ok tk a) (ih.w ok tk .Or (b :: r) pos)
theorem snd_bo {S : Sx} {X : Cx} {W : WX} (ok : OkX C S X) (tk : Takes X W) (op : BoolOp) (vs : List Expr) (pos : Pos) : ME X W (.BoolOp op vs pos) (dBo C S (n + 1) op vs) := by
  cases vs with
  | nil => simp only [dBo]; exact me_err
  | cons a r =>
    cases r with
    | nil => simp only [dBo]; exact pe_one (ih.e ok tk a)
    | cons b r =>
      simp only [dBo]
      cases op with
      | And => exact me_and (ih.e ok tk a) (ih.bo ok tk .And (b :: r) pos)
      | Or => exact me_or (ih.e ok tk a) (ih.bo ok tk .Or (b :: r) pos)
theorem snd_ls {S : Sx} {X : Cx} {W : WX} (ok : OkX C S X) (tk : Takes X W) (e : Expr) : ML X W e (dLs C S (n + 1) e) := by
  simp only [dLs]
  by_cases h : frK C S e = 0
  · rw [if_pos h]; exact ml_of (ih.e ok tk e)
  · rw [if_neg h]; exact ml_of_mf (ih.f ok tk e h)
theorem snd_ll {S : Sx} {X : Cx} {W : WX} (ok : OkX C S X) (tk : Takes X W) (e : Expr) : MLl X W e (dLl C S (n + 1) e) := by
  simp only [dLl]
  by_cases h : frK C S e = 0
  · rw [if_pos h]; exact mll_of (ih.e ok tk e)
  · rw [if_neg h]; exact mll_of_mf (ih.f ok tk e h)
theorem snd_ifs {S : Sx} (w : Wd) (es : List Expr) : ∃ tt : TT, (∀ X, OkX C S X → wd X = w → PTs X es tt) ∧ ∀ σ H Q, tM w RB W0 (dIfs C S (n + 1) es) σ H Q → tt σ H Q := by
  cases es with
  | nil =>
    refine ⟨tYes, fun X _ _ => pts_nil, fun σ H Q h => ?_⟩
    simp only [dIfs] at h
    obtain ⟨ρ, E, s, hs, he, h⟩ := h
    exact h ρ H true Lat.refl hs rfl
  | cons c r =>
    cases r with
    | nil =>
      refine ⟨tM w RB W0 (dT C S n c), fun X ok e => ?_, fun σ H Q h => by simpa only [dIfs] using h⟩
      subst e
      exact pts_one (ih.t ok takes0 c)
    | cons d r => exact ⟨fun _ _ _ => False, fun X ok _ => ⟨fun _ _ _ _ _ _ h => h.elim⟩, fun _ _ _ h => by simp only [dIfs] at h; exact (tM_err h).elim⟩
theorem snd_g {S : Sx} {X : Cx} (ok : OkX C S X) (tg : Expr) : MG X tg (gSlots S (n + 1) tg) (dG C S (n + 1) tg) := by
  cases tg with
  | Name x p =>
    simp only [dG, gSlots]
    by_cases h : locB S x = true
    · rw [if_pos h]
      obtain ⟨h1, h2⟩ := locB_ok h
      cases e : slotN S.N x with
      | none => exact mg_err'
      | some i => exact mg_name (by rw [ok.hN]; exact ok.nd) (by rw [ok.hN]; exact slotN_ok e) (by rw [ok.hsc]; exact h1) (by rw [ok.hsc, ok.hfn]; exact h2)
    · rw [if_neg h]; exact mg_err'
  | Tuple es k p =>
    simp only [dG, gSlots]
    by_cases h : noStar es = true
    · rw [if_pos h]
      obtain ⟨h1, h2, h3⟩ := assign_no (env := X.env) h
      exact mg_tup ok.calm (ih.gs ok es) h1 h2
    · rw [if_neg h]; exact mg_err'
  | Subscript o i p =>
    simp only [dG, gSlots]
    by_cases h : isSl i = false
    · rw [if_pos h]
      refine mg_sub ok.room (ih.e ok takes0 o) (ih.e ok takes0 i) fun v => ?_
      cases i <;> first | (cases h; done) | rfl
    · rw [if_neg h]; exact mg_err'
  | _ => simp only [dG]; exact mg_err'
theorem snd_gs {S : Sx} {X : Cx} (ok : OkX C S X) (es : List Expr) : MGs X es (gsSlots S (n + 1) es) (dGs C S (n + 1) es) := by
  cases es with
  | nil => simp only [dGs, gsSlots]; exact mgs_nil
  | cons e es =>
    simp only [dGs, gsSlots]
    by_cases h : isStar e = false
    · rw [if_pos h]
      refine mgs_cons (ih.g ok e) (ih.gs ok es) ?_
      cases e <;> first | (cases h; done) | (simp only [assignEach, List.map_cons]; done)
    · rw [if_neg h]; exact mgs_err
theorem snd_t {S : Sx} {X : Cx} {W : WX} (ok : OkX C S X) (tk : Takes X W) (e : Expr) : MT X W e (dT C S (n + 1) e) := by
  cases e with
  | UnaryOp op a p =>
    cases op with
    | Not => simp only [dT]; exact mt_not (ih.t ok tk a)
    | _ => simp only [dT]; exact mt_truth (ih.e ok tk _) (plainT_ok rfl)
  | BoolOp op vs p => simp only [dT]; exact (ih.w ok tk op vs p).pt
  | Compare a ops bs p =>
    simp only [dT]
    split
    · rename_i op b
      by_cases h : behindInMarks op b = false
      · rw [if_pos h]; exact mt_cmp (op_cmp ok.room op) (ih.e ok tk a) (ih.e ok tk b) h
      · rw [if_neg h]; exact mt_err
    · exact mt_err
  | IfExp _ _ _ _ => simp only [dT]; exact mt_err
  | _ => simp only [dT]; exact mt_truth (ih.e ok tk _) (plainT_ok rfl)
end
end Y

set_option Elab.async false
set_option linter.all false
set_option maxRecDepth 100000
set_option maxHeartbeats 4000000
/-! Y13: the meaning is right: calls, comprehensions, statements. -/
namespace Y
open PySem L2
section
variable {C : Ctx} {n : Nat} (ih : Snd C n)
include ih
theorem snd_call {S : Sx} {X : Cx} {W : WX} (ok : OkX C S X) (tk : Takes X W) (x : Str) (args : List Expr) (np pos : Pos) : ME X W (.Call (.Name x np) args [] pos) (dCall C S (n + 1) x args) := by
  simp only [dCall]
  by_cases h : okName x = true ∧ glB S.sc x = true ∧ noStar args = true
  · rw [if_pos h]
    obtain ⟨h1, h2, h3⟩ := h
    obtain ⟨a1, a2, a3⟩ := okName_ok h1
    have gl := ok.gl h2
    by_cases hb : C.blt x = true
    · rw [if_pos hb]
      have hm := ok.blt x hb
      cases args with
      | nil => exact me_err
      | cons a as =>
        have hsa : isStar a = false := by
          unfold noStar at h3
          rw [List.all_cons, Bool.and_eq_true, Bool.not_eq_true'] at h3
          exact h3.1
        cases as with
        | nil =>
          have st : starEach [a] X.env = [(false, eval a X.env)] := by rw [star_cons hsa]; simp [starEach]
          have bl : (backTo pos (starEach [] X.env)).any (·.1) = false := by simp [starEach, backTo]
          simp only
          split
          · rename_i e
            have e' := bKind_ok (i := 0) e
            cases e'
            exact me_tupL hm gl (ih.ls ok tk a) st
          · rename_i e
            have e' := bKind_ok (i := 1) e
            cases e'
            exact me_sumL ok.calm hm gl (ih.ll ok tk a) st
          · rename_i e
            have e' := bKind_ok (i := 2) e
            cases e'
            exact me_allL ok.calm hm gl (ih.ll ok tk a) st
          · rename_i e
            have e' := bKind_ok (i := 3) e
            cases e'
            exact me_anyL ok.calm hm gl (ih.ll ok tk a) st
          · rename_i e
            have e' := bKind_ok (i := 6) e
            cases e'
            exact me_callB c_len gl hm (by decide +kernel) (ih.a ok tk [a]) a3 a1 (star_cons hsa) bl
          · rename_i e
            have e' := bKind_ok (i := 7) e
            cases e'
            exact me_callB c_abs gl hm (by decide +kernel) (ih.a ok tk [a]) a3 a1 (star_cons hsa) bl
          · rename_i e
            have e' := bKind_ok (i := 8) e
            cases e'
            exact me_callTy c_int gl hm (by decide +kernel) (ih.a ok tk [a]) a3 a1 (star_cons hsa) bl
          · rename_i e
            have e' := bKind_ok (i := 11) e
            cases e'
            exact me_callTy (c_dict ok.calm) gl hm (by decide +kernel) (ih.a ok tk [a]) a3 a1 (star_cons hsa) bl
          · exact me_err
        | cons b as =>
          simp only
          have h4 : noStar (b :: as) = true := by
            unfold noStar at h3 ⊢
            rw [List.all_cons, Bool.and_eq_true] at h3
            exact h3.2
          split
          · rename_i e
            have e' := bKind_ok (i := 9) e
            cases e'
            exact me_callB c_isi gl hm (by decide +kernel) (ih.a ok tk (a :: b :: as)) a3 a1 (star_cons hsa) (star_no h4)
          · exact me_err
    · rw [if_neg hb]
      cases e : C.fn x with
      | none => exact me_err
      | some kF =>
        obtain ⟨k, F⟩ := kF
        have G := ok.fns x k F e
        cases args with
        | nil =>
          simp only
          by_cases hk : k = 0
          · rw [if_pos hk]; subst hk; exact me_call0 G tk gl a1
          · rw [if_neg hk]; exact me_err
        | cons a as =>
          simp only
          have hsa : isStar a = false ∧ noStar as = true := by
            unfold noStar at h3
            rw [List.all_cons, Bool.and_eq_true, Bool.not_eq_true'] at h3
            exact h3
          exact me_call G tk gl (ih.a ok tk (a :: as)) a1 (star_cons hsa.1) (star_no hsa.2)
  · rw [if_neg h]; exact me_err
theorem snd_f {S : Sx} {X : Cx} {W : WX} (ok : OkX C S X) (tk : Takes X W) (e : Expr) (hf : frK C S e ≠ 0) : MF X W e (dF C S (n + 1) e) := by
  cases e with
  | ListComp elt gs scope p =>
    simp only [dF]
    split
    · rename_i tg iter ifs
      split
      · rename_i hc
        obtain ⟨h1, h2, h3⟩ := hc
        obtain ⟨tt, pt, imp⟩ := ih.ifs (S := S.blk scope) (wd X) ifs
        have hb : BlkOk X.N X.env.scope scope (ownOf S scope) := by rw [ok.hN, ok.hsc]; exact blkOk_by h1
        exact mf_lc ok.calm (by rw [ok.hN]; exact ok.nd) (ih.i ok tk tg iter) hb
          ⟨fun s H Cc cl fp => ih.g (ok.blk (blkC_kind h1) s H Cc cl fp) tg, fun s H Cc cl fp => pt _ (ok.blk (blkC_kind h1) s H Cc cl fp) rfl, imp⟩
          (fun s H Cc cl fp => ih.e (ok.blk (blkC_kind h1) s H Cc cl fp) takes0 elt) (fun i hi => List.contains_iff_mem.mp (List.all_eq_true.mp h3 i hi)) (folded_ok h2)
      · exact mf_err
    · exact mf_err
  | Call f args kws pos =>
    unfold frK at hf
    split at hf
    · rename_i heq; cases heq
    · rename_i x np a pos' heq
      cases heq
      split at hf
      · rename_i hh
        obtain ⟨g1, g2, g3⟩ := hh
        have st : starEach [a] X.env = [(false, eval a X.env)] := by rw [star_cons g3]; simp [starEach]
        simp only [dF]
        split at hf
        · rename_i e5
          rw [if_pos e5]
          have e' := bKind_ok (i := 4) e5
          cases e'
          by_cases hz : frK C S a = 0
          · rw [if_pos hz]; exact mf_sorted ok.calm (ok.blt _ g2) (ok.gl g1) (ih.e ok tk a) st
          · rw [if_neg hz]; exact mf_sortedL (ok.blt _ g2) (ok.gl g1) (mll_of_mf (ih.f ok tk a hz)) st
        · rename_i n5
          rw [if_neg n5]
          split at hf
          · rename_i e6
            have e' := bKind_ok (i := 5) e6
            cases e'
            exact mf_listL (ok.blt _ g2) (ok.gl g1) (ih.ls ok tk a) st
          · exact absurd rfl hf
      · exact absurd rfl hf
    · rename_i heq; cases heq
    · exact absurd rfl hf
  | Subscript a i p =>
    unfold frK at hf
    split at hf
    · rename_i heq; cases heq
    · rename_i heq; cases heq
    · rename_i heq
      cases heq
      simp only [dF]
      exact mf_rev (ih.e ok tk a)
    · exact absurd rfl hf
  | _ =>
    exfalso
    unfold frK at hf
    split at hf
    · rename_i heq; cases heq
    · rename_i heq; cases heq
    · rename_i heq; cases heq
    · exact absurd rfl hf
theorem snd_dc {S : Sx} {X : Cx} {W : WX} (ok : OkX C S X) (tk : Takes X W) (kx vx tg iter : Expr) (ifs : List Expr) (scope : Scope) (pos : Pos) : PE X (.DictComp kx vx [⟨tg, iter, ifs, 0⟩] scope pos) (tFd (wd X) W (dDc C S (n + 1) kx vx tg iter ifs scope)) := by
  simp only [dDc]
  split
  · rename_i hc
    obtain ⟨h1, h2, h3⟩ := hc
    obtain ⟨tt, pt, imp⟩ := ih.ifs (S := S.blk scope) (wd X) ifs
    have hb : BlkOk X.N X.env.scope scope (ownOf S scope) := by rw [ok.hN, ok.hsc]; exact blkOk_by h1
    exact md_dc ok.calm (by rw [ok.hN]; exact ok.nd) (ih.i ok tk tg iter) hb
      ⟨fun s H Cc cl fp => ih.g (ok.blk (blkC_kind h1) s H Cc cl fp) tg, fun s H Cc cl fp => pt _ (ok.blk (blkC_kind h1) s H Cc cl fp) rfl, imp⟩
      (fun s H Cc cl fp => ih.e (ok.blk (blkC_kind h1) s H Cc cl fp) takes0 kx) (fun s H Cc cl fp => ih.e (ok.blk (blkC_kind h1) s H Cc cl fp) takes0 vx) (fun i hi => List.contains_iff_mem.mp (List.all_eq_true.mp h3 i hi)) (folded_ok h2)
  · exact md_err
theorem snd_i {S : Sx} {X : Cx} {W : WX} (ok : OkX C S X) (tk : Takes X W) (tg e : Expr) : MI X W tg e (dI C S (n + 1) (isTupE tg) e) := by
  simp only [dI]
  by_cases hz : frK C S e = 0
  · rw [if_pos hz]
    split
    · rename_i x p args kws pos
      split
      · rename_i hh
        obtain ⟨g1, g2, g3, g4⟩ := hh
        have e' := bKind_ok (i := 10) g1
        cases e'
        split
        · rename_i a
          have hsa : isStar a = false := by
            unfold noStar at g4
            rw [List.all_cons, Bool.and_eq_true, Bool.not_eq_true'] at g4
            exact g4.1
          exact mi_range1 (ok.gl g3) (ok.blt _ g2) (ih.a ok tk _) (by rw [star_cons hsa]; simp [starEach])
        · rename_i a b
          have hsa : isStar a = false ∧ isStar b = false := by
            unfold noStar at g4
            simp only [List.all_cons, Bool.and_eq_true, Bool.not_eq_true'] at g4
            exact ⟨g4.1, g4.2.1⟩
          exact mi_range2 (ok.gl g3) (ok.blt _ g2) (ih.a ok tk _) (by rw [star_cons hsa.1, star_cons hsa.2]; simp [starEach]) (by rw [star_cons hsa.2]; simp [starEach])
        · exact mi_err
      · split
        · rename_i hh
          obtain ⟨g1, g2, g3, g4, g5⟩ := hh
          have e' := bKind_ok (i := 12) g1
          cases e'
          split
          · rename_i a b _
            have hsa : isStar a = false ∧ isStar b = false := by
              unfold noStar at g4
              simp only [List.all_cons, Bool.and_eq_true, Bool.not_eq_true'] at g4
              exact ⟨g4.1, g4.2.1⟩
            cases tg <;> first | (cases g5; done) | skip
            exact mi_zip (ok.gl g3) (ok.blt _ g2) (ih.a ok tk _) (by rw [star_cons hsa.1]) (by rw [star_cons hsa.2]; simp [starEach, backTo])
          · exact mi_err
        · exact mi_val (ih.e ok tk _)
    · exact mi_val (ih.e ok tk _)
  · rw [if_neg hz]
    exact mi_fresh (ih.f ok tk e hz)
theorem snd_e {S : Sx} {X : Cx} {W : WX} (ok : OkX C S X) (tk : Takes X W) (e : Expr) : ME X W e (dE C S (n + 1) e) := by
  cases e with
  | Name x p => simp only [dE]; exact me_name ok x p
  | Constant c k p => simp only [dE]; exact me_cons c k p
  | BinOp a op b p => simp only [dE]; exact me_bin (op_bin op) (ih.e ok tk a) (ih.e ok tk b)
  | UnaryOp op a p =>
    cases op with
    | Not => simp only [dE]; exact me_not (ih.e ok tk a)
    | USub => simp only [dE]; exact me_un un_neg' (ih.e ok tk a)
    | _ => simp only [dE]; exact me_err
  | Compare a ops bs p =>
    simp only [dE]
    split
    · rename_i op b
      by_cases h : behindInMarks op b = false
      · rw [if_pos h]; exact me_cmp (op_cmp ok.room op) (ih.e ok tk a) (ih.e ok tk b) h
      · rw [if_neg h]; exact me_err
    · exact me_err
  | BoolOp op vs p => simp only [dE]; exact ih.bo ok tk op vs p
  | IfExp c a b p => simp only [dE]; exact me_if (ih.t ok tk c) (ih.e ok tk a) (ih.e ok tk b)
  | Tuple es k p =>
    simp only [dE]
    by_cases h : noStar es = true
    · rw [if_pos h]; exact me_tup (ih.a ok tk es)
    · rw [if_neg h]; exact me_err
  | List es p =>
    simp only [dE]
    by_cases h : noStar es = true
    · rw [if_pos h]; exact me_lst (ih.a ok tk es)
    · rw [if_neg h]; exact me_err
  | Dict ks vs p =>
    simp only [dE]
    split
    · exact me_dict
    · split
      · rename_i hc
        split
        · rename_i l e
          obtain ⟨h1, h2, h3⟩ := ih.ps ok tk p _ _ l e
          exact me_disp h1 h3 hc.1 hc.2.2 hc.2.1 (by rw [h2]; exact hc.2.1)
        · exact me_err
      · exact me_err
  | ListComp elt gs scope p =>
    simp only [dE]
    by_cases h : frK C S (.ListComp elt gs scope p) = 0
    · rw [if_pos h]; exact me_err
    · rw [if_neg h]; exact me_of_mf (ih.f ok tk _ h)
  | DictComp kx vx gs scope p =>
    simp only [dE]
    split
    · exact me_of_fd (ih.dc ok tk _ _ _ _ _ _ _)
    · exact me_err
  | Subscript a i p =>
    simp only [dE]
    by_cases h : frK C S (.Subscript a i p) = 0
    · rw [if_pos h]
      split
      · exact me_sl (ih.e ok tk a) (ih.o ok tk _) (ih.o ok tk _)
      · by_cases h2 : isSl i = false
        · rw [if_pos h2]; exact me_ix ok.room (ih.e ok tk a) (ih.e ok tk i) h2
        · rw [if_neg h2]; exact me_err
    · rw [if_neg h]; exact me_of_mf (ih.f ok tk _ h)
  | Call f args kws pos =>
    simp only [dE]
    split
    · split
      · rename_i x np
        by_cases h : frK C S (.Call (.Name x np) args [] pos) = 0
        · rw [if_pos h]; exact ih.call ok tk x args np pos
        · rw [if_neg h]; exact me_of_mf (ih.f ok tk _ h)
      · rename_i o m apos
        by_cases h : noStar args = true ∧ isSup o = false ∧ (apos.endLine == pos.line) = true ∧ args.length < 29
        · rw [if_pos h]
          obtain ⟨h1, h2, h3, h4⟩ := h
          cases args with
          | nil => exact me_meth0 ok.room (ih.e ok tk o) (base_ok h2) h3
          | cons a as =>
            have hsa : isStar a = false ∧ noStar as = true := by
              unfold noStar at h1
              rw [List.all_cons, Bool.and_eq_true, Bool.not_eq_true'] at h1
              exact h1
            refine me_meth ok.room (ih.e ok tk o) (ih.a ok tk (a :: as)) (base_ok h2) ?_ h3 (star_cons hsa.1) (star_no hsa.2)
            rw [star_all h1]
            simp only [keywordEach, backToKw, List.map_nil, List.all_nil, Bool.and_true, Bool.true_and, decide_eq_true_eq, List.isEmpty_nil, if_true, List.length_nil, Nat.add_zero]
            omega
        · rw [if_neg h]; exact me_err
      · exact me_err
    · exact me_err
  | _ => simp only [dE]; exact me_err
end
theorem snd (C : Ctx) : ∀ n, Snd C n
  | 0 => snd0 C
  | n + 1 =>
    have ih := snd C n
    { e := snd_e ih, call := snd_call ih, ls := snd_ls ih, ll := snd_ll ih, f := snd_f ih, dc := snd_dc ih, ifs := snd_ifs ih, i := snd_i ih, a := snd_a ih, ps := snd_ps ih, o := snd_o ih, t := snd_t ih, w := snd_w ih, bo := snd_bo ih, g := snd_g ih, gs := snd_gs ih }
end Y

set_option Elab.async false
set_option linter.all false
set_option maxRecDepth 100000
set_option maxHeartbeats 4000000
/-! Y14: statements are right; defs; the closed interpreter. -/
namespace Y
open PySem L2

section
variable {C : Ctx} {S : Sx} {X : Cx} {W : WX}
theorem ms_setErr {st : Stmt} {i : Nat} {m : EM D} (h : ∀ E s, m E s = .err) : MS X W st (sSet i m) := ⟨fun _ _ _ _ _ _ z => by
  obtain ⟨ρ, E, s, _, _, z⟩ := z
  unfold sSet exprS at z
  rw [h E s] at z
  exact z.elim⟩
theorem ms_setName (ok : OkX C S X) (tk : Takes X W) {x : Str} {i : Nat} {py pos : Pos} (e : Expr) (hl : locB S x = true) (hi : slotN S.N x = some i) (n : Nat) : MS X W (.Assign [.Name x py] e pos) (sSet i (dE C S n e)) := by
  obtain ⟨l1, l2⟩ := locB_ok hl
  have hN : X.N.Nodup := by rw [ok.hN]; exact ok.nd
  have hix : X.N[i]? = some x := by rw [ok.hN]; exact slotN_ok hi
  have hx : Loc X.env.scope x := by rw [ok.hsc]; exact l1
  have hf : X.fn x = true ∨ X.env.scope.names.lookup x = some .local := by rw [ok.hsc, ok.hfn]; exact l2
  have plain : swapsWith e (some (.Name x py)) pos.line X.env = pure false → MS X W (.Assign [.Name x py] e pos) (sSet i (dE C S n e)) := fun hs => ms_set hN hix hx ((snd C n).e ok tk e) hs hf
  cases hc : isComp e with
  | false => exact plain (swaps_no hc)
  | true =>
    cases e with
    | ListComp elt gs scope p =>
      have sw : swapsWith (.ListComp elt gs scope p) (some (.Name x py)) pos.line X.env = pure (X.env.blockKind == .function && X.env.kindOf x == some .local && py.line == p.line && !(scope.names.any fun (n, k) => n == x && (k == .local || k == .cell))) := rfl
      cases hb : (X.env.blockKind == .function && X.env.kindOf x == some .local && py.line == p.line && !(scope.names.any fun (n, k) => n == x && (k == .local || k == .cell))) with
      | false => rw [hb] at sw; exact plain sw
      | true =>
        rw [hb] at sw
        have hyl : X.env.scope.names.lookup x = some .local := by
          simp only [Bool.and_eq_true] at hb
          exact beq_iff_eq.mp hb.1.1.2
        cases n with
        | zero => exact ms_setErr fun _ _ => by simp only [dE]; rfl
        | succ n =>
          simp only [dE]
          by_cases hz : frK C S (.ListComp elt gs scope p) = 0
          · rw [if_pos hz]; exact ms_setErr fun _ _ => rfl
          · rw [if_neg hz]
            cases n with
            | zero => exact ms_setErr fun _ _ => by simp only [dF]; rfl
            | succ n =>
              simp only [dF]
              split
              · rename_i tg iter ifs
                split
                · rename_i hh
                  obtain ⟨h1, h2, h3⟩ := hh
                  have ih := snd C n
                  obtain ⟨tt, pt, imp⟩ := ih.ifs (S := S.blk scope) (wd X) ifs
                  have hbk : BlkOk X.N X.env.scope scope (ownOf S scope) := by rw [ok.hN, ok.hsc]; exact blkOk_by h1
                  exact ms_setLc ok.calm hN hix hyl sw (ih.i ok tk tg iter) hbk
                    ⟨fun s H Cc cl fp => ih.g (ok.blk (blkC_kind h1) s H Cc cl fp) tg, fun s H Cc cl fp => pt _ (ok.blk (blkC_kind h1) s H Cc cl fp) rfl, imp⟩
                    (fun s H Cc cl fp => ih.e (ok.blk (blkC_kind h1) s H Cc cl fp) takes0 elt) (fun i hi => List.contains_iff_mem.mp (List.all_eq_true.mp h3 i hi)) (folded_ok h2)
                · exact ms_setErr fun _ _ => rfl
              · exact ms_setErr fun _ _ => rfl
    | SetComp _ _ _ _ =>
      refine ms_setErr fun _ _ => ?_
      cases n <;> (simp only [dE]; rfl)
    | DictComp kx vx gs scope p =>
      have sw : swapsWith (.DictComp kx vx gs scope p) (some (.Name x py)) pos.line X.env = pure (X.env.blockKind == .function && X.env.kindOf x == some .local && py.line == p.line && !(scope.names.any fun (n, k) => n == x && (k == .local || k == .cell))) := rfl
      cases hb : (X.env.blockKind == .function && X.env.kindOf x == some .local && py.line == p.line && !(scope.names.any fun (n, k) => n == x && (k == .local || k == .cell))) with
      | false => rw [hb] at sw; exact plain sw
      | true =>
        rw [hb] at sw
        have hyl : X.env.scope.names.lookup x = some .local := by
          simp only [Bool.and_eq_true] at hb
          exact beq_iff_eq.mp hb.1.1.2
        cases n with
        | zero => exact ms_setErr fun _ _ => by simp only [dE]; rfl
        | succ n =>
          simp only [dE]
          split
          · rename_i tg iter ifs
            cases n with
            | zero => exact ms_setErr fun _ _ => by simp only [dDc]; rfl
            | succ n =>
              simp only [dDc]
              split
              · rename_i hh
                obtain ⟨h1, h2, h3⟩ := hh
                have ih := snd C n
                obtain ⟨tt, pt, imp⟩ := ih.ifs (S := S.blk scope) (wd X) ifs
                have hbk : BlkOk X.N X.env.scope scope (ownOf S scope) := by rw [ok.hN, ok.hsc]; exact blkOk_by h1
                exact ms_setDc ok.calm hN hix hyl sw (ih.i ok tk tg iter) hbk
                  ⟨fun s H Cc cl fp => ih.g (ok.blk (blkC_kind h1) s H Cc cl fp) tg, fun s H Cc cl fp => pt _ (ok.blk (blkC_kind h1) s H Cc cl fp) rfl, imp⟩
                  (fun s H Cc cl fp => ih.e (ok.blk (blkC_kind h1) s H Cc cl fp) takes0 kx) (fun s H Cc cl fp => ih.e (ok.blk (blkC_kind h1) s H Cc cl fp) takes0 vx) (fun i hi => List.contains_iff_mem.mp (List.all_eq_true.mp h3 i hi)) (folded_ok h2)
              · exact ms_setErr fun _ _ => rfl
          · exact ms_setErr fun _ _ => rfl
    | _ => cases hc
structure SndS (C : Ctx) (n : Nat) : Prop where
  s : ∀ {S X W}, OkX C S X → Takes X W → PassesOwn (model X.prog X.w) X.A X.env X.xe → ∀ st, MS X W st (dS C S n st)
  b : ∀ {S X W}, OkX C S X → Takes X W → PassesOwn (model X.prog X.w) X.A X.env X.xe → ∀ sts, MB X W sts (dB C S n sts)
theorem sndS_s {n : Nat} (ih : SndS C n) (ok : OkX C S X) (tk : Takes X W) (po : PassesOwn (model X.prog X.w) X.A X.env X.xe) (st : Stmt) : MS X W st (dS C S (n + 1) st) := by
  have E := snd C n
  have hN : X.N.Nodup := by rw [ok.hN]; exact ok.nd
  cases st with
  | Pass p => simp only [dS]; exact ms_pass
  | Break p => simp only [dS]; exact ms_break
  | Continue p => simp only [dS]; exact ms_cont
  | Return e p =>
    cases e with
    | none => simp only [dS]; exact ms_retN
    | some e => simp only [dS]; exact ms_ret (E.e ok tk e)
  | Expr e p =>
    simp only [dS]
    by_cases h : isComp e = false
    · rw [if_pos h]; exact ms_expr (E.e ok tk e) (swaps_no h)
    · rw [if_neg h]; exact ms_err
  | If c a b p => simp only [dS]; exact ms_if (E.t ok tk c) (ih.b ok tk po a) (ih.b ok tk po b)
  | While c b els p =>
    simp only [dS]
    split
    · exact ms_while po (E.t ok tk c) (ih.b ok tk po b)
    · exact ms_err
  | For tg iter b els p =>
    simp only [dS]
    split
    · by_cases h : isSet iter = false
      · rw [if_pos h]; exact ms_for po ok.calm (E.i ok tk tg iter) (E.g ok tg) (ih.b ok tk po b) (folded_ok h)
      · rw [if_neg h]; exact ms_err
    · exact ms_err
  | Assign tgs e p =>
    simp only [dS]
    split
    · rename_i x py
      by_cases h : locB S x = true
      · rw [if_pos h]
        cases hi : slotN S.N x with
        | none => exact ms_err
        | some i => exact ms_setName ok tk e h hi n
      · rw [if_neg h]; exact ms_err
    · rename_i tg hn
      by_cases h : isStar tg = false ∧ isTupE e = false
      · rw [if_pos h]
        have hnn : isNameE tg = false := by
          cases tg <;> first | rfl | exact (hn _ _ rfl).elim
        refine ms_asg (E.e ok tk e) (E.g ok tg) ?_ (swapped_no h.2) ?_
        · show swapsWith e (some tg) p.line X.env = pure false
          exact swaps_tg hnn
        · have := assign_no (env := X.env) (es := [tg]) (by unfold noStar; simp [h.1])
          exact this.2.2
      · rw [if_neg h]; exact ms_err
    · exact ms_err
  | AugAssign tg op e p =>
    simp only [dS]
    split
    · rename_i x py
      by_cases h : locB S x = true
      · rw [if_pos h]
        obtain ⟨l1, l2⟩ := locB_ok h
        cases hi : slotN S.N x with
        | none => exact ms_err
        | some i => exact ms_aug hN (by rw [ok.hN]; exact slotN_ok hi) (by rw [ok.hsc]; exact l1) (E.e ok tk e) (by rw [ok.hsc, ok.hfn]; exact l2)
      · rw [if_neg h]; exact ms_err
    · exact ms_err
  | _ => simp only [dS]; exact ms_err
theorem sndS_b {n : Nat} (ih : SndS C n) (ok : OkX C S X) (tk : Takes X W) (po : PassesOwn (model X.prog X.w) X.A X.env X.xe) (sts : List Stmt) : MB X W sts (dB C S (n + 1) sts) := by
  cases sts with
  | nil => simp only [dB]; exact mb_nil
  | cons st sts => simp only [dB]; exact mb_cons (ih.s ok tk po st) (ih.b ok tk po sts)
theorem sndS (C : Ctx) : ∀ n, SndS C n
  | 0 => ⟨fun _ _ _ _ => by simp only [dS]; exact ms_err, fun _ _ _ _ => by simp only [dB]; exact mb_err⟩
  | n + 1 => ⟨fun ok tk po => sndS_s (sndS C n) ok tk po, fun ok tk po => sndS_b (sndS C n) ok tk po⟩
end

/-! ### what a call leaves behind is let go -/
mutual
def D.beq : D → D → Bool
  | .non, .non => true
  | .bl a, .bl b => a == b
  | .int a, .int b => a == b
  | .str a, .str b => decide (a = b)
  | .tup a, .tup b => D.beqL a b
  | .ro a, .ro b => D.beqL a b
  | .loc a, .loc b => a == b
  | .gl a, .gl b => decide (a = b)
  | .ty a, .ty b => a == b
  | _, _ => false
def D.beqL : List D → List D → Bool
  | [], [] => true
  | a :: as, b :: bs => D.beq a b && D.beqL as bs
  | _, _ => false
end
mutual
theorem D.beq_refl : ∀ d : D, D.beq d d = true
  | .non => by simp [D.beq]
  | .bl a => by simp [D.beq]
  | .int a => by simp [D.beq]
  | .str a => by simp [D.beq]
  | .tup a => by simp only [D.beq]; exact D.beqL_refl a
  | .ro a => by simp only [D.beq]; exact D.beqL_refl a
  | .loc a => by simp [D.beq]
  | .gl a => by simp [D.beq]
  | .ty a => by simp [D.beq]
theorem D.beqL_refl : ∀ ds : List D, D.beqL ds ds = true
  | [] => by simp [D.beqL]
  | a :: as => by simp only [D.beqL, D.beq_refl a, D.beqL_refl as]; rfl
end
mutual
theorem D.beq_eq : ∀ (a b : D), D.beq a b = true → a = b
  | .non, b, h => by cases b <;> simp [D.beq] at h <;> rfl
  | .bl a, b, h => by cases b <;> simp [D.beq] at h; rw [h]
  | .int a, b, h => by cases b <;> simp [D.beq] at h; rw [h]
  | .str a, b, h => by cases b <;> simp [D.beq] at h; rw [h]
  | .tup a, b, h => by
    cases b with
    | tup b => simp only [D.beq] at h; rw [D.beqL_eq a b h]
    | _ => simp [D.beq] at h
  | .ro a, b, h => by
    cases b with
    | ro b => simp only [D.beq] at h; rw [D.beqL_eq a b h]
    | _ => simp [D.beq] at h
  | .loc a, b, h => by cases b <;> simp [D.beq] at h; rw [h]
  | .gl a, b, h => by cases b <;> simp [D.beq] at h; rw [h]
  | .ty a, b, h => by cases b <;> simp [D.beq] at h; rw [h]
theorem D.beqL_eq : ∀ (a b : List D), D.beqL a b = true → a = b
  | [], b, h => by cases b <;> simp [D.beqL] at h <;> rfl
  | a :: as, b, h => by
    cases b with
    | nil => simp [D.beqL] at h
    | cons b bs =>
      simp only [D.beqL, Bool.and_eq_true] at h
      rw [D.beq_eq a b h.1, D.beqL_eq as bs h.2]
end
def beqA {κ : Type} [DecidableEq κ] : List (κ × D) → List (κ × D) → Bool
  | [], [] => true
  | (k, a) :: as, (j, b) :: bs => decide (k = j) && D.beq a b && beqA as bs
  | _, _ => false
theorem beqA_refl {κ : Type} [DecidableEq κ] : ∀ as : List (κ × D), beqA as as = true
  | [] => rfl
  | (k, a) :: as => by simp only [beqA, D.beq_refl, beqA_refl as, decide_true]; rfl
theorem beqA_eq {κ : Type} [DecidableEq κ] : ∀ (a b : List (κ × D)), beqA a b = true → a = b
  | [], b, h => by cases b <;> simp [beqA] at h <;> rfl
  | (k, a) :: as, b, h => by
    cases b with
    | nil => simp [beqA] at h
    | cons q bs =>
      obtain ⟨j, b⟩ := q
      simp only [beqA, Bool.and_eq_true, decide_eq_true_eq] at h
      rw [h.1.1, D.beq_eq a b h.1.2, beqA_eq as bs h.2]
def O.beq : O → O → Bool
  | .lst a, .lst b => D.beqL a b
  | .dic a, .dic b => beqA a b
  | .ins c a, .ins e b => decide (c = e) && beqA a b
  | _, _ => false
theorem O.beq_refl (o : O) : O.beq o o = true := by
  cases o with
  | lst a => exact D.beqL_refl a
  | dic a => exact beqA_refl a
  | ins c a => simp [O.beq, beqA_refl]
theorem O.beq_eq {a b : O} (h : O.beq a b = true) : a = b := by
  cases a with
  | lst a => cases b <;> simp [O.beq] at h; rw [D.beqL_eq _ _ h]
  | dic a => cases b <;> simp [O.beq] at h; rw [beqA_eq _ _ h]
  | ins c a => cases b <;> simp [O.beq] at h; rw [h.1, beqA_eq _ _ h.2]
mutual
def D.cl (n : Nat) : D → Bool
  | .tup a => D.clL n a
  | .ro a => D.clL n a
  | .loc k => decide (k < n)
  | _ => true
def D.clL (n : Nat) : List D → Bool
  | [] => true
  | a :: as => D.cl n a && D.clL n as
end
def clA {κ : Type} (n : Nat) : List (κ × D) → Bool
  | [] => true
  | (_, a) :: as => D.cl n a && clA n as
def O.cl (n : Nat) : O → Bool
  | .lst a => D.clL n a
  | .dic a => clA n a
  | .ins _ a => clA n a
section
variable {w : Wd} {ρ ρ' : Nat → Addr} {n n' : Nat} {H H' : Hp}
mutual
theorem Rp.cl : ∀ {v : V} (d : D), Rp w ρ n H v d → D.cl n d = true
  | v, .non, h => by simp [D.cl]
  | v, .bl _, h => by simp [D.cl]
  | v, .int _, h => by simp [D.cl]
  | v, .str _, h => by simp [D.cl]
  | v, .tup xs, h => by obtain ⟨a, vs, _, _, r⟩ := h.tup_; simp only [D.cl]; exact RpL.cl xs r
  | v, .ro xs, h => by obtain ⟨a, vs, _, _, r⟩ := h.ro_; simp only [D.cl]; exact RpL.cl xs r
  | v, .loc k, h => by simp only [D.cl]; exact decide_eq_true h.loc_.1
  | v, .gl _, h => by simp [D.cl]
  | v, .ty _, h => by simp [D.cl]
theorem RpL.cl : ∀ {vs : List V} (ds : List D), RpL w ρ n H vs ds → D.clL n ds = true
  | vs, [], h => by simp [D.clL]
  | vs, d :: ds, h => by
    obtain ⟨v, r, rfl, h1, h2⟩ := h.inv
    simp only [D.clL, Rp.cl d h1, RpL.cl ds h2]; rfl
end
theorem RpA.cl {κ : Type} : ∀ {vs : List (κ × V)} (ds : List (κ × D)), RpA w ρ n H vs ds → clA n ds = true
  | vs, [], h => rfl
  | vs, (k, d) :: ds, h => by
    obtain ⟨v, r, rfl, h1, h2⟩ := h.inv
    simp only [clA, Rp.cl d h1, RpA.cl ds h2]; rfl
theorem RO.cl {ho : HO} {o : O} (h : RO w ρ n H ho o) : O.cl n o = true := by
  cases o with
  | lst xs => obtain ⟨vs, _, r⟩ := h; exact RpL.cl _ r
  | dic kvs => obtain ⟨vs, _, r⟩ := h; exact RpA.cl _ r
  | ins c fs => obtain ⟨Cc, dx, vs, _, _, r⟩ := h; exact RpA.cl _ r
mutual
theorem Rp.down : ∀ {v : V} (d : D), D.cl n d = true → Rp w ρ n' H v d → Rp w ρ n H v d
  | v, .non, _, h => by unfold Rp at h ⊢; exact h
  | v, .bl _, _, h => by unfold Rp at h ⊢; exact h
  | v, .int _, _, h => by unfold Rp at h ⊢; exact h
  | v, .str _, _, h => by unfold Rp at h ⊢; exact h
  | v, .tup xs, c, h => by
    obtain ⟨a, vs, e, q, r⟩ := h.tup_
    simp only [D.cl] at c
    unfold Rp
    exact ⟨a, vs, e, q, RpL.down xs c r⟩
  | v, .ro xs, c, h => by
    obtain ⟨a, vs, e, q, r⟩ := h.ro_
    simp only [D.cl] at c
    unfold Rp
    exact ⟨a, vs, e, q, RpL.down xs c r⟩
  | v, .loc k, c, h => by
    simp only [D.cl, decide_eq_true_eq] at c
    unfold Rp
    exact ⟨c, h.loc_.2⟩
  | v, .gl _, _, h => by unfold Rp at h ⊢; exact h
  | v, .ty _, _, h => by unfold Rp at h ⊢; exact h
theorem RpL.down : ∀ {vs : List V} (ds : List D), D.clL n ds = true → RpL w ρ n' H vs ds → RpL w ρ n H vs ds
  | vs, [], _, h => by unfold RpL at h ⊢; exact h
  | vs, d :: ds, c, h => by
    simp only [D.clL, Bool.and_eq_true] at c
    obtain ⟨v, r, rfl, h1, h2⟩ := h.inv
    exact RpL.cons (Rp.down d c.1 h1) (RpL.down ds c.2 h2)
end
theorem RpA.down {κ : Type} : ∀ {vs : List (κ × V)} (ds : List (κ × D)), clA n ds = true → RpA w ρ n' H vs ds → RpA w ρ n H vs ds
  | vs, [], _, h => by rw [h.inv0]; exact RpA.nil
  | vs, (k, d) :: ds, c, h => by
    simp only [clA, Bool.and_eq_true] at c
    obtain ⟨v, r, rfl, h1, h2⟩ := h.inv
    exact RpA.cons (Rp.down d c.1 h1) (RpA.down ds c.2 h2)
theorem RO.down {ho : HO} {o : O} (c : O.cl n o = true) (h : RO w ρ n' H ho o) : RO w ρ n H ho o := by
  cases o with
  | lst xs => obtain ⟨vs, e, r⟩ := h; exact ⟨vs, e, RpL.down _ c r⟩
  | dic kvs => obtain ⟨vs, e, r⟩ := h; exact ⟨vs, e, RpA.down _ c r⟩
  | ins cc fs => obtain ⟨Cc, dx, vs, m, e, r⟩ := h; exact ⟨Cc, dx, vs, m, e, RpA.down _ c r⟩
end
/-- the objects that stood are as they were, or speak of what stood alone -/
def keepB (n : Nat) : Sto → Sto → Bool
  | [], _ => true
  | _ :: _, [] => false
  | a :: as, b :: bs => (O.beq b a || O.cl n b) && keepB n as bs
theorem keepB_at {n : Nat} : ∀ {s s' : Sto}, keepB n s s' = true → ∀ (i : Nat) (o : O), i < s.length → s'[i]? = some o → (s[i]? = some o ∨ O.cl n o = true)
  | [], _, _, i, o, hi, _ => absurd hi (by simp)
  | _ :: _, [], h, _, _, _, _ => by cases h
  | a :: as, b :: bs, h, i, o, hi, e => by
    simp only [keepB, Bool.and_eq_true, Bool.or_eq_true] at h
    cases i with
    | zero =>
      simp at e; subst e
      rcases h.1 with z | z
      · left; simp [O.beq_eq z]
      · exact .inr z
    | succ i => exact keepB_at h.2 i o (by simpa using hi) (by simpa using e)
def gc (s : Sto) (r : Res D) : Res D := match r with
  | .ok d s' => if (D.cl s.length d && keepB s.length s s') = true then .ok d (s'.take s.length) else .ok d s'
  | r => r
theorem gc_ok {w : Wd} {W : XK} {ρ : Nat → Addr} {H : Hp} {s : Sto} {r : Res D} {Q : VK} (hs : RS w ρ H s) (h : RQ w (Rp w) W ρ s.length H (gc s r) Q) : RQ w (Rp w) W ρ s.length H r Q := by
  cases r with
  | exc x s' => exact h
  | err => exact h
  | ok d s' =>
    unfold gc at h
    simp only at h
    split at h
    · rename_i hc
      rw [Bool.and_eq_true] at hc
      intro ρ' H' v L hs' hr
      have hl : (s'.take s.length).length = s.length := by rw [List.length_take]; have := L.le; omega
      refine h ρ' H' v ?_ ⟨fun k o e => ?_, fun i j hi hj e => hs'.inj i j (by have := L.le; omega) (by have := L.le; omega) e⟩ (by rw [hl]; exact Rp.down d hc.1 hr)
      · rw [hl]
        exact ⟨Nat.le_refl _, L.agree, L.keep, L.froz, L.dom, fun k h1 h2 => absurd (Nat.lt_of_lt_of_le h2 h1) (Nat.lt_irrefl _)⟩
      · have hk : k < s.length := by have := (List.getElem?_eq_some_iff.mp e).1; omega
        rw [List.getElem?_take_of_lt hk] at e
        obtain ⟨ho, h1, ro⟩ := hs'.obj k o e
        rw [hl]
        refine ⟨ho, h1, RO.down ?_ ro⟩
        rcases keepB_at hc.2 k o hk e with z | z
        · obtain ⟨ho0, _, ro0⟩ := hs.obj k o z
          exact ro0.cl
        · exact z
    · exact h
theorem keepB_same {n : Nat} : ∀ (s t : Sto), keepB n s (s ++ t) = true
  | [], _ => rfl
  | a :: as, t => by
    show ((O.beq a a || O.cl n a) && keepB n as (as ++ t)) = true
    rw [O.beq_refl, keepB_same as t]; rfl
theorem gc_same {s t : Sto} {d : D} (hd : D.cl s.length d = true) : gc s (.ok d (s ++ t)) = .ok d s := by
  unfold gc
  simp only [hd, keepB_same, Bool.and_self, if_true, List.take_left]
theorem gc_self {s : Sto} {d : D} (hd : D.cl s.length d = true) : gc s (.ok d s) = .ok d s := by
  have := gc_same (s := s) (t := []) hd
  rw [List.append_nil] at this
  exact this
theorem keepB_set {n : Nat} {o : O} (ho : O.cl n o = true) : ∀ (s t : Sto) (k : Nat), keepB n s (s.set k o ++ t) = true
  | [], _, _ => rfl
  | a :: as, t, 0 => by
    show ((O.beq o a || O.cl n o) && keepB n as (as ++ t)) = true
    rw [ho, keepB_same as t, Bool.or_true]; rfl
  | a :: as, t, k + 1 => by
    show ((O.beq a a || O.cl n a) && keepB n as (as.set k o ++ t)) = true
    rw [O.beq_refl, keepB_set ho as t k]; rfl
theorem gc_set {s t : Sto} {d : D} {k : Nat} {o : O} (hd : D.cl s.length d = true) (ho : O.cl s.length o = true) : gc s (.ok d (s.set k o ++ t)) = .ok d (s.set k o) := by
  have hl : s.length = (s.set k o).length := by rw [List.length_set]
  unfold gc
  simp only [hd, keepB_set ho, Bool.and_self, if_true]
  rw [hl, List.take_left]

/-! ### defs -/
structure Df where
  ps : List Str
  N : List Str
  st : Stmt
def Df.sx (d : Df) : Sx := ⟨d.N, defScope d.st, fun _ => true⟩
def startE (N : List Str) (ds : List D) : Ev := ds.map some ++ List.replicate (N.length - ds.length) none
def resS (r : SR) : Res D := match r with
  | .nx _ s => .ok .non s
  | .rt d s => .ok d s
  | .exc x _ s => .exc x s
  | _ => .err
def fuelD : Nat := 200
def runB (C : Ctx) (d : Df) (args : List D) (s : Sto) : Res D := resS (dB C d.sx fuelD (defBody d.st) (startE d.N args) s)
structure Pg where
  blt : Str → Bool
  cst : Str → Option D
  defs : Str → Option Df
def callP (T : Pg) : Nat → Str → List D → Sto → Res D
  | 0, _, _, _ => .err
  | k + 1, x, args, s => match T.defs x with
    | some d => gc s (runB ⟨T.blt, T.cst, fun y => (T.defs y).map fun e => (e.ps.length, callP T k y)⟩ d args s)
    | none => .err
def Pg.ctx (T : Pg) (k : Nat) : Ctx := ⟨T.blt, T.cst, fun y => (T.defs y).map fun e => (e.ps.length, callP T k y)⟩
theorem callP_succ {T : Pg} {k : Nat} {x : Str} {d : Df} {args : List D} {s : Sto} (h : T.defs x = some d) : callP T (k + 1) x args s = gc s (runB (T.ctx k) d args s) := by
  simp only [callP, h]; rfl
structure PgOk (T : Pg) (K : PySem.W.Frag) (mg : Str → Option Value) : Prop where
  blt : ∀ x, T.blt x = true → mg x = none
  cst : ∀ x d, T.cst x = some d → ∃ u v, mg x = some u ∧ RelV v u ∧ ∀ ρ n H, Rp ⟨K, mg⟩ ρ n H v d
  df : ∀ x d, T.defs x = some d → ∃ f fd, mg x = some (.ref f) ∧ Fun K x x d.st f fd ∧ Binds K fd d.ps [] ∧ FnScope d.N d.ps (defScope d.st)
section
variable {P : Program} {wo : World} {K : PySem.W.Frag} {mg : Str → Option Value} {base : Heap} {T : Pg}
theorem RE.start {w : Wd} {ρ : Nat → Addr} {n : Nat} {H : Hp} {N : List Str} {vs : List V} {ds : List D} (r : RpL w ρ n H vs ds) : RE w ρ n H (L2.start N vs) (startE N ds) := by
  have hl := RpL.length r
  refine ⟨by unfold L2.start startE; simp [hl], fun i d e => ?_⟩
  unfold startE at e
  by_cases hi : i < ds.length
  · rw [List.getElem?_append_left (by simpa using hi), List.getElem?_map] at e
    cases z : ds[i]? with
    | none => rw [z] at e; cases e
    | some d' =>
      rw [z] at e; cases e
      obtain ⟨v, e1, rv⟩ := r.get z
      refine ⟨v, ?_, rv⟩
      unfold L2.start
      rw [List.getElem?_append_left (by rw [List.length_map, hl]; exact hi), List.getElem?_map, e1]
      rfl
  · rw [List.getElem?_append_right (by simpa using hi), List.getElem?_replicate] at e
    split at e <;> cases e
theorem fn_okF (G : PgOk T K mg) : ∀ k x d, T.defs x = some d → ∀ {f : Addr} {fd : FuncData}, Fun K x x d.st f fd → FnScope d.N d.ps (defScope d.st) → FnOk P wo K mg base (L2.CX P wo) k f fd d.ps (spM ⟨K, mg⟩ d.ps.length (callP T k x))
  | 0, x, d, h, f, fd, F, S => by
    refine ⟨fun vs H Q E z => ?_, fun A outer s H args us vs Q E _ _ _ _ z => ?_⟩
    · obtain ⟨ρ, st, ds, _, r, hl, _⟩ := z
      rw [RpL.length r, hl]
    · obtain ⟨ρ, st, ds, _, r, hl, z⟩ := z
      simp only [callP] at z
      exact z.elim
  | k + 1, x, d, h, f, fd, F, S => by
    refine F.okX S (fun vs H Q E z => ?_) (fun cdv A outer s H vs Q E hr hsp => ?_)
    · obtain ⟨ρ, st, ds, _, r, hl, _⟩ := z
      rw [RpL.length r, hl]
    · obtain ⟨ρ, st, ds, hs, r, hl, z⟩ := hsp
      rw [callP_succ h] at z
      have z := gc_ok hs z
      have ok : OkX (T.ctx k) d.sx (cxOf (L2.CX P wo) P wo K mg base d.N x (defScope d.st) f cdv A outer s H E) :=
        { hN := rfl, hsc := rfl, hfn := rfl, calm := rfl, nd := S.nd, room := hr.mono (Nat.zero_le k), blt := G.blt, cst := G.cst, kind := S.kind,
          fns := fun y m Fy hy => by
            simp only [Pg.ctx] at hy
            cases e : T.defs y with
            | none => rw [e] at hy; cases hy
            | some d' =>
              rw [e] at hy
              cases hy
              obtain ⟨f', fd', hm', F', b', S'⟩ := G.df y d' e
              exact ⟨k, f', fd', d'.ps, hm', F'.kp, b', rfl, hr, fn_okF G k y d' e F' S'⟩ }
      have tk : Takes (cxOf (L2.CX P wo) P wo K mg base d.N x (defScope d.st) f cdv A outer s H E) (fun cls dd _ H' => E cls dd H') := takes_of rfl rfl rfl rfl
      refine ⟨_, (sndS (T.ctx k) fuelD).b ok tk (passes_of rfl) (defBody d.st), ρ, startE d.N ds, st, hs, RE.start r, ?_⟩
      unfold runB at z
      cases q : dB (T.ctx k) d.sx fuelD (defBody d.st) (startE d.N ds) st with
      | nx E' s' => rw [q] at z; exact fun ρ' σ' H' L a _ => z ρ' H' .non L a Rp.non
      | rt d' s' => rw [q] at z; exact z
      | bk E' s' => rw [q] at z; exact z.elim
      | ct E' s' => rw [q] at z; exact z.elim
      | exc y E' s' => rw [q] at z; exact fun ρ' σ' H' c L a _ e => z ρ' H' c L a e
      | err => rw [q] at z; exact z.elim
/-- what law(script) promises -/
def spLaw (K : PySem.W.Frag) : Sp := fun vs H Q _ => ∃ (a : Addr) (ns : List Int), vs = [.ref a] ∧ SqR K H a (ns.map V.int) ∧ ns.length ≤ 63 ∧ (∀ z ∈ ns, Builtin.Int.intBits z ≤ 1048576) ∧ ∀ H', Q (.bl true) H'
theorem law_ok (G : PgOk T K mg) {k : Nat} {d : Df} (h : T.defs "law" = some d) (hp : d.ps = (["script"] : List Str)) {f : Addr} {fd : FuncData} (F : Fun K "law" "law" d.st f fd) (S : FnScope d.N d.ps (defScope d.st))
    (hl : ∀ ns : List Int, ns.length ≤ 63 → (∀ z ∈ ns, Builtin.Int.intBits z ≤ 1048576) → ∃ s, callP T k "law" [.ro (ns.map D.int)] [] = .ok (.bl true) s) :
    FnOk P wo K mg base (L2.CX P wo) k f fd (["script"] : List Str) (spLaw K) := by
  have FO := fn_okF (P := P) (wo := wo) (base := base) G k "law" d h F S
  rw [hp] at FO
  refine FO.imp ?_
  rintro vs H Q E ⟨a, ns, rfl, sq, h63, hb, q⟩
  obtain ⟨s, e⟩ := hl ns h63 hb
  refine ⟨fun _ => 0, [], [.ro (ns.map D.int)], ⟨fun k o z => by simp at z, fun i j hi => absurd hi (by simp)⟩, RpL.one ?_, rfl, ?_⟩
  · unfold Rp; exact ⟨a, _, rfl, sq, RpL.ints ns⟩
  · rw [e]
    intro ρ' H' v _ _ r
    rw [r.bl_]
    exact q H'
end
/-- a def of the program, as the top has left it -/
def DOk (K : PySem.W.Frag) (mg : Str → Option Value) (x : Str) (d : Df) : Prop := ∃ f fd, mg x = some (.ref f) ∧ Fun K x x d.st f fd ∧ Binds K fd d.ps [] ∧ FnScope d.N d.ps (defScope d.st)
def COk (K : PySem.W.Frag) (mg : Str → Option Value) (x : Str) (d : D) : Prop := ∃ u v, mg x = some u ∧ RelV v u ∧ ∀ ρ n H, Rp ⟨K, mg⟩ ρ n H v d
theorem lookup_mem {β : Type} : ∀ {l : List (Str × β)} {x : Str} {b : β}, List.lookup x l = some b → (x, b) ∈ l
  | [], _, _, h => by cases h
  | (y, c) :: l, x, b, h => by
    rw [List.lookup_cons] at h
    split at h
    · rename_i e; cases h; rw [beq_iff_eq.mp e]; exact List.mem_cons_self
    · exact List.mem_cons_of_mem _ (lookup_mem h)
theorem pg_mk {K : PySem.W.Frag} {mg : Str → Option Value} {bls : List Str} {csts : List (Str × D)} {tbl : List (Str × Df)} (hb : ∀ x ∈ bls, mg x = none) (hc : ∀ p ∈ csts, COk K mg p.1 p.2) (hd : ∀ p ∈ tbl, DOk K mg p.1 p.2) :
    PgOk ⟨fun x => bls.contains x, fun x => List.lookup x csts, fun x => List.lookup x tbl⟩ K mg :=
  ⟨fun x h => hb x (List.contains_iff_mem.mp h), fun x d h => hc _ (lookup_mem h), fun x d h => hd _ (lookup_mem h)⟩
theorem walkY {l : PySem.W.OpenLaw} {q : Program} {loose : List Str} {XP : (Str → Option Value) → Heap → Prop} {YP : World → Heap → Prop} {d : DefRec} {K : Params → PySem.W.Frag} {T : Pg} {k : Nat} {dl : Df} (hk : Room k callerA)
    (hn : l.most = some 63) (hdf : d.params.defaults = []) (hY : ∀ (w : World) (h : Heap), YP w h → (K w.params).In h)
    (hT : T.defs "law" = some dl) (hp : dl.ps = (["script"] : List Str))
    (hl : ∀ ns : List Int, ns.length ≤ 63 → (∀ z ∈ ns, Builtin.Int.intBits z ≤ 1048576) → ∃ s, callP T k "law" [.ro (ns.map D.int)] [] = .ok (.bl true) s)
    (F : ∀ (w : World) (mg : Str → Option Value) (fa : Addr) (h : Heap), (K w.params).In h → h.Ns mainGlobals mg → mg d.name = some (.ref fa) →
      ∃ fd : FuncData, (∀ (s : Shared) (u : Value), BindsTo s fd ⟨[u], []⟩ [("script", u)]) ∧ PgOk T (K w.params) mg ∧ Fun (K w.params) "law" "law" dl.st fa fd ∧ FnScope dl.N dl.ps (defScope dl.st)) :
    PySem.W.WalkO q loose XP YP l.row.toRowW d [] (fun f vs => PySem.call f vs) :=
  L2.walk_ofB (n := 63) (k := k) (x := "script") (CX := fun w => L2.CX l.prog w) (sp := fun w => spLaw (K w.params)) hn (by decide) hdf hk hY
    (fun w mg fa h KX N hm => by
      obtain ⟨fd, hb, G, F1, S⟩ := F w mg fa h KX N hm
      exact ⟨fd, hb, fun base _ _ => law_ok G hT hp F1 S hl⟩)
    (fun w H a ns h1 h2 hO hS => ⟨a, ns, rfl, by
      rcases hS with (hS | ⟨o, hS⟩) | hS
      · rcases hO a with z | ⟨o, xs, z⟩
        · rw [z] at hS; cases hS
        · rw [z] at hS; cases hS
      · exact .inl ⟨o, hS⟩
      · exact .inr hS, h1, h2, fun _ => rfl⟩)
    fun w H s e s' z => by
      unfold L2.CX at z
      obtain ⟨_, _, _, _, _, _, _, _, _, _, _, _, z⟩ := z
      exact z
end Y

set_option Elab.async false
set_option linter.all false
set_option maxRecDepth 100000
set_option maxHeartbeats 4000000
/-! Y15: constants of the top. -/
namespace Y
open PySem L2
section
variable {K : PySem.W.Frag} {mg : Str → Option Value}
/-- a value of the written part -/
def VOk (K : PySem.W.Frag) (mg : Str → Option Value) (u : Value) (d : D) : Prop := ∃ v, RelV v u ∧ ∀ ρ n H, Rp ⟨K, mg⟩ ρ n H v d
def VsOk (K : PySem.W.Frag) (mg : Str → Option Value) : List Value → List D → Prop
  | [], [] => True
  | u :: us, d :: ds => VOk K mg u d ∧ VsOk K mg us ds
  | _, _ => False
theorem vok_non : VOk K mg .none .non := ⟨.non, rfl, fun _ _ _ => Rp.non⟩
theorem vok_bl {b : Bool} : VOk K mg (.bool b) (.bl b) := ⟨.bl b, rfl, fun _ _ _ => Rp.bl b⟩
theorem vok_int {i : Int} {t : Nat} : VOk K mg (.int i t) (.int i) := ⟨.int i, ⟨t, rfl⟩, fun _ _ _ => Rp.int i⟩
theorem vok_str {x : Str} {t : Nat} : VOk K mg (.str x t) (.str x) := ⟨.str x, ⟨t, rfl⟩, fun _ _ _ => by unfold Rp; rfl⟩
theorem vsOk_vals : ∀ {us : List Value} {ds : List D}, VsOk K mg us ds → ∃ vs, Vals vs us ∧ ∀ ρ n H, RpL ⟨K, mg⟩ ρ n H vs ds
  | [], [], _ => ⟨[], .nil, fun _ _ _ => by unfold RpL; rfl⟩
  | [], _ :: _, h => h.elim
  | _ :: _, [], h => h.elim
  | u :: us, d :: ds, ⟨⟨v, r, rp⟩, h⟩ => by
    obtain ⟨vs, rs, rps⟩ := vsOk_vals h
    exact ⟨v :: vs, .cons r rs, fun ρ n H => by unfold RpL; exact ⟨v, vs, rfl, rp ρ n H, rps ρ n H⟩⟩
theorem vok_tup {a : Addr} {od : Option Addr} {its : Array Value} {n : Nat} {sl : Array (Option Value)} {ds : List D} (l : K.lookup a = some ⟨.type "tuple", od, .seq its n, sl⟩) (hz : its.size ≤ sizeLine) (h : VsOk K mg its.toList ds) : VOk K mg (.ref a) (.tup ds) := by
  obtain ⟨vs, rs, rps⟩ := vsOk_vals h
  refine ⟨.ref a, rfl, fun ρ m H => ?_⟩
  unfold Rp
  exact ⟨a, vs, rfl, .inr ⟨_, its, n, l, rfl, rfl, hz, rs⟩, rps ρ m H⟩
theorem cok_of {x : Str} {u : Value} {d : D} (hm : mg x = some u) (h : VOk K mg u d) : COk K mg x d := by
  obtain ⟨v, r, rp⟩ := h
  exact ⟨u, v, hm, r, rp⟩
end
end Y

set_option Elab.async false
set_option linter.all false
set_option maxRecDepth 100000
set_option maxHeartbeats 4000000
/-! Y16: the weakest condition of the pure meanings. -/
namespace Y
open PySem L2

def Res.to {α : Type} (r : Res α) (Q : α → Sto → Prop) (X : Str → Sto → Prop) : Prop := match r with
  | .ok a s => Q a s
  | .exc x s => X x s
  | .err => False
abbrev NoX : Str → Sto → Prop := fun _ _ => False
structure Post where
  nx : Ev → Sto → Prop := fun _ _ => False
  rt : D → Sto → Prop := fun _ _ => False
  bk : Ev → Sto → Prop := fun _ _ => False
  ct : Ev → Sto → Prop := fun _ _ => False
  exc : Str → Ev → Sto → Prop := fun _ _ _ => False
def SR.to (r : SR) (P : Post) : Prop := match r with
  | .nx E s => P.nx E s
  | .rt d s => P.rt d s
  | .bk E s => P.bk E s
  | .ct E s => P.ct E s
  | .exc x E s => P.exc x E s
  | .err => False
section
variable {α β : Type} {Q : α → Sto → Prop} {X : Str → Sto → Prop}
@[simp] theorem to_ok {a : α} {s : Sto} : (Res.ok a s).to Q X = Q a s := rfl
@[simp] theorem to_exc {x : Str} {s : Sto} : (Res.exc x s : Res α).to Q X = X x s := rfl
@[simp] theorem to_err : (Res.err : Res α).to Q X = False := rfl
@[simp] theorem to_bind {r : Res β} {f : β → Sto → Res α} : (r.bind f).to Q X = r.to (fun a s => (f a s).to Q X) X := by cases r <;> rfl
@[simp] theorem to_some {a : α} {s : Sto} : (Res.ofO (some (a, s))).to Q X = Q a s := rfl
@[simp] theorem to_none : (Res.ofO (none : Option (α × Sto))).to Q X = False := rfl
@[simp] theorem to_ite {c : Prop} [Decidable c] {a : α} {s : Sto} : (Res.ofO (if c then some (a, s) else none)).to Q X = (c ∧ Q a s) := by
  by_cases h : c <;> simp [h]
@[simp] theorem to_map {β : Type} {o : Option β} {f : β → α × Sto} : (Res.ofO (o.map f)).to Q X = (∃ b, o = some b ∧ Q (f b).1 (f b).2) := by
  cases o with
  | none => simp
  | some b => simp; rfl
@[simp] theorem to_if {c : Prop} [Decidable c] {r r' : Res α} : (if c then r else r').to Q X = ((c → r.to Q X) ∧ (¬ c → r'.to Q X)) := by
  by_cases h : c <;> simp [h]
@[simp] theorem to_noX {r : Res α} : (noX r).to Q X = r.to Q NoX := by cases r <;> rfl
theorem Res.to_mono {r : Res α} {Q' : α → Sto → Prop} {X' : Str → Sto → Prop} (h : r.to Q X) (hq : ∀ a s, Q a s → Q' a s) (hx : ∀ x s, X x s → X' x s) : r.to Q' X' := by
  cases r with
  | ok a s => exact hq _ _ h
  | exc x s => exact hx _ _ h
  | err => exact h.elim
theorem Res.to_imp {r : Res α} {Q' : α → Sto → Prop} (h : r.to Q NoX) (hq : ∀ a s, Q a s → Q' a s) : r.to Q' X := Res.to_mono h hq fun _ _ z => z.elim
theorem Res.to_ex {r : Res α} (h : r.to Q NoX) : ∃ a s, r = .ok a s ∧ Q a s := by
  cases r with
  | ok a s => exact ⟨a, s, rfl, h⟩
  | exc x s => exact h.elim
  | err => exact h.elim
end
section
variable {P : Post} {E : Ev} {s : Sto}
@[simp] theorem st_nx : (SR.nx E s).to P = P.nx E s := rfl
@[simp] theorem st_rt {d : D} : (SR.rt d s).to P = P.rt d s := rfl
@[simp] theorem st_bk : (SR.bk E s).to P = P.bk E s := rfl
@[simp] theorem st_ct : (SR.ct E s).to P = P.ct E s := rfl
@[simp] theorem st_exc {x : Str} : (SR.exc x E s).to P = P.exc x E s := rfl
@[simp] theorem st_err : SR.err.to P = False := rfl
theorem st_exprS {α : Type} {m : EM α} {k : α → SM} : (exprS m k E s).to P = (m E s).to (fun a s1 => (k a E s1).to P) (fun x s1 => P.exc x E s1) := by
  unfold exprS
  cases m E s <;> rfl
@[simp] theorem st_nil : (sNil E s).to P = P.nx E s := rfl
@[simp] theorem st_cons {a b : SM} : (sCons a b E s).to P = (a E s).to { P with nx := fun E1 s1 => (b E1 s1).to P } := by
  unfold sCons
  cases a E s <;> rfl
@[simp] theorem st_break : (sBreak E s).to P = P.bk E s := rfl
@[simp] theorem st_cont : (sCont E s).to P = P.ct E s := rfl
@[simp] theorem st_ret {m : EM D} : (sRet m E s).to P = (m E s).to (fun d s1 => P.rt d s1) (fun x s1 => P.exc x E s1) := st_exprS
@[simp] theorem st_retN : (sRetN E s).to P = P.rt .non s := rfl
@[simp] theorem st_expr {m : EM D} : (sExpr m E s).to P = (m E s).to (fun _ s1 => P.nx E s1) (fun x s1 => P.exc x E s1) := st_exprS
@[simp] theorem st_if {c : EM Bool} {a b : SM} : (sIf c a b E s).to P = (c E s).to (fun k s1 => (k = true → (a E s1).to P) ∧ (¬ k = true → (b E s1).to P)) (fun x s1 => P.exc x E s1) := by
  unfold sIf
  rw [st_exprS]
  congr 1
  funext k s1
  cases k <;> simp
@[simp] theorem st_set {i : Nat} {m : EM D} : (sSet i m E s).to P = (m E s).to (fun d s1 => P.nx (E.set i (some d)) s1) (fun x s1 => P.exc x E s1) := st_exprS
@[simp] theorem st_asg {g : GM} {m : EM D} : (sAsg g m E s).to P = (m E s).to (fun d s1 => (g d E s1).to (fun E' s' => P.nx E' s') NoX) (fun x s1 => P.exc x E s1) := by
  unfold sAsg
  rw [st_exprS]
  congr 1
  funext d s1
  cases g d E s1 <;> rfl
@[simp] theorem st_aug {i : Nat} {op : Operator} {m : EM D} : (sAug i op m E s).to P = (∃ x, E[i]? = some (some x) ∧ (m E s).to (fun y s1 => (Res.ofO (pInp op x y s1)).to (fun d s2 => P.nx (E.set i (some d)) s2) (fun x s1 => P.exc x E s1)) (fun x s1 => P.exc x E s1)) := by
  unfold sAug
  cases h : E[i]? with
  | none => simp
  | some o =>
    cases o with
    | none => simp
    | some x => simp [st_exprS]
@[simp] theorem st_for {it : EM Src} {g : GM} {b : SM} : (sFor it g b E s).to P = (it E s).to (fun src s1 => (forS g b src E s1).to P) (fun x s1 => P.exc x E s1) := st_exprS
theorem SR.to_mono {r : SR} {P' : Post} (h : r.to P) (h1 : ∀ E s, P.nx E s → P'.nx E s) (h2 : ∀ d s, P.rt d s → P'.rt d s) (h3 : ∀ E s, P.bk E s → P'.bk E s) (h4 : ∀ E s, P.ct E s → P'.ct E s) (h5 : ∀ x E s, P.exc x E s → P'.exc x E s) : r.to P' := by
  cases r with
  | nx E s => exact h1 _ _ h
  | rt d s => exact h2 _ _ h
  | bk E s => exact h3 _ _ h
  | ct E s => exact h4 _ _ h
  | exc x E s => exact h5 _ _ _ h
  | err => exact h.elim
theorem turn_to {g : GM} {b : SM} {d : D} {k : SM} : (turnL g b d k E s).to P = (g d E s).to (fun E1 s1 => (b E1 s1).to { P with nx := fun E2 s2 => (k E2 s2).to P, ct := fun E2 s2 => (k E2 s2).to P, bk := P.nx }) NoX := by
  unfold turnL
  cases g d E s with
  | ok E1 s1 => simp only [to_ok]; cases b E1 s1 <;> rfl
  | exc x s1 => rfl
  | err => rfl
/-- a loop over a fixed list: I i holds ahead of turn i -/
theorem forL_to {g : GM} {b : SM} (I : Nat → Ev → Sto → Prop) : ∀ (xs : List D) (i : Nat) {E : Ev} {s : Sto}, I i E s →
    (∀ j d E s, xs[j]? = some d → I (i + j) E s → (g d E s).to (fun E1 s1 => (b E1 s1).to { P with nx := I (i + j + 1), ct := I (i + j + 1), bk := P.nx }) NoX) →
    (∀ E s, I (i + xs.length) E s → P.nx E s) → (forL g b xs E s).to P
  | [], i, E, s, h0, _, hz => hz E s h0
  | d :: ds, i, E, s, h0, ht, hz => by
    show (turnL g b d (forL g b ds) E s).to P
    rw [turn_to]
    refine Res.to_mono (ht 0 d E s rfl h0) (fun E1 s1 z => ?_) fun _ _ z => z
    have go : ∀ E2 s2, I (i + 0 + 1) E2 s2 → (forL g b ds E2 s2).to P := fun E2 s2 z2 => forL_to I ds (i + 1) z2 (fun j d' E s e z => by
      have := ht (j + 1) d' E s (by simpa using e) (by rw [show i + (j + 1) = i + 1 + j by omega]; exact z)
      rw [show i + (j + 1) = i + 1 + j by omega] at this
      exact this) (fun E s z => hz E s (by rw [List.length_cons, show i + (ds.length + 1) = i + 1 + ds.length by omega]; exact z))
    exact SR.to_mono z go (fun _ _ z => z) (fun _ _ z => z) go (fun _ _ _ z => z)
theorem forK_to {g : GM} {b : SM} {k : Nat} {xs : List D} (I : Nat → Ev → Sto → Prop) (hk : ∀ i E s, I i E s → s[k]? = some (.lst xs))
    (ht : ∀ j d E s, xs[j]? = some d → I j E s → (g d E s).to (fun E1 s1 => (b E1 s1).to { P with nx := I (j + 1), ct := I (j + 1), bk := P.nx }) NoX)
    (hz : ∀ E s, I xs.length E s → P.nx E s) : ∀ (n i : Nat) {E : Ev} {s : Sto}, xs.length < i + n → i ≤ xs.length → I i E s → (forK g b k n i E s).to P
  | 0, i, E, s, h1, h2, _ => absurd h1 (by omega)
  | n + 1, i, E, s, h1, h2, h0 => by
    unfold forK
    rw [hk i E s h0]
    simp only
    cases e : xs[i]? with
    | none =>
      have : i = xs.length := by
        have := List.getElem?_eq_none_iff.mp e
        omega
      subst this
      exact hz E s h0
    | some d =>
      simp only
      rw [turn_to]
      refine Res.to_mono (ht i d E s e h0) (fun E1 s1 z => ?_) fun _ _ z => z
      have hi : i < xs.length := (List.getElem?_eq_some_iff.mp e).1
      have go : ∀ E2 s2, I (i + 1) E2 s2 → (forK g b k n (i + 1) E2 s2).to P := fun E2 s2 z2 => forK_to I hk ht hz n (i + 1) (by omega) (by omega) z2
      exact SR.to_mono z go (fun _ _ z => z) (fun _ _ z => z) go (fun _ _ _ z => z)
/-- a loop over a fixed list, from the start -/
theorem forFix {g : GM} {b : SM} {xs : List D} (I : Nat → Ev → Sto → Prop) (h0 : I 0 E s)
    (ht : ∀ j d E s, xs[j]? = some d → I j E s → (g d E s).to (fun E1 s1 => (b E1 s1).to { P with nx := I (j + 1), ct := I (j + 1), bk := P.nx }) NoX)
    (hz : ∀ E s, I xs.length E s → P.nx E s) : (forS g b (.fix xs) E s).to P := by
  refine forL_to I xs 0 h0 (fun j d E s e z => ?_) (fun E s z => hz E s (by simpa using z))
  rw [Nat.zero_add] at z ⊢
  exact ht j d E s e z
theorem forLst {g : GM} {b : SM} {k : Nat} {xs : List D} (I : Nat → Ev → Sto → Prop) (hl : xs.length < fuelMax) (hk : ∀ i E s, I i E s → s[k]? = some (.lst xs)) (h0 : I 0 E s)
    (ht : ∀ j d E s, xs[j]? = some d → I j E s → (g d E s).to (fun E1 s1 => (b E1 s1).to { P with nx := I (j + 1), ct := I (j + 1), bk := P.nx }) NoX)
    (hz : ∀ E s, I xs.length E s → P.nx E s) : (forS g b (.lst k) E s).to P :=
  forK_to I hk ht hz fuelMax 0 (by omega) (Nat.zero_le _) h0
/-- a while loop: the measure goes down -/
theorem while_to {c : EM Bool} {b : SM} (I : Ev → Sto → Prop) (μ : Ev → Sto → Nat)
    (ht : ∀ E s, I E s → (c E s).to (fun k s1 => (k = true → (b E s1).to { P with nx := fun E2 s2 => I E2 s2 ∧ μ E2 s2 < μ E s, ct := fun E2 s2 => I E2 s2 ∧ μ E2 s2 < μ E s, bk := P.nx }) ∧ (¬ k = true → P.nx E s1)) (fun x s1 => P.exc x E s1)) :
    ∀ (n : Nat) {E : Ev} {s : Sto}, I E s → μ E s < n → (whileL c b n E s).to P
  | 0, E, s, _, h => absurd h (by omega)
  | n + 1, E, s, h0, h => by
    have z := ht E s h0
    unfold whileL
    cases e : c E s with
    | err => rw [e] at z; exact z
    | exc x s1 => rw [e] at z; exact z
    | ok k s1 =>
      rw [e] at z
      cases k with
      | false => exact z.2 (by simp)
      | true =>
        have z := z.1 rfl
        simp only
        have go : ∀ E2 s2, I E2 s2 ∧ μ E2 s2 < μ E s → (whileL c b n E2 s2).to P := fun E2 s2 q => while_to I μ ht n q.1 (by omega)
        cases e2 : b E s1 with
        | nx E2 s2 => rw [e2] at z; exact go E2 s2 z
        | ct E2 s2 => rw [e2] at z; exact go E2 s2 z
        | bk E2 s2 => rw [e2] at z; exact z
        | rt d s2 => rw [e2] at z; exact z
        | exc x E2 s2 => rw [e2] at z; exact z
        | err => rw [e2] at z; exact z
theorem sWhile_to {c : EM Bool} {b : SM} (I : Ev → Sto → Prop) (μ : Ev → Sto → Nat) (h0 : I E s) (hm : μ E s < fuelMax)
    (ht : ∀ E s, I E s → (c E s).to (fun k s1 => (k = true → (b E s1).to { P with nx := fun E2 s2 => I E2 s2 ∧ μ E2 s2 < μ E s, ct := fun E2 s2 => I E2 s2 ∧ μ E2 s2 < μ E s, bk := P.nx }) ∧ (¬ k = true → P.nx E s1)) (fun x s1 => P.exc x E s1)) : (sWhile c b E s).to P :=
  while_to I μ ht fuelMax h0 hm
end
/-! ### comprehensions -/
section
variable {g : GM} {t : EM Bool} {e : EM D} {E0 : Ev} {Q : List D → Sto → Prop} {X : Str → Sto → Prop}
theorem turnC_to {d : D} {s : Sto} {Q : Option D → Sto → Prop} : (turnC g t e E0 d s).to Q X = (g d E0 s).to (fun E1 s1 => (t E1 s1).to (fun b s2 => (b = true → (e E1 s2).to (fun y s3 => Q (some y) s3) NoX) ∧ (¬ b = true → Q none s2)) NoX) NoX := by
  unfold turnC
  cases g d E0 s with
  | ok E1 s1 => simp
  | exc x s1 => rfl
  | err => rfl
theorem compL_to (I : Nat → List D → Sto → Prop) : ∀ (xs : List D) (i : Nat) (acc : List D) {s : Sto} {Q : List D → Sto → Prop}, I i acc s →
    (∀ j d acc s, xs[j]? = some d → I (i + j) acc s → (turnC g t e E0 d s).to (fun o s1 => I (i + j + 1) (acc ++ o.toList) s1) X) →
    (∀ ys s, I (i + xs.length) (acc ++ ys) s → Q ys s) → (compL g t e E0 xs s).to Q X
  | [], i, acc, s, _, h0, _, hz => hz [] s (by simpa using h0)
  | d :: ds, i, acc, s, Q, h0, ht, hz => by
    unfold compL
    rw [to_bind]
    refine Res.to_mono (ht 0 d acc s rfl h0) (fun o s1 z => ?_) fun _ _ z => z
    rw [to_bind]
    simp only [to_ok]
    refine compL_to (Q := fun a s => Q (consO o a) s) I ds (i + 1) (acc ++ o.toList) z (fun j d' a s' e' z' => ?_) fun ys s' z' => ?_
    · have := ht (j + 1) d' a s' (by simpa using e') (by rw [show i + (j + 1) = i + 1 + j by omega]; exact z')
      rw [show i + (j + 1) = i + 1 + j by omega] at this
      exact this
    · refine hz _ _ ?_
      rw [List.length_cons, show i + (ds.length + 1) = i + 1 + ds.length by omega]
      cases o <;> simpa [consO] using z'
theorem compK_to {k : Nat} {xs : List D} (I : Nat → List D → Sto → Prop) (hk : ∀ i acc s, I i acc s → s[k]? = some (.lst xs))
    (ht : ∀ j d acc s, xs[j]? = some d → I j acc s → (turnC g t e E0 d s).to (fun o s1 => I (j + 1) (acc ++ o.toList) s1) X) :
    ∀ (n i : Nat) (acc : List D) {s : Sto} {Q : List D → Sto → Prop}, xs.length < i + n → i ≤ xs.length → I i acc s → (∀ ys s, I xs.length (acc ++ ys) s → Q ys s) → (compK g t e E0 k n i s).to Q X
  | 0, i, acc, s, _, h1, h2, _, _ => absurd h1 (by omega)
  | n + 1, i, acc, s, Q, h1, h2, h0, hz => by
    unfold compK
    rw [hk i acc s h0]
    simp only
    cases e' : xs[i]? with
    | none =>
      have : i = xs.length := by have := List.getElem?_eq_none_iff.mp e'; omega
      subst this
      exact hz [] s (by simpa using h0)
    | some d =>
      simp only
      rw [to_bind]
      refine Res.to_mono (ht i d acc s e' h0) (fun o s1 z => ?_) fun _ _ z => z
      have hi : i < xs.length := (List.getElem?_eq_some_iff.mp e').1
      rw [to_bind]
      simp only [to_ok]
      refine compK_to (Q := fun a s => Q (consO o a) s) I hk ht n (i + 1) (acc ++ o.toList) (by omega) (by omega) z fun ys s' z' => ?_
      refine hz _ _ ?_
      cases o <;> simpa [consO] using z'
theorem compFix {xs : List D} {s : Sto} (I : Nat → List D → Sto → Prop) (hl : xs.length ≤ sizeLine) (h0 : I 0 [] s)
    (ht : ∀ j d acc s, xs[j]? = some d → I j acc s → (turnC g t e E0 d s).to (fun o s1 => I (j + 1) (acc ++ o.toList) s1) X)
    (hz : ∀ ys s, I xs.length ys s → Q ys s) : (compS g t e E0 (.fix xs) s).to Q X := by
  unfold compS
  simp only [if_pos hl]
  refine compL_to I xs 0 [] h0 (fun j d a s e z => ?_) fun ys s z => hz ys s (by simpa using z)
  rw [Nat.zero_add] at z ⊢
  exact ht j d a s e z
theorem compLst {xs : List D} {s : Sto} {k : Nat} (I : Nat → List D → Sto → Prop) (hl : xs.length < sizeLine) (hk : ∀ i acc s, I i acc s → s[k]? = some (.lst xs)) (h0 : I 0 [] s)
    (ht : ∀ j d acc s, xs[j]? = some d → I j acc s → (turnC g t e E0 d s).to (fun o s1 => I (j + 1) (acc ++ o.toList) s1) X)
    (hz : ∀ ys s, I xs.length ys s → Q ys s) : (compS g t e E0 (.lst k) s).to Q X :=
  compK_to I hk ht sizeLine 0 [] (by omega) (Nat.zero_le _) h0 fun ys s z => hz ys s (by simpa using z)
/-- a comprehension that touches nothing -/
theorem compFix_map {xs : List D} {s : Sto} {f : D → Option D} (hl : xs.length ≤ sizeLine) (h : ∀ d ∈ xs, turnC g t e E0 d s = .ok (f d) s) : compS g t e E0 (.fix xs) s = .ok (xs.filterMap f) s := by
  unfold compS
  simp only [if_pos hl]
  clear hl
  induction xs with
  | nil => rfl
  | cons d ds ih =>
    unfold compL
    rw [h d (by simp), Res.bind_ok, ih (fun d hd => h d (by simp [hd])), Res.bind_ok]
    rw [List.filterMap_cons]
    cases f d <;> rfl
theorem compK_map {k : Nat} {xs : List D} {s : Sto} {f : D → Option D} (hk : s[k]? = some (.lst xs)) (h : ∀ d ∈ xs, turnC g t e E0 d s = .ok (f d) s) : ∀ (n i : Nat), xs.length < i + n → i ≤ xs.length → compK g t e E0 k n i s = .ok ((xs.drop i).filterMap f) s
  | 0, i, h1, h2 => absurd h1 (by omega)
  | n + 1, i, h1, h2 => by
    unfold compK
    rw [hk]
    simp only
    cases e' : xs[i]? with
    | none =>
      have : i = xs.length := by have := List.getElem?_eq_none_iff.mp e'; omega
      subst this
      simp
    | some d =>
      obtain ⟨hi, ed⟩ := List.getElem?_eq_some_iff.mp e'
      simp only
      rw [h d (by rw [← ed]; exact List.getElem_mem hi), Res.bind_ok, compK_map hk h n (i + 1) (by omega) (by omega), Res.bind_ok, List.drop_eq_getElem_cons hi, List.filterMap_cons, ed]
      cases f d <;> rfl
theorem compLst_map {k : Nat} {xs : List D} {s : Sto} {f : D → Option D} (hk : s[k]? = some (.lst xs)) (hl : xs.length < sizeLine) (h : ∀ d ∈ xs, turnC g t e E0 d s = .ok (f d) s) : compS g t e E0 (.lst k) s = .ok (xs.filterMap f) s := by
  have := compK_map (g := g) (t := t) (e := e) (E0 := E0) hk h sizeLine 0 (by omega) (Nat.zero_le _)
  rw [List.drop_zero] at this
  exact this
end
end Y

set_option Elab.async false
set_option linter.all false
set_option maxRecDepth 100000
set_option maxHeartbeats 4000000
/-! Y17: how the pure meanings run. -/
namespace Y
open PySem L2

def Res.ofV : Option (Option D) → Sto → Res D
  | some (some d), s => .ok d s
  | _, _ => .err
@[simp] theorem ofV_some {d : D} {s : Sto} : Res.ofV (some (some d)) s = .ok d s := rfl
section
variable {E : Ev} {s : Sto}
@[simp] theorem eVar_ap {i : Nat} : eVar i E s = Res.ofV E[i]? s := by
  unfold eVar
  cases E[i]? with
  | none => rfl
  | some o => cases o <;> rfl
@[simp] theorem eC_ap {d : D} : eC d E s = .ok d s := rfl
@[simp] theorem eBin_ap {p : P2} {a b : EM D} : eBin p a b E s = (a E s).bind fun x s1 => (b E s1).bind fun y s2 => .ofO (p x y s2) := rfl
@[simp] theorem eUn_ap {p : P1} {a : EM D} : eUn p a E s = (a E s).bind fun x s1 => .ofO (p x s1) := rfl
def Res.ofB : D → Sto → Res Bool
  | .bl b, s => .ok b s
  | _, _ => .err
@[simp] theorem ofB_bl {b : Bool} : Res.ofB (.bl b) s = .ok b s := rfl
@[simp] theorem tOfB_ap {m : EM D} : tOfB m E s = (m E s).bind Res.ofB := by
  unfold tOfB
  congr 1
  funext d s1
  cases d <;> rfl
def Res.ofT : Option Bool → Sto → Res Bool
  | some b, s => .ok b s
  | _, _ => .err
@[simp] theorem ofT_some {b : Bool} : Res.ofT (some b) s = .ok b s := rfl
@[simp] theorem tOfT_ap {m : EM D} : tOfT m E s = (m E s).bind fun d s1 => Res.ofT (truD d s1) s1 := by
  unfold tOfT
  congr 1
  funext d s1
  cases truD d s1 <;> rfl
@[simp] theorem tNt_ap {a : EM Bool} : tNt a E s = (a E s).bind fun b s1 => .ok (!b) s1 := rfl
@[simp] theorem tAn_ap {a b : EM Bool} : tAn a b E s = (a E s).bind fun c s1 => if c = true then b E s1 else .ok false s1 := rfl
@[simp] theorem tOr_ap {a b : EM Bool} : tOr' a b E s = (a E s).bind fun c s1 => if c = true then .ok true s1 else b E s1 := rfl
def Res.an (o : Option Bool) (t f : Res D) : Res D := match o with
  | some true => t
  | some false => f
  | none => .err
@[simp] theorem an_t {t f : Res D} : Res.an (some true) t f = t := rfl
@[simp] theorem an_f {t f : Res D} : Res.an (some false) t f = f := rfl
theorem an_some {b : Bool} {t f : Res D} : Res.an (some b) t f = if b = true then t else f := by cases b <;> rfl
@[simp] theorem eAn_ap {a b : EM D} : eAn a b E s = (a E s).bind fun d s1 => Res.an (truD d s1) (b E s1) (.ok d s1) := by
  unfold eAn
  rfl
@[simp] theorem eOr_ap {a b : EM D} : eOr a b E s = (a E s).bind fun d s1 => Res.an (truD d s1) (.ok d s1) (b E s1) := by
  unfold eOr
  rfl
@[simp] theorem eNt_ap {a : EM D} : eNt a E s = (a E s).bind fun d s1 => (Res.ofT (truD d s1) s1).bind fun b s2 => .ok (.bl (!b)) s2 := by
  unfold eNt
  cases a E s with
  | ok d s1 => simp only [Res.bind_ok]; cases truD d s1 <;> rfl
  | _ => rfl
@[simp] theorem eIf_ap {c : EM Bool} {a b : EM D} : eIf c a b E s = (c E s).bind fun k s1 => if k = true then a E s1 else b E s1 := rfl
@[simp] theorem aNil_ap : aNil E s = .ok [] s := rfl
@[simp] theorem aCons_ap {a : EM D} {b : EM (List D)} : aCons a b E s = (a E s).bind fun d s1 => (b E s1).bind fun ds s2 => .ok (d :: ds) s2 := rfl
@[simp] theorem eA_ap {p : PL} {a : EM (List D)} : eA p a E s = (a E s).bind fun ds s1 => .ofO (p ds s1) := rfl
@[simp] theorem eCall_ap {n : Nat} {F : List D → Sto → Res D} {a : EM (List D)} : eCall n F a E s = (a E s).bind fun ds s1 => if ds.length = n then F ds s1 else .err := rfl
def Res.ofL {α : Type} : Option α → Sto → Res α
  | some b, s => .ok b s
  | _, _ => .err
@[simp] theorem ofL_some {α : Type} {b : α} : Res.ofL (some b) s = .ok b s := rfl
@[simp] theorem lOfE_ap {m : EM D} : lOfE m E s = (m E s).bind fun d s1 => Res.ofL (seqD d s1) s1 := by
  unfold lOfE
  congr 1
  funext d s1
  cases seqD d s1 <;> rfl
@[simp] theorem lOfL_ap {m : EM D} : lOfL m E s = (m E s).bind fun d s1 => Res.ofL (lstD d s1) s1 := by
  unfold lOfL
  congr 1
  funext d s1
  cases lstD d s1 <;> rfl
@[simp] theorem eAlloc_ap {m : EM (List D)} : eAlloc m E s = (m E s).bind fun ds s1 => .ok (.loc s1.length) (s1 ++ [.lst ds]) := rfl
@[simp] theorem eAllocD_ap {m : EM (List (Key × D))} : eAllocD m E s = (m E s).bind fun ds s1 => .ok (.loc s1.length) (s1 ++ [.dic ds]) := rfl
@[simp] theorem dictNew_ap : dictNew E s = .ok (.loc s.length) (s ++ [.dic []]) := rfl
@[simp] theorem tYes_ap : tYesM E s = .ok true s := rfl
def Res.ofI : D → Sto → Res (Option Int)
  | .int i, s => .ok (some i) s
  | _, _ => .err
@[simp] theorem ofI_int {i : Int} : Res.ofI (.int i) s = .ok (some i) s := rfl
@[simp] theorem oSome_ap {m : EM D} : oSome m E s = (m E s).bind Res.ofI := by
  unfold oSome
  congr 1
  funext d s1
  cases d <;> rfl
@[simp] theorem pSl_tup {xs : List D} {lo hi : Option Int} : pSl (.tup xs) lo hi s = some (.tup (cutA xs lo hi), s) := rfl
theorem pSl_str {z : Str} {lo hi : Option Int} : pSl (.str z) lo hi s = if z.length ≤ sizeLine then some (.str (cutS z lo hi), s) else none := rfl
theorem pSl_loc {k : Nat} {xs : List D} {lo hi : Option Int} (h : s[k]? = some (.lst xs)) : pSl (.loc k) lo hi s = some (.loc s.length, s ++ [.lst (cutA xs lo hi)]) := by
  unfold pSl; simp only [h]
theorem sIx_nat {n d : Nat} {i : Nat} : HT.sIx n d (some (i : Int)) = min i n := by
  unfold HT.sIx
  simp
  omega
theorem cut_from {α : Type} {xs : List α} {i : Nat} : cutA xs (some (i : Int)) none = xs.drop i := by
  unfold cutA
  rw [sIx_nat, HT.sIx_none]
  by_cases h : i ≤ xs.length
  · rw [Nat.min_eq_left h, List.take_of_length_le (by rw [List.length_drop]; omega)]
  · rw [Nat.min_eq_right (by omega), List.drop_of_length_le (Nat.le_refl _), List.drop_of_length_le (by omega)]; simp
theorem cut_to {α : Type} {xs : List α} {i : Nat} : cutA xs none (some (i : Int)) = xs.take i := by
  unfold cutA
  rw [sIx_nat, HT.sIx_none, List.drop_zero, Nat.sub_zero]
  by_cases h : i ≤ xs.length
  · rw [Nat.min_eq_left h]
  · rw [Nat.min_eq_right (by omega), List.take_length, List.take_of_length_le (by omega)]
@[simp] theorem cut_1 {α : Type} {xs : List α} : cutA xs (some 1) none = xs.drop 1 := cut_from (i := 1)
@[simp] theorem cut_2 {α : Type} {xs : List α} : cutA xs (some 2) none = xs.drop 2 := cut_from (i := 2)
@[simp] theorem oNone_ap : oNone E s = .ok none s := rfl
@[simp] theorem eSl_ap {a : EM D} {lo hi : EM (Option Int)} : eSl a lo hi E s = (a E s).bind fun x s1 => (lo E s1).bind fun l s2 => (hi E s2).bind fun h s3 => .ofO (pSl x l h s3) := rfl
@[simp] theorem fRev_ap {m : EM D} : fRev m E s = (m E s).bind fun d s1 => (Res.ofL (lstD d s1) s1).bind fun xs s2 => .ok xs.reverse s2 := by
  unfold fRev
  congr 1
  funext d s1
  cases d with
  | loc k =>
    simp only [lstD]
    cases s1[k]? with
    | none => rfl
    | some o => cases o <;> rfl
  | _ => rfl
@[simp] theorem eL_ap {p : List D → Option D} {m : EM (List D)} : eL p m E s = (m E s).bind fun ds s1 => Res.ofL (p ds) s1 := by
  unfold eL
  congr 1
  funext d s1
  cases p d <;> rfl
@[simp] theorem fSortedL_ap {m : EM (List D)} : fSortedL m E s = (m E s).bind fun ds s1 => Res.ofL (srtD ds) s1 := by
  unfold fSortedL
  congr 1
  funext d s1
  cases srtD d <;> rfl
def srtDS (d : D) (s : Sto) : Option (List D) := match lstD d s with
  | some ds => srtD ds
  | none => match d with
    | .loc k => match s[k]? with
      | some (.dic kvs) => match keysS kvs with
        | some ks => if ks.length < 64 then some ((srtS ks).map D.str) else none
        | none => none
      | _ => none
    | _ => none
@[simp] theorem fSorted_ap {m : EM D} : fSorted m E s = (m E s).bind fun d s1 => Res.ofL (srtDS d s1) s1 := by
  unfold fSorted
  congr 1
  funext d s1
  unfold srtDS
  cases lstD d s1 with
  | some ds => simp only; cases srtD ds <;> rfl
  | none =>
    simp only
    cases d with
    | loc k =>
      simp only
      cases s1[k]? with
      | none => rfl
      | some o =>
        cases o with
        | dic kvs =>
          simp only
          cases keysS kvs with
          | none => rfl
          | some ks => simp only; split <;> rfl
        | _ => rfl
    | _ => rfl
@[simp] theorem fList_ap {m : EM (List D)} : fList m E s = m E s := rfl
def Res.meth (name : Str) (d : D) (s1 : Sto) (a : Sto → Res (List D)) : Res D := match tyD d s1 with
  | some T => match pMeth T name with
    | some p => (a s1).bind fun ds s2 => .ofO (p d ds s2)
    | none => .err
  | none => .err
@[simp] theorem eMeth_ap {name : Str} {o : EM D} {a : EM (List D)} : eMeth name o a E s = (o E s).bind fun d s1 => Res.meth name d s1 (fun s2 => a E s2) := rfl
@[simp] theorem gNm_ap {i : Nat} {d : D} : gNm i d E s = .ok (E.set i (some d)) s := rfl
@[simp] theorem gsNil_ap : gsNil [] E s = .ok E s := rfl
@[simp] theorem gsCons_ap {a : GM} {b : GMs} {d : D} {r : List D} : gsCons a b (d :: r) E s = (a d E s).bind fun E1 s1 => b r E1 s1 := rfl
def Res.gtp (n : Nat) (gs : List D → Res Ev) : Option (List D) → Res Ev
  | some xs => if xs.length = n then gs xs else .err
  | none => .err
@[simp] theorem gtp_some {n : Nat} {gs : List D → Res Ev} {xs : List D} : Res.gtp n gs (some xs) = if xs.length = n then gs xs else .err := rfl
@[simp] theorem gTp_ap {n : Nat} {gs : GMs} {d : D} : gTp n gs d E s = Res.gtp n (fun xs => gs xs E s) (seqD d s) := by
  unfold gTp
  cases seqD d s <;> rfl
def Res.ofS (E : Ev) : Option Sto → Res Ev
  | some s => .ok E s
  | none => .err
@[simp] theorem ofS_some : Res.ofS E (some s) = .ok E s := rfl
@[simp] theorem gSb_ap {o i : EM D} {v : D} : gSb o i v E s = (o E s).bind fun dO s1 => (i E s1).bind fun dI s2 => Res.ofS E (pSet dO dI v s2) := by
  unfold gSb
  rfl
@[simp] theorem iVal_ap {m : EM D} : iVal m E s = (m E s).bind fun d s1 => Res.ofL (srcD d s1) s1 := by
  unfold iVal
  congr 1
  funext d s1
  cases srcD d s1 <;> rfl
@[simp] theorem iFix_ap {m : EM (List D)} : iFix m E s = (m E s).bind fun ds s1 => .ok (.fix ds) s1 := rfl
def rng1 : List D → Option Src
  | [.int j] => if fitI j = true then some (.fix (rngD 0 j)) else none
  | _ => none
def rng2 : List D → Option Src
  | [.int i, .int j] => if fitI i = true ∧ fitI j = true then some (.fix (rngD i j)) else none
  | _ => none
@[simp] theorem fitI_lit {n : Nat} : fitI (no_index (OfNat.ofNat n : Int)) = decide (n ≤ 1152921504606846975) := by
  have e : fitI (OfNat.ofNat n : Int) = Nat.ble n 1152921504606846975 := rfl
  rw [e, Bool.eq_iff_iff, Nat.ble_eq, decide_eq_true_eq]
@[simp] theorem rng1_int {j : Int} : rng1 [.int j] = if fitI j = true then some (.fix (rngD 0 j)) else none := rfl
@[simp] theorem rng2_int {i j : Int} : rng2 [.int i, .int j] = if fitI i = true ∧ fitI j = true then some (.fix (rngD i j)) else none := rfl
@[simp] theorem iRng1_ap {m : EM (List D)} : iRng1' m E s = (m E s).bind fun ds s1 => Res.ofL (rng1 ds) s1 := by
  unfold iRng1'
  congr 1
  funext ds s1
  rcases ds with _ | ⟨a, _ | ⟨b, _ | ⟨c, r⟩⟩⟩
  · rfl
  · cases a <;> first | rfl | (show (if _ then _ else _) = Res.ofL (if _ then _ else _) s1; split <;> rfl)
  · cases a <;> first | rfl | (cases b <;> first | rfl | (show (if _ then _ else _) = Res.ofL (if _ then _ else _) s1; split <;> rfl))
  · cases a <;> first | rfl | (cases b <;> rfl)
@[simp] theorem iRng2_ap {m : EM (List D)} : iRng2' m E s = (m E s).bind fun ds s1 => Res.ofL (rng2 ds) s1 := by
  unfold iRng2'
  congr 1
  funext ds s1
  rcases ds with _ | ⟨a, _ | ⟨b, _ | ⟨c, r⟩⟩⟩
  · rfl
  · cases a <;> first | rfl | (show (if _ then _ else _) = Res.ofL (if _ then _ else _) s1; split <;> rfl)
  · cases a <;> first | rfl | (cases b <;> first | rfl | (show (if _ then _ else _) = Res.ofL (if _ then _ else _) s1; split <;> rfl))
  · cases a <;> first | rfl | (cases b <;> rfl)
@[simp] theorem fLc_ap {it : EM Src} {g : GM} {t : EM Bool} {e : EM D} {vs : List Nat} : fLc it g t e vs E s = (it E s).bind fun src s1 => compS g t e (wipeE E vs) src s1 := rfl
@[simp] theorem wipe_nil : wipeE E [] = E := rfl
@[simp] theorem wipe_cons {v : Nat} {vs : List Nat} : wipeE E (v :: vs) = (wipeE E vs).set v none := rfl
@[simp] theorem to_ofL {α : Type} {c : Prop} [Decidable c] {a : α} {Q : α → Sto → Prop} {X : Str → Sto → Prop} : (Res.ofL (if c then some a else none) s).to Q X = (c ∧ Q a s) := by
  by_cases h : c <;> simp [h, Res.ofL]
end
/-! ### operators -/
section
variable {s : Sto}
@[simp] theorem pBin_Add : pBin .Add = pAdd := rfl
@[simp] theorem pBin_Sub : pBin .Sub = pSub := rfl
@[simp] theorem pBin_Mult : pBin .Mult = pMul := rfl
@[simp] theorem pBin_FloorDiv : pBin .FloorDiv = pDiv := rfl
@[simp] theorem pBin_Mod : pBin .Mod = pMod := rfl
@[simp] theorem pBin_Pow : pBin .Pow = pPow := rfl
@[simp] theorem pAdd_int {i j : Int} : pAdd (.int i) (.int j) s = some (.int (i + j), s) := rfl
@[simp] theorem pAdd_tup {a b : List D} : pAdd (.tup a) (.tup b) s = if a.length + b.length ≤ sizeLine then some (.tup (a ++ b), s) else none := rfl
@[simp] theorem pAdd_str {a b : Str} : pAdd (.str a) (.str b) s = if a.length + b.length ≤ sizeLine then some (.str (a ++ b), s) else none := rfl
@[simp] theorem pSub_int {i j : Int} : pSub (.int i) (.int j) s = some (.int (i - j), s) := rfl
@[simp] theorem pMul_int {i j : Int} : pMul (.int i) (.int j) s = if i.natAbs.log2 + j.natAbs.log2 < 1000000 then some (.int (i * j), s) else none := rfl
@[simp] theorem pDiv_int {i j : Int} : pDiv (.int i) (.int j) s = if 0 < j ∧ j.natAbs.log2 < 9000 then some (.int (i / j), s) else none := rfl
@[simp] theorem pMod_int {i j : Int} : pMod (.int i) (.int j) s = if 0 < j then some (.int (i % j), s) else none := rfl
@[simp] theorem pPow_int {i j : Int} : pPow (.int i) (.int j) s = if 0 ≤ j ∧ j ≤ 1000000 ∧ fitI i = true then some (.int (i ^ j.toNat), s) else none := rfl
@[simp] theorem pInp_int {i j : Int} : pInp .Add (.int i) (.int j) s = some (.int (i + j), s) := rfl
@[simp] theorem pNeg_int {i : Int} : pNeg (.int i) s = some (.int (-i), s) := rfl
@[simp] theorem pIx_tup {xs : List D} {i : Int} : pIx (.tup xs) (.int i) s = (atI xs i).map fun d => (d, s) := rfl
@[simp] theorem pIx_ro {xs : List D} {i : Int} : pIx (.ro xs) (.int i) s = (atI xs i).map fun d => (d, s) := rfl
def ixO (o : Option O) (y : D) : Option D := match o with
  | some (.lst xs) => match y with
    | .int i => atI xs i
    | _ => none
  | some (.dic kvs) => match keyD y with
    | some q => getA kvs q
    | none => none
  | _ => none
@[simp] theorem pIx_loc {k : Nat} {y : D} : pIx (.loc k) y s = (ixO s[k]? y).map fun d => (d, s) := by
  have e : pIx (.loc k) y s = match s[k]? with
    | some (.lst xs) => (match y with
      | .int i => (atI xs i).map fun d => (d, s)
      | _ => none)
    | some (.dic kvs) => (match keyD y with
      | some q => (getA kvs q).map fun d => (d, s)
      | none => none)
    | _ => none := by cases y <;> rfl
  rw [e]
  unfold ixO
  cases s[k]? with
  | none => rfl
  | some o =>
    cases o with
    | lst xs => cases y <;> rfl
    | dic kvs => simp only; cases keyD y <;> rfl
    | ins c fs => rfl
@[simp] theorem ixO_lst {xs : List D} {i : Int} : ixO (some (.lst xs)) (.int i) = atI xs i := rfl
@[simp] theorem ixO_str {kvs : List (Key × D)} {x : Str} : ixO (some (.dic kvs)) (.str x) = getA kvs (.inr x) := rfl
@[simp] theorem ixO_int {kvs : List (Key × D)} {x : Int} : ixO (some (.dic kvs)) (.int x) = getA kvs (.inl x) := rfl
theorem atI_nat {α : Type} {xs : List α} {n : Nat} : atI xs (n : Int) = xs[n]? := by
  unfold atI ixN
  have h : ¬ ((n : Int) < 0) := by omega
  by_cases hn : n < xs.length
  · simp [h, hn]
  · simp [h, hn]
@[simp] theorem atI_0 {α : Type} {xs : List α} : atI xs 0 = xs[0]? := atI_nat (n := 0)
@[simp] theorem atI_1 {α : Type} {xs : List α} : atI xs 1 = xs[1]? := atI_nat (n := 1)
@[simp] theorem atI_2 {α : Type} {xs : List α} : atI xs 2 = xs[2]? := atI_nat (n := 2)
@[simp] theorem atI_3 {α : Type} {xs : List α} : atI xs 3 = xs[3]? := atI_nat (n := 3)
@[simp] theorem atI_4 {α : Type} {xs : List α} : atI xs 4 = xs[4]? := atI_nat (n := 4)
@[simp] theorem atI_5 {α : Type} {xs : List α} : atI xs 5 = xs[5]? := atI_nat (n := 5)
@[simp] theorem atI_6 {α : Type} {xs : List α} : atI xs 6 = xs[6]? := atI_nat (n := 6)
theorem atI_mod {α : Type} {xs : List α} {z : Int} (h : 0 ≤ z) : atI xs z = xs[z.toNat]? := by
  obtain ⟨n, rfl⟩ : ∃ n : Nat, z = n := ⟨z.toNat, by omega⟩
  rw [atI_nat]; rfl
def setO (o : Option O) (i v : D) : Option O := match o with
  | some (.lst xs) => match i with
    | .int z => match ixN xs.length z with
      | some j => some (.lst (xs.set j v))
      | none => none
    | _ => none
  | some (.dic kvs) => match keyD i with
    | some q => if kvs.length < sizeLine then some (.dic (putA kvs q v)) else none
    | none => none
  | _ => none
@[simp] theorem pSet_loc {k : Nat} {i v : D} : pSet (.loc k) i v s = (setO s[k]? i v).map fun o => s.set k o := by
  unfold pSet setO
  simp only
  cases s[k]? with
  | none => rfl
  | some o =>
    cases o with
    | lst xs =>
      simp only
      cases i <;> try rfl
      simp only
      cases ixN xs.length _ <;> rfl
    | dic kvs =>
      simp only
      cases keyD i <;> try rfl
      simp only
      split <;> rfl
    | ins c fs => rfl
@[simp] theorem setO_lst {xs : List D} {z : Int} {v : D} : setO (some (.lst xs)) (.int z) v = (ixN xs.length z).map fun j => .lst (xs.set j v) := by
  unfold setO
  simp only
  cases ixN xs.length z <;> rfl
@[simp] theorem setO_str {kvs : List (Key × D)} {x : Str} {v : D} : setO (some (.dic kvs)) (.str x) v = if kvs.length < sizeLine then some (.dic (putA kvs (.inr x) v)) else none := rfl
@[simp] theorem setO_int {kvs : List (Key × D)} {x : Int} {v : D} : setO (some (.dic kvs)) (.int x) v = if kvs.length < sizeLine then some (.dic (putA kvs (.inl x) v)) else none := rfl
theorem ixN_nat {n j : Nat} (h : j < n) : ixN n (j : Int) = some j := by
  unfold ixN
  have h1 : ¬ ((j : Int) < 0) := by omega
  simp [h1, h]
@[simp] theorem to_ofS {E : Ev} {c : Option O} {f : O → Sto} {Q : Ev → Sto → Prop} {X : Str → Sto → Prop} : (Res.ofS E (c.map f)).to Q X = (∃ o, c = some o ∧ Q E (f o)) := by
  cases c with
  | none => simp [Res.ofS]
  | some o => simp
@[simp] theorem pCmp_Eq : pCmp .Eq = pEq := rfl
@[simp] theorem pCmp_Ne : pCmp .NotEq = pNe := rfl
@[simp] theorem pCmp_Lt : pCmp .Lt = pLt := rfl
@[simp] theorem pCmp_Le : pCmp .LtE = pLe := rfl
@[simp] theorem pCmp_Gt : pCmp .Gt = pGt := rfl
@[simp] theorem pCmp_Ge : pCmp .GtE = pGe := rfl
@[simp] theorem pCmp_In : pCmp .In = pIn := rfl
@[simp] theorem pCmp_NotIn : pCmp .NotIn = pNotIn := rfl
@[simp] theorem pCmp_Is : pCmp .Is = pIs := rfl
@[simp] theorem pCmp_IsNot : pCmp .IsNot = pIsNot := rfl
@[simp] theorem pEq_int {i j : Int} : pEq (.int i) (.int j) s = some (.bl (decide (i = j)), s) := rfl
@[simp] theorem pEq_str {i j : Str} : pEq (.str i) (.str j) s = some (.bl (decide (i = j)), s) := rfl
@[simp] theorem pNe_int {i j : Int} : pNe (.int i) (.int j) s = some (.bl (!decide (i = j)), s) := rfl
@[simp] theorem pNe_str {i j : Str} : pNe (.str i) (.str j) s = some (.bl (!decide (i = j)), s) := rfl
@[simp] theorem pLt_int {i j : Int} : pLt (.int i) (.int j) s = some (.bl (decide (i < j)), s) := rfl
@[simp] theorem pLe_int {i j : Int} : pLe (.int i) (.int j) s = some (.bl (decide (i ≤ j)), s) := rfl
@[simp] theorem pGt_int {i j : Int} : pGt (.int i) (.int j) s = some (.bl (decide (j < i)), s) := rfl
@[simp] theorem pGe_int {i j : Int} : pGe (.int i) (.int j) s = some (.bl (decide (j ≤ i)), s) := rfl
@[simp] theorem pIn_loc {x : Str} {k : Nat} {kvs : List (Key × D)} (h : s[k]? = some (.dic kvs)) : pIn (.str x) (.loc k) s = some (.bl (getA kvs (.inr x)).isSome, s) := by
  unfold pIn inP
  simp only [h]
  rfl
@[simp] theorem tru_bl {b : Bool} : truD (.bl b) s = some b := rfl
@[simp] theorem tru_int {i : Int} : truD (.int i) s = some (i != 0) := rfl
@[simp] theorem tru_tup {xs : List D} : truD (.tup xs) s = some (!xs.isEmpty) := rfl
@[simp] theorem tru_ro {xs : List D} : truD (.ro xs) s = some (!xs.isEmpty) := rfl
@[simp] theorem tru_non : truD .non s = some false := rfl
@[simp] theorem mkTup_ap {ds : List D} : mkTup ds s = if ds.length ≤ sizeLine then some (.tup ds, s) else none := rfl
@[simp] theorem mkLst_ap {ds : List D} : mkLst ds s = if ds.length ≤ sizeLine then some (.loc s.length, s ++ [.lst ds]) else none := rfl
@[simp] theorem lTup_ap {ds : List D} : lTup ds = some (.tup ds) := rfl
@[simp] theorem seq_tup {xs : List D} : seqD (.tup xs) s = some xs := rfl
@[simp] theorem seq_ro {xs : List D} : seqD (.ro xs) s = some xs := rfl
def lstO : Option O → Option (List D)
  | some (.lst xs) => some xs
  | _ => none
@[simp] theorem lstO_lst {xs : List D} : lstO (some (.lst xs)) = some xs := rfl
@[simp] theorem seq_loc {k : Nat} : seqD (.loc k) s = lstO s[k]? := by
  cases h : s[k]? with
  | none => simp [seqD, lstO, h]
  | some o => cases o <;> simp [seqD, lstO, h]
@[simp] theorem lst_ro {xs : List D} : lstD (.ro xs) s = some xs := rfl
@[simp] theorem lst_loc {k : Nat} : lstD (.loc k) s = lstO s[k]? := by
  cases h : s[k]? with
  | none => simp [lstD, lstO, h]
  | some o => cases o <;> simp [lstD, lstO, h]
@[simp] theorem src_tup {xs : List D} : srcD (.tup xs) s = some (.fix xs) := rfl
@[simp] theorem src_ro {xs : List D} : srcD (.ro xs) s = some (.fix xs) := rfl
@[simp] theorem src_str {z : Str} : srcD (.str z) s = some (.fix (charsD z)) := rfl
def srcO (k : Nat) : Option O → Option Src
  | some (.lst _) => some (.lst k)
  | _ => none
@[simp] theorem srcO_lst {k : Nat} {xs : List D} : srcO k (some (.lst xs)) = some (.lst k) := rfl
@[simp] theorem src_loc {k : Nat} : srcD (.loc k) s = srcO k s[k]? := by
  cases h : s[k]? with
  | none => simp [srcD, srcO, h]
  | some o => cases o <;> simp [srcD, srcO, h]
@[simp] theorem pLen_tup {xs : List D} : pLen [.tup xs] s = some (.int xs.length, s) := rfl
@[simp] theorem pLen_ro {xs : List D} : pLen [.ro xs] s = some (.int xs.length, s) := rfl
def lenO : Option O → Option Int
  | some (.lst xs) => some xs.length
  | some (.dic xs) => some xs.length
  | _ => none
@[simp] theorem lenO_lst {xs : List D} : lenO (some (.lst xs)) = some (xs.length : Int) := rfl
@[simp] theorem lenO_dic {xs : List (Key × D)} : lenO (some (.dic xs)) = some (xs.length : Int) := rfl
@[simp] theorem pLen_loc {k : Nat} : pLen [.loc k] s = (lenO s[k]?).map fun n => (.int n, s) := by
  have e : pLen [.loc k] s = match s[k]? with
    | some (.lst xs) => some (.int xs.length, s)
    | some (.dic kvs) => some (.int kvs.length, s)
    | _ => none := rfl
  rw [e]
  unfold lenO
  cases s[k]? with
  | none => rfl
  | some o => cases o <;> rfl
@[simp] theorem pAbs_int {i : Int} : pAbs [.int i] s = some (.int (if i < 0 then -i else i), s) := rfl
@[simp] theorem pIntC_int {i : Int} : pIntC [.int i] s = some (.int i, s) := rfl
@[simp] theorem pIntC_bl {b : Bool} : pIntC [.bl b] s = some (.int (if b = true then 1 else 0), s) := rfl
@[simp] theorem ty_non : tyD .non s = some "NoneType" := rfl
@[simp] theorem ty_bl {b : Bool} : tyD (.bl b) s = some "bool" := rfl
@[simp] theorem ty_int {b : Int} : tyD (.int b) s = some "int" := rfl
@[simp] theorem ty_str {b : Str} : tyD (.str b) s = some "str" := rfl
@[simp] theorem ty_tup {b : List D} : tyD (.tup b) s = some "tuple" := rfl
@[simp] theorem ty_ro {b : List D} : tyD (.ro b) s = some "list" := rfl
theorem isi_of {d : D} {n t : String} {b : Bool} (h : tyD d s = some t) (e : isiB t n = some b) : pIsi [d, .ty n] s = some (.bl b, s) := by
  unfold pIsi
  simp only [h, e, Option.map_some]
section
variable {d : D} {ds : List D} {a : Sto → Res (List D)} {k : Nat} {xs : List D} {kvs : List (Key × D)}
theorem meth_append (h : s[k]? = some (.lst xs)) : Res.meth "append" (.loc k) s a = (a s).bind fun ds s2 => .ofO (mAppend (.loc k) ds s2) := by
  unfold Res.meth tyD; simp only [h]; rfl
theorem meth_extend (h : s[k]? = some (.lst xs)) : Res.meth "extend" (.loc k) s a = (a s).bind fun ds s2 => .ofO (mExtend (.loc k) ds s2) := by
  unfold Res.meth tyD; simp only [h]; rfl
theorem meth_insert (h : s[k]? = some (.lst xs)) : Res.meth "insert" (.loc k) s a = (a s).bind fun ds s2 => .ofO (mInsert (.loc k) ds s2) := by
  unfold Res.meth tyD; simp only [h]; rfl
theorem meth_pop (h : s[k]? = some (.lst xs)) : Res.meth "pop" (.loc k) s a = (a s).bind fun ds s2 => .ofO (mPop (.loc k) ds s2) := by
  unfold Res.meth tyD; simp only [h]; rfl
theorem meth_get (h : s[k]? = some (.dic kvs)) : Res.meth "get" (.loc k) s a = (a s).bind fun ds s2 => .ofO (mGet (.loc k) ds s2) := by
  unfold Res.meth tyD; simp only [h]; rfl
theorem mAppend_ap (h : s[k]? = some (.lst xs)) : mAppend (.loc k) [d] s = if xs.length < sizeLine then some (.non, s.set k (.lst (xs ++ [d]))) else none := by
  unfold mAppend; simp only [h]
theorem mExtend_ap {j : Nat} {ys : List D} (h : s[k]? = some (.lst xs)) (h2 : s[j]? = some (.lst ys)) : mExtend (.loc k) [.loc j] s = if xs.length + ys.length ≤ sizeLine then some (.non, s.set k (.lst (xs ++ ys))) else none := by
  unfold mExtend; simp only [h, h2]
theorem mInsert_ap {i : Int} (h : s[k]? = some (.lst xs)) : mInsert (.loc k) [.int i, d] s = if xs.length < sizeLine ∧ 0 ≤ i ∧ fitI i = true then some (.non, s.set k (.lst (xs.take i.toNat ++ [d] ++ xs.drop i.toNat))) else none := by
  unfold mInsert; simp only [h]
theorem mGet2_str {x : Str} (h : s[k]? = some (.dic kvs)) : mGet (.loc k) [.str x, d] s = some ((getA kvs (.inr x)).getD d, s) := by
  unfold mGet; simp only [h]; rfl
end
end
/-! ### the store -/
section
variable {α : Type} {s t : List α} {n : Nat} {o : α}
@[simp] theorem get_len : (s ++ t)[s.length]? = t[0]? := by rw [List.getElem?_append_right (Nat.le_refl _), Nat.sub_self]
@[simp] theorem get_len_add : (s ++ t)[s.length + n]? = t[n]? := by rw [List.getElem?_append_right (Nat.le_add_right _ _), Nat.add_sub_cancel_left]
@[simp] theorem set_len : (s ++ t).set s.length o = s ++ t.set 0 o := by rw [List.set_append_right _ _ (Nat.le_refl _), Nat.sub_self]
@[simp] theorem set_len_add : (s ++ t).set (s.length + n) o = s ++ t.set n o := by rw [List.set_append_right _ _ (Nat.le_add_right _ _), Nat.add_sub_cancel_left]
theorem get_lt (h : n < s.length) : (s ++ t)[n]? = s[n]? := List.getElem?_append_left h
theorem set_lt (h : n < s.length) : (s ++ t).set n o = s.set n o ++ t := List.set_append_left _ _ h
end
end Y

set_option Elab.async false
set_option linter.all false
set_option maxRecDepth 100000
set_option maxHeartbeats 4000000
/-! Y18: the helpers that all laws share: the draws. -/
namespace Y
open PySem L2

def mDraw : SM :=
  (sCons (sAsg (gSb (eVar 0) (eC (.int 3))) (eBin (pBin .Add) (eBin pIx (eVar 0) (eC (.int 3))) (eC (.int 1))))
  (sCons (sIf (tOfB (eBin (pCmp .Gt) (eBin pIx (eVar 0) (eC (.int 2))) (eC (.int 0)))) (sCons (sSet 2 (eBin (pBin .Mod) (eA pIntC (aCons (eBin pIx (eVar 0) (eC (.int 2))) aNil)) (eVar 1)))
  (sCons (sAsg (gSb (eVar 0) (eC (.int 2))) (eBin (pBin .FloorDiv) (eBin pIx (eVar 0) (eC (.int 2))) (eVar 1)))
  (sCons (sRet (eVar 2))
  sNil))) sNil)
  (sCons (sSet 3 (eC (.int 0)))
  (sCons (sIf (tOfB (eBin (pCmp .Gt) (eA pLen (aCons (eBin pIx (eVar 0) (eC (.int 0))) aNil)) (eC (.int 0)))) (sCons (sSet 3 (eA pAbs (aCons (eBin pIx (eBin pIx (eVar 0) (eC (.int 0))) (eBin (pBin .Mod) (eA pIntC (aCons (eBin pIx (eVar 0) (eC (.int 1))) aNil)) (eA pLen (aCons (eBin pIx (eVar 0) (eC (.int 0))) aNil)))) aNil)))
  sNil) sNil)
  (sCons (sAsg (gSb (eVar 0) (eC (.int 1))) (eBin (pBin .Add) (eBin pIx (eVar 0) (eC (.int 1))) (eC (.int 1))))
  (sCons (sIf (tOfB (eBin (pCmp .GtE) (eVar 3) (eBin (pBin .Pow) (eC (.int 10)) (eC (.int 18))))) (sCons (sAsg (gSb (eVar 0) (eC (.int 2))) (eBin (pBin .FloorDiv) (eVar 3) (eVar 1)))
  (sCons (sRet (eBin (pBin .Mod) (eA pIntC (aCons (eVar 3) aNil)) (eVar 1)))
  sNil)) sNil)
  (sCons (sSet 4 (eBin (pBin .Mod) (eA pIntC (aCons (eBin (pBin .Add) (eBin (pBin .Mult) (eBin (pBin .Add) (eVar 3) (eC (.int 1))) (eC (.int 48271))) (eBin (pBin .Mult) (eBin pIx (eVar 0) (eC (.int 3))) (eC (.int 69621)))) aNil)) (eC (.int 2147483647))))
  (sCons (sSet 4 (eBin (pBin .Mod) (eA pIntC (aCons (eBin (pBin .Add) (eBin (pBin .Add) (eBin (pBin .Mult) (eVar 4) (eC (.int 16807))) (eBin (pBin .FloorDiv) (eVar 3) (eC (.int 97)))) (eBin pIx (eVar 0) (eC (.int 3)))) aNil)) (eC (.int 2147483629))))
  (sCons (sRet (eBin (pBin .Mod) (eBin (pBin .FloorDiv) (eVar 4) (eC (.int 11))) (eVar 1)))
  sNil)))))))))
def SV (ns : List Int) (i j : Nat) (C : Nat) (s : Sto) : Prop := ∃ p q c : Int, 0 ≤ p ∧ 0 ≤ q ∧ 0 ≤ c ∧ c ≤ C ∧ s[i]? = some (.lst [.loc j, .int p, .int q, .int c]) ∧ s[j]? = some (.lst (ns.map .int))
/-- nothing but i of what stood has changed -/
def Up (i : Nat) (s s' : Sto) : Prop := s.length ≤ s'.length ∧ ∀ k, k < s.length → k ≠ i → s'[k]? = s[k]?
theorem small_log {n m : Nat} (h : n < 2 ^ m) : n.log2 ≤ m := by
  by_cases h0 : n = 0
  · subst h0; simp
  · exact Nat.le_of_lt ((Nat.log2_lt h0).mpr h)
theorem draw_run {ns : List Int} {i j C : Nat} {s : Sto} {m : Int} (h : SV ns i j C s) (hm : 0 < m) (hl : m.natAbs.log2 < 9000) (hC : C < 2 ^ 60) :
    (mDraw [some (.loc i), some (.int m), none, none, none] s).to { rt := fun d s' => ∃ r p q c, d = .int r ∧ 0 ≤ r ∧ r < m ∧ 0 ≤ p ∧ 0 ≤ q ∧ 0 ≤ c ∧ c ≤ (C : Int) + 1 ∧ s' = s.set i (.lst [.loc j, .int p, .int q, .int c]) } := by
  obtain ⟨p, q, c, hp, hq, hc, hcC, h1, h2⟩ := h
  have hi : i < s.length := (List.getElem?_eq_some_iff.mp h1).1
  have hij : j ≠ i := fun e => by
    subst e
    rw [h1] at h2
    simp at h2
    cases ns with
    | nil => simp at h2
    | cons a b => simp at h2
  unfold mDraw
  have e0 : ixN 4 0 = some 0 := rfl
  have e1 : ixN 4 1 = some 1 := rfl
  have e2 : ixN 4 2 = some 2 := rfl
  have e3 : ixN 4 3 = some 3 := rfl
  have g : ∀ o, (s.set i o)[i]? = some o := fun o => by rw [List.getElem?_set_self hi]
  have gj : ∀ o, (s.set i o)[j]? = some (.lst (ns.map .int)) := fun o => by rw [List.getElem?_set_ne (Ne.symm hij)]; exact h2
  simp [h1, h2, e0, e1, e2, e3, g, gj]
  refine ⟨fun h => ⟨hm, ⟨hm, hl⟩, Int.emod_nonneg _ (by omega), Int.emod_lt_of_pos _ hm, p, hp, q / m, Int.ediv_nonneg hq (by omega), c + 1, by omega, by omega, rfl⟩, fun hq0 => ⟨fun hn => ⟨hn, ?_⟩, fun hn => ?_⟩⟩
  · have hz : 0 ≤ p % (ns.length : Int) := Int.emod_nonneg _ (by omega)
    have hz2 : p % (ns.length : Int) < ns.length := Int.emod_lt_of_pos _ (by omega)
    have hlt : (p % (ns.length : Int)).toNat < ns.length := by omega
    refine ⟨.int ns[(p % (ns.length : Int)).toNat], ?_, ?_⟩
    · rw [atI_mod hz, List.getElem?_map, List.getElem?_eq_getElem hlt]; rfl
    · generalize ns[(p % (ns.length : Int)).toNat] = z
      have hcell : 0 ≤ (if z < 0 then -z else z) := by split <;> omega
      simp [g, gj, e0, e1, e2, e3]
      generalize (if z < 0 then -z else z) = cell at hcell ⊢
      refine ⟨fun h => ⟨⟨hm, hl⟩, hm, Int.emod_nonneg _ (by omega), Int.emod_lt_of_pos _ hm, p + 1, by omega, cell / m, Int.ediv_nonneg hcell (by omega), c + 1, by omega, by omega, rfl⟩, fun h => ?_⟩
      have hm1 := Int.emod_lt_of_pos ((cell + 1) * 48271 + (c + 1) * 69621) (show (0 : Int) < 2147483647 by decide)
      have hm0 := Int.emod_nonneg ((cell + 1) * 48271 + (c + 1) * 69621) (show (2147483647 : Int) ≠ 0 by decide)
      generalize ((cell + 1) * 48271 + (c + 1) * 69621) % 2147483647 = y at hm1 hm0 ⊢
      have l1 : (cell + 1).natAbs.log2 ≤ 60 := small_log (by omega)
      have l2 : (c + 1).natAbs.log2 ≤ 61 := small_log (by omega)
      have l3 : y.natAbs.log2 ≤ 60 := small_log (by omega)
      have k1 : Nat.log2 48271 ≤ 20 := by decide +kernel
      have k2 : Nat.log2 69621 ≤ 20 := by decide +kernel
      have k3 : Nat.log2 16807 ≤ 20 := by decide +kernel
      have k4 : Nat.log2 97 ≤ 20 := by decide +kernel
      have k5 : Nat.log2 11 ≤ 20 := by decide +kernel
      refine ⟨by omega, by omega, by omega, by omega, by omega, hm, Int.emod_nonneg _ (by omega), Int.emod_lt_of_pos _ hm, p + 1, by omega, q, by omega, c + 1, by omega, by omega, rfl⟩
  · have hm1 := Int.emod_lt_of_pos (48271 + (c + 1) * 69621) (show (0 : Int) < 2147483647 by decide)
    have hm0 := Int.emod_nonneg (48271 + (c + 1) * 69621) (show (2147483647 : Int) ≠ 0 by decide)
    generalize (48271 + (c + 1) * 69621) % 2147483647 = y at hm1 hm0 ⊢
    have l2 : (c + 1).natAbs.log2 ≤ 61 := small_log (by omega)
    have l3 : y.natAbs.log2 ≤ 60 := small_log (by omega)
    have k0 : Nat.log2 1 ≤ 20 := by decide +kernel
    have k1 : Nat.log2 48271 ≤ 20 := by decide +kernel
    have k2 : Nat.log2 69621 ≤ 20 := by decide +kernel
    have k3 : Nat.log2 16807 ≤ 20 := by decide +kernel
    have k4 : Nat.log2 97 ≤ 20 := by decide +kernel
    have k5 : Nat.log2 11 ≤ 20 := by decide +kernel
    exact ⟨by omega, by omega, by omega, by omega, by omega, hm, Int.emod_nonneg _ (by omega), Int.emod_lt_of_pos _ hm, p + 1, by omega, q, by omega, c + 1, by omega, by omega, rfl⟩

/-! ### a call by its mirror -/
theorem callM {T : Pg} {k : Nat} {x : Str} {d : Df} {args : List D} {s : Sto} {m : SM} (h : T.defs x = some d) (hb : dB (T.ctx k) d.sx fuelD (defBody d.st) = m) : callP T (k + 1) x args s = gc s (resS (m (startE d.N args) s)) := by
  rw [callP_succ h]; unfold runB; rw [hb]
section
variable {s s' : Sto} {d : D} {Q : D → Sto → Prop} {X : Str → Sto → Prop}
theorem gc_both (h1 : Q d s') (h2 : D.cl s.length d = true → Q d (s'.take s.length)) : (gc s (.ok d s')).to Q X := by
  unfold gc
  simp only
  split
  · rename_i h
    rw [Bool.and_eq_true] at h
    exact h2 h.1
  · exact h1
theorem gc_to {r : SR} (h : r.to { nx := fun _ s' => (gc s (.ok .non s')).to Q X, rt := fun d s' => (gc s (.ok d s')).to Q X, exc := fun x _ s' => X x s' }) : (gc s (resS r)).to Q X := by
  cases r <;> first | exact h | exact h.elim
theorem gc_pure {r : SR} {d : D} (hd : D.cl s.length d = true) (h : r.to { rt := fun d' s' => d' = d ∧ ∃ t, s' = s ++ t }) : gc s (resS r) = .ok d s := by
  cases r with
  | rt d' s' =>
    obtain ⟨rfl, t, rfl⟩ := h
    exact gc_same hd
  | _ => exact h.elim
theorem eq_of_to {r : Res D} (h : r.to (fun d' s' => d' = d ∧ s' = s) NoX) : r = .ok d s := by
  cases r with
  | ok a b => obtain ⟨rfl, rfl⟩ := h; rfl
  | _ => exact h.elim
end
theorem Up.refl {i : Nat} {s : Sto} : Up i s s := ⟨Nat.le_refl _, fun _ _ _ => rfl⟩
theorem Up.trans {i : Nat} {s s' s'' : Sto} (h : Up i s s') (h' : Up i s' s'') : Up i s s'' := ⟨Nat.le_trans h.1 h'.1, fun k hk hi => (h'.2 k (Nat.lt_of_lt_of_le hk h.1) hi).trans (h.2 k hk hi)⟩
theorem Up.app {i : Nat} {s t : Sto} : Up i s (s ++ t) := ⟨by simp, fun k hk _ => get_lt hk⟩
theorem Up.set {i : Nat} {s : Sto} {o : O} : Up i s (s.set i o) := ⟨by simp, fun k _ hi => List.getElem?_set_ne (Ne.symm hi)⟩
theorem Up.setGe {i l : Nat} {s s' : Sto} {o : O} (h : Up i s s') (hl : s.length ≤ l) : Up i s (s'.set l o) := ⟨by simpa using h.1, fun k hk hi => by rw [List.getElem?_set_ne (by omega)]; exact h.2 k hk hi⟩
theorem Up.take {i : Nat} {s s' : Sto} (h : Up i s s') : Up i s (s'.take s.length) := ⟨by rw [List.length_take]; have := h.1; omega, fun k hk hi => by rw [List.getElem?_take_of_lt hk]; exact h.2 k hk hi⟩
theorem Up.get {i k : Nat} {s s' : Sto} {o : O} (h : Up i s s') (e : s[k]? = some o) (hi : k ≠ i) : s'[k]? = some o := (h.2 k (List.getElem?_eq_some_iff.mp e).1 hi).trans e
section
variable {ns : List Int} {i j C : Nat} {s s' : Sto}
theorem SV.lt (h : SV ns i j C s) : i < s.length ∧ j < s.length := by
  obtain ⟨p, q, c, _, _, _, _, h1, h2⟩ := h
  exact ⟨(List.getElem?_eq_some_iff.mp h1).1, (List.getElem?_eq_some_iff.mp h2).1⟩
theorem SV.ne (h : SV ns i j C s) : j ≠ i := by
  obtain ⟨p, q, c, _, _, _, _, h1, h2⟩ := h
  intro e
  subst e
  rw [h1] at h2
  cases ns <;> simp at h2
theorem SV.mono {C' : Nat} (h : SV ns i j C s) (hc : C ≤ C') : SV ns i j C' s := by
  obtain ⟨p, q, c, h1, h2, h3, h4, h5, h6⟩ := h
  exact ⟨p, q, c, h1, h2, h3, by omega, h5, h6⟩
theorem SV.app {t : Sto} (h : SV ns i j C s) : SV ns i j C (s ++ t) := by
  have hl := h.lt
  obtain ⟨p, q, c, h1, h2, h3, h4, h5, h6⟩ := h
  exact ⟨p, q, c, h1, h2, h3, h4, by rw [get_lt hl.1]; exact h5, by rw [get_lt hl.2]; exact h6⟩
theorem SV.set {l : Nat} {o : O} (h : SV ns i j C s) (hi : l ≠ i) (hj : l ≠ j) : SV ns i j C (s.set l o) := by
  obtain ⟨p, q, c, h1, h2, h3, h4, h5, h6⟩ := h
  exact ⟨p, q, c, h1, h2, h3, h4, by rw [List.getElem?_set_ne hi]; exact h5, by rw [List.getElem?_set_ne hj]; exact h6⟩
theorem SV.take {n : Nat} (h : SV ns i j C s) (hi : i < n) (hj : j < n) : SV ns i j C (s.take n) := by
  obtain ⟨p, q, c, h1, h2, h3, h4, h5, h6⟩ := h
  exact ⟨p, q, c, h1, h2, h3, h4, by rw [List.getElem?_take_of_lt hi]; exact h5, by rw [List.getElem?_take_of_lt hj]; exact h6⟩
end
/-! ### the helpers -/
def mStart : SM :=
  (sCons (sRet (eA mkLst (aCons (eAlloc (fList (lOfE (eVar 0)))) (aCons (eC (.int 0)) (aCons (eC (.int 0)) (aCons (eC (.int 0)) aNil))))))
  sNil)
def mOneOf (T : Pg) (k : Nat) : SM :=
  (sCons (sRet (eBin pIx (eVar 1) (eCall 2 (callP T k "_law_draw") (aCons (eVar 0) (aCons (eA pLen (aCons (eVar 1) aNil)) aNil)))))
  sNil)
def mShuf (T : Pg) (k : Nat) : SM :=
  (sCons (sSet 2 (eA mkLst aNil))
  (sCons (sFor (iVal (eVar 1)) (gNm 3) (sCons (sExpr (eMeth "insert" (eVar 2) (aCons (eCall 2 (callP T k "_law_draw") (aCons (eVar 0) (aCons (eBin (pBin .Add) (eA pLen (aCons (eVar 2) aNil)) (eC (.int 1))) aNil))) (aCons (eVar 3) aNil))))
  sNil))
  (sCons (sRet (eVar 2))
  sNil)))
def mIsInt : SM :=
  (sCons (sRet (eAn (eA pIsi (aCons (eVar 0) (aCons (eC (.ty "int")) aNil))) (eNt (eA pIsi (aCons (eVar 0) (aCons (eC (.ty "bool")) aNil))))))
  sNil)
def mSame (T : Pg) (k : Nat) : SM :=
  (sCons (sIf (tOfT (eA pIsi (aCons (eVar 1) (aCons (eC (.ty "tuple")) aNil)))) (sCons (sIf (tOr' (tNt (tOfT (eA pIsi (aCons (eVar 0) (aCons (eC (.ty "tuple")) aNil))))) (tOfB (eBin (pCmp .NotEq) (eA pLen (aCons (eVar 0) aNil)) (eA pLen (aCons (eVar 1) aNil))))) (sCons (sRet (eC (.bl false)))
  sNil) sNil)
  (sCons (sRet (eL lAll (fLc (iRng1' (aCons (eA pLen (aCons (eVar 1) aNil)) aNil)) (gNm 2) tYesM (eCall 2 (callP T k "_law_same") (aCons (eBin pIx (eVar 0) (eVar 2)) (aCons (eBin pIx (eVar 1) (eVar 2)) aNil))) [2])))
  sNil)) sNil)
  (sCons (sIf (tOfT (eA pIsi (aCons (eVar 1) (aCons (eC (.ty "str")) aNil)))) (sCons (sRet (eAn (eA pIsi (aCons (eVar 0) (aCons (eC (.ty "str")) aNil))) (eBin (pCmp .Eq) (eVar 0) (eVar 1))))
  sNil) sNil)
  (sCons (sRet (eAn (eCall 1 (callP T k "_law_is_int") (aCons (eVar 0) aNil)) (eBin (pCmp .Eq) (eVar 0) (eVar 1))))
  sNil)))
structure Hlp (T : Pg) : Prop where
  start : ∀ k a s, callP T (k + 1) "_law_start" [a] s = gc s (resS (mStart [some a] s))
  draw : ∀ k a b s, callP T (k + 1) "_law_draw" [a, b] s = gc s (resS (mDraw [some a, some b, none, none, none] s))
  isInt : ∀ k a s, callP T (k + 1) "_law_is_int" [a] s = gc s (resS (mIsInt [some a] s))
  same : ∀ k a b s, callP T (k + 1) "_law_same" [a, b] s = gc s (resS (mSame T k [some a, some b, none] s))
def OneOf (T : Pg) : Prop := ∀ k a b s, callP T (k + 1) "_law_one_of" [a, b] s = gc s (resS (mOneOf T k [some a, some b] s))
def Shuf (T : Pg) : Prop := ∀ k a b s, callP T (k + 1) "_law_shuffled" [a, b] s = gc s (resS (mShuf T k [some a, some b, none, none] s))
section
variable {T : Pg} (G : Hlp T) {ns : List Int} {i j C : Nat} {s : Sto} {k : Nat}
include G
theorem Hlp.start_ok (ds : List D) (hl : ds.length ≤ sizeLine) : callP T (k + 1) "_law_start" [.ro ds] [] = .ok (.loc 1) [.lst ds, .lst [.loc 0, .int 0, .int 0, .int 0]] := by
  rw [G.start]
  apply eq_of_to
  apply gc_to
  unfold mStart
  simp [gc, D.cl]
  decide
theorem Hlp.draw_ok {m : Int} (h : SV ns i j C s) (hm : 0 < m) (hl : m.natAbs.log2 < 9000) (hC : C < 2 ^ 60) :
    (callP T (k + 1) "_law_draw" [.loc i, .int m] s).to (fun d s' => ∃ r, d = .int r ∧ 0 ≤ r ∧ r < m ∧ SV ns i j (C + 1) s' ∧ Up i s s' ∧ s'.length = s.length) NoX := by
  rw [G.draw]
  apply gc_to
  have hlt := h.lt
  have hne := h.ne
  refine SR.to_mono (draw_run h hm hl hC) (fun _ _ z => z.elim) (fun d s' z => ?_) (fun _ _ z => z.elim) (fun _ _ z => z.elim) (fun _ _ _ z => z.elim)
  obtain ⟨r, p, q, c, rfl, h1, h2, h3, h4, h5, h6, rfl⟩ := z
  obtain ⟨_, _, _, _, _, _, _, _, e2⟩ := h
  have := gc_set (s := s) (t := []) (d := .int r) (k := i) (o := .lst [.loc j, .int p, .int q, .int c]) rfl (by simp [O.cl, D.clL, D.cl, hlt.2])
  rw [List.append_nil] at this
  show (gc s (.ok (.int r) (s.set i (.lst [.loc j, .int p, .int q, .int c])))).to _ _
  rw [this]
  refine ⟨r, rfl, h1, h2, ⟨p, q, c, h3, h4, h5, by omega, List.getElem?_set_self hlt.1, ?_⟩, Up.set, by simp⟩
  rw [List.getElem?_set_ne (Ne.symm hne)]; exact e2
/-- a draw ahead of what follows -/
theorem Hlp.draw_then {m : Int} {Q : D → Sto → Prop} {X : Str → Sto → Prop} (h : SV ns i j C s) (hm : 0 < m) (hl : m.natAbs.log2 < 9000) (hC : C < 2 ^ 60)
    (q : ∀ r s', 0 ≤ r → r < m → SV ns i j (C + 1) s' → Up i s s' → s'.length = s.length → Q (.int r) s') : (callP T (k + 1) "_law_draw" [.loc i, .int m] s).to Q X :=
  Res.to_imp (G.draw_ok h hm hl hC) fun d s' ⟨r, e, h1, h2, h3, h4, h5⟩ => e ▸ q r s' h1 h2 h3 h4 h5
theorem Hlp.one_of (O : OneOf T) {l : Nat} {xs : List D} {Q : D → Sto → Prop} {X : Str → Sto → Prop} (h : SV ns i j C s) (hl : s[l]? = some (.lst xs)) (hli : l ≠ i) (h0 : 0 < xs.length) (hz : xs.length < 2 ^ 60) (hC : C < 2 ^ 60)
    (q : ∀ (n : Nat) (d : D) (s' : Sto), xs[n]? = some d → SV ns i j (C + 1) s' → Up i s s' → s'.length = s.length → Q d s') : (callP T (k + 2) "_law_one_of" [.loc i, .loc l] s).to Q X := by
  rw [O]
  apply gc_to
  unfold mOneOf
  simp [hl]
  refine G.draw_then h (by omega) (Nat.lt_of_le_of_lt (small_log (m := 60) (by omega)) (by decide)) hC fun r s' h1 h2 h3 h4 h5 => ?_
  have hl' := h4.get hl hli
  simp [hl', atI_mod h1]
  have hr : r.toNat < xs.length := by omega
  refine ⟨xs[r.toNat], List.getElem?_eq_getElem hr, ?_⟩
  refine gc_both (q r.toNat _ _ (List.getElem?_eq_getElem hr) h3 h4 h5) fun _ => ?_
  rw [← h5, List.take_length]
  exact q r.toNat _ _ (List.getElem?_eq_getElem hr) h3 h4 h5
theorem Hlp.isInt_ok {z : Int} : callP T (k + 1) "_law_is_int" [.int z] s = .ok (.bl true) s := by
  rw [G.isInt]
  refine gc_pure rfl ?_
  unfold mIsInt
  have e1 : pIsi [.int z, .ty "int"] s = some (.bl true, s) := isi_of rfl (by decide +kernel)
  have e2 : pIsi [.int z, .ty "bool"] s = some (.bl false, s) := isi_of rfl (by decide +kernel)
  simp [e1, e2]
end
def datB : Nat → D → Bool
  | _, .int _ => true
  | _, .str _ => true
  | n + 1, .tup xs => decide (xs.length ≤ sizeLine) && xs.all (datB n)
  | _, _ => false
theorem atI_get {α : Type} {xs : List α} {j : Nat} {i : Int} (h : i = j) : atI xs i = xs[j]? := by subst h; exact atI_nat
theorem blsD_true {α : Type} : ∀ l : List α, blsD (l.map fun _ => .bl true) = some (l.map fun _ => true)
  | [] => rfl
  | a :: l => by rw [List.map_cons, blsD, blsD_true l]; rfl
theorem szEq : sizeLine = 16777216 := by decide +kernel
section
variable {T : Pg} (G : Hlp T)
include G
theorem Hlp.same_ok : ∀ (n k : Nat) (d : D) (s : Sto), datB n d = true → callP T (n + k + 2) "_law_same" [d, d] s = .ok (.bl true) s := by
  intro n
  induction n with
  | zero =>
    intro k d s h
    rw [show 0 + k + 2 = (k + 1) + 1 by omega, G.same]
    refine gc_pure rfl ?_
    unfold mSame
    cases d with
    | int z =>
      have e1 : pIsi [.int z, .ty "tuple"] s = some (.bl false, s) := isi_of rfl (by decide +kernel)
      have e2 : pIsi [.int z, .ty "str"] s = some (.bl false, s) := isi_of rfl (by decide +kernel)
      simp [e1, e2, G.isInt_ok]
    | str z =>
      have e1 : pIsi [.str z, .ty "tuple"] s = some (.bl false, s) := isi_of rfl (by decide +kernel)
      have e2 : pIsi [.str z, .ty "str"] s = some (.bl true, s) := isi_of rfl (by decide +kernel)
      simp [e1, e2]
    | _ => simp [datB] at h
  | succ n ih =>
    intro k d s h
    rw [show n + 1 + k + 2 = (n + k + 2) + 1 by omega, G.same]
    refine gc_pure rfl ?_
    unfold mSame
    cases d with
    | int z =>
      have e1 : pIsi [.int z, .ty "tuple"] s = some (.bl false, s) := isi_of rfl (by decide +kernel)
      have e2 : pIsi [.int z, .ty "str"] s = some (.bl false, s) := isi_of rfl (by decide +kernel)
      simp [e1, e2, G.isInt_ok]
    | str z =>
      have e1 : pIsi [.str z, .ty "tuple"] s = some (.bl false, s) := isi_of rfl (by decide +kernel)
      have e2 : pIsi [.str z, .ty "str"] s = some (.bl true, s) := isi_of rfl (by decide +kernel)
      simp [e1, e2]
    | tup xs =>
      have e1 : pIsi [.tup xs, .ty "tuple"] s = some (.bl true, s) := isi_of rfl (by decide +kernel)
      simp only [datB, Bool.and_eq_true, decide_eq_true_eq, List.all_eq_true] at h
      obtain ⟨hz, ha⟩ := h
      have hz' : xs.length ≤ 16777216 := by rw [szEq] at hz; exact hz
      simp [e1]
      refine ⟨fitI_iff.mpr (by omega), ?_⟩
      rw [compFix_map (f := fun _ => some (.bl true)) (by simpa [rngD] using hz)]
      · simp [rngD, lAll, Function.comp_def, blsD_true, Res.ofL]
      · intro d hd
        simp [rngD] at hd
        obtain ⟨a, ha1, rfl⟩ := hd
        unfold turnC
        have hm := List.getElem_mem ha1
        simp [noX, atI_nat, ha1, Res.ofO, ih k _ s (ha _ hm)]
    | _ => simp [datB] at h
end
end Y

set_option Elab.async false
set_option linter.all false
set_option maxRecDepth 100000
set_option maxHeartbeats 4000000
/-! Y19: shuffled. -/
namespace Y
open PySem L2
section
variable {T : Pg} (G : Hlp T) {ns : List Int} {i j C : Nat} {s : Sto} {k : Nat}
include G
theorem Hlp.shuf (O : Shuf T) {l : Nat} {xs : List D} {Q : D → Sto → Prop} {X : Str → Sto → Prop} (h : SV ns i j C s) (hl : s[l]? = some (.lst xs)) (hli : l ≠ i) (hz : xs.length < 1000) (hC : C < 2 ^ 50)
    (q : ∀ (m : Nat) (ys : List D) (s' : Sto), s'[m]? = some (.lst ys) → ys.Perm xs → s.length ≤ m → SV ns i j (C + xs.length) s' → Up i s s' → Q (.loc m) s') : (callP T (k + 2) "_law_shuffled" [.loc i, .loc l] s).to Q X := by
  rw [O]
  apply gc_to
  unfold mShuf
  have hlt := h.lt
  have hll := (List.getElem?_eq_some_iff.mp hl).1
  simp [get_lt hll, hl]
  refine forLst (xs := xs) (fun n E s1 => ∃ o ys, E = [some (.loc i), some (.loc l), some (.loc s.length), o] ∧ s1[s.length]? = some (.lst ys) ∧ ys.Perm (xs.take n) ∧ SV ns i j (C + n) s1 ∧ Up i s s1 ∧ s1.length = s.length + 1) (by unfold fuelMax; omega) ?_ ?_ ?_ ?_
  · rintro n E s1 ⟨o, ys, rfl, h1, h2, h3, h4, h5⟩
    exact h4.get hl hli
  · exact ⟨_, [], rfl, by simp, by simp, h.app, Up.app, by simp⟩
  · rintro n d E s1 hd ⟨o, ys, rfl, h1, h2, h3, h4, h5⟩
    have hn : n < xs.length := (List.getElem?_eq_some_iff.mp hd).1
    have hyl : ys.length = n := by rw [h2.length_eq, List.length_take]; omega
    simp [meth_insert h1, h1]
    refine G.draw_then h3 (by omega) (Nat.lt_of_le_of_lt (small_log (m := 60) (by omega)) (by decide)) (by omega) fun r s2 r1 r2 r3 r4 r5 => ?_
    have hne : s.length ≠ i := by omega
    have g := r4.get h1 hne
    have hr : r ≤ ys.length := by omega
    simp [mInsert_ap g]
    have hz2 : ys.length < sizeLine := by rw [szEq]; omega
    refine ⟨⟨hz2, r1, fitI_iff.mpr (by omega)⟩, ?_⟩
    have hs2 : s.length < s2.length := by omega
    refine ⟨_, List.getElem?_set_self hs2, ?_, ?_, ?_, by simp [r5, h5]⟩
    · have p1 : (ys.take r.toNat ++ d :: ys.drop r.toNat).Perm (d :: ys) := by
        have := List.perm_middle (a := d) (l₁ := ys.take r.toNat) (l₂ := ys.drop r.toNat)
        rw [List.take_append_drop] at this
        exact this
      rw [List.take_add_one, hd]
      refine p1.trans ?_
      exact ((h2.cons d).trans (List.perm_append_singleton d _).symm)
    · exact (r3.set (by omega) (by omega))
    · exact (h4.trans r4).setGe (Nat.le_refl _)
  · rintro E s1 ⟨o, ys, rfl, h1, h2, h3, h4, h5⟩
    simp
    rw [List.take_length] at h2
    exact gc_both (q _ ys _ h1 h2 (Nat.le_refl _) h3 h4) fun hc => by simp [D.cl] at hc
end
end Y

set_option Elab.async false
set_option linter.all false
set_option maxRecDepth 100000
set_option maxHeartbeats 4000000
/-! Y20: dicts as lists, sorted texts, loops over sequences. -/
namespace Y
open PySem L2
section
variable {κ α : Type} [DecidableEq κ]
@[simp] theorem getA_nil {k : κ} : getA ([] : List (κ × α)) k = none := rfl
theorem getA_cons {k k' : κ} {v : α} {r : List (κ × α)} : getA ((k', v) :: r) k = if k' = k then some v else getA r k := by
  unfold getA
  rw [List.find?_cons]
  by_cases h : k' = k
  · simp [h]
  · simp [h]
theorem getA_append {a b : List (κ × α)} {k : κ} : getA (a ++ b) k = (getA a k).or (getA b k) := by
  induction a with
  | nil => simp
  | cons p r ih =>
    obtain ⟨k', v⟩ := p
    rw [List.cons_append, getA_cons, getA_cons, ih]
    by_cases h : k' = k <;> simp [h]
theorem getA_none {a : List (κ × α)} {k : κ} : getA a k = none ↔ k ∉ a.map (·.1) := by
  induction a with
  | nil => simp
  | cons p r ih =>
    obtain ⟨k', v⟩ := p
    rw [getA_cons]
    by_cases h : k' = k
    · simp [h]
    · simp only [h, if_false, ih, List.map_cons, List.mem_cons, not_or]
      exact ⟨fun z => ⟨fun e => h e.symm, z⟩, fun z => z.2⟩
theorem any_key {a : List (κ × α)} {k : κ} : (a.any fun kv => decide (kv.1 = k)) = true ↔ k ∈ a.map (·.1) := by
  simp only [List.any_eq_true, decide_eq_true_eq, List.mem_map]
theorem getA_map {a : List (κ × α)} {k k' : κ} {v : α} : getA (a.map fun kv => if kv.1 = k then (kv.1, v) else kv) k' = if k = k' ∧ k ∈ a.map (·.1) then some v else getA a k' := by
  induction a with
  | nil => simp
  | cons p r ih =>
    obtain ⟨j, u⟩ := p
    simp only [List.map_cons]
    by_cases h : j = k
    · subst h
      simp only [if_true]
      rw [getA_cons, getA_cons, ih]
      by_cases h2 : j = k'
      · simp [h2]
      · simp [h2]
    · simp only [h, if_false]
      rw [getA_cons, getA_cons, ih]
      by_cases h2 : j = k'
      · subst h2
        simp [Ne.symm h]
      · by_cases h3 : k = k'
        · subst h3
          rw [if_neg h, if_neg h]
          by_cases hk : k ∈ r.map (·.1)
          · rw [if_pos ⟨rfl, hk⟩, if_pos ⟨rfl, List.mem_cons_of_mem _ hk⟩]
          · rw [if_neg (fun z => hk z.2), if_neg (fun z => (List.mem_cons.mp z.2).elim (fun e => h e.symm) hk)]
        · simp [h2, h3]
theorem getA_putA {a : List (κ × α)} {k k' : κ} {v : α} : getA (putA a k v) k' = if k = k' then some v else getA a k' := by
  unfold putA
  by_cases h : k ∈ a.map (·.1)
  · rw [if_pos (any_key.mpr h), getA_map]
    by_cases h2 : k = k' <;> simp [h2] 
    · intro h3; subst h2; simp at h; exact absurd h (by simpa using h3)
  · rw [if_neg (fun z => h (any_key.mp z)), getA_append, getA_cons]
    by_cases h2 : k = k'
    · subst h2
      rw [getA_none.mpr h]; simp
    · simp [h2]
theorem keys_putA {a : List (κ × α)} {k : κ} {v : α} : (putA a k v).map (·.1) = if k ∈ a.map (·.1) then a.map (·.1) else a.map (·.1) ++ [k] := by
  unfold putA
  by_cases h : k ∈ a.map (·.1)
  · rw [if_pos (any_key.mpr h), if_pos h, List.map_map]
    apply List.map_congr_left
    intro p _
    simp only [Function.comp]
    split <;> rfl
  · rw [if_neg (fun z => h (any_key.mp z)), if_neg h]; simp
theorem nodup_putA {a : List (κ × α)} {k : κ} {v : α} (h : (a.map (·.1)).Nodup) : ((putA a k v).map (·.1)).Nodup := by
  rw [keys_putA]
  split
  · exact h
  · rename_i hk
    rw [List.nodup_append]
    exact ⟨h, by simp, fun x hx y hy => by simp at hy; subst hy; exact fun e => hk (e ▸ hx)⟩
theorem mem_getA {a : List (κ × α)} (h : (a.map (·.1)).Nodup) {k : κ} {v : α} : (k, v) ∈ a ↔ getA a k = some v := by
  induction a with
  | nil => simp
  | cons p r ih =>
    obtain ⟨j, u⟩ := p
    rw [List.map_cons, List.nodup_cons] at h
    rw [getA_cons, List.mem_cons]
    by_cases e : j = k
    · subst e
      simp only [if_true, Option.some.injEq, Prod.mk.injEq, true_and]
      constructor
      · rintro (z | z)
        · exact z.symm
        · exact absurd (List.mem_map.mpr ⟨_, z, rfl⟩) h.1
      · exact fun z => .inl z.symm
    · simp only [e, if_false, Prod.mk.injEq, ih h.2]
      constructor
      · rintro (z | z)
        · exact absurd z.1.symm e
        · exact z
      · exact .inr
end
/-! ### dicts with texts as keys -/
def encS {α : Type} (f : α → D) (kvs : List (Str × α)) : List (Key × D) := kvs.map fun p => (.inr p.1, f p.2)
section
variable {α : Type} {f : α → D} {kvs : List (Str × α)} {x : Str}
theorem getA_enc : getA (encS f kvs) (.inr x) = (getA kvs x).map f := by
  induction kvs with
  | nil => rfl
  | cons p r ih =>
    obtain ⟨y, v⟩ := p
    unfold encS at ih ⊢
    rw [List.map_cons, getA_cons, getA_cons, ih]
    by_cases h : y = x <;> simp [h]
theorem putA_enc {v : α} : putA (encS f kvs) (.inr x) (f v) = encS f (putA kvs x v) := by
  unfold putA
  have e1 : ((encS f kvs).any fun kv => decide (kv.1 = (.inr x : Key))) = kvs.any fun kv => decide (kv.1 = x) := by
    unfold encS
    rw [List.any_map]
    congr 1
    funext p
    simp
  rw [e1]
  split
  · unfold encS
    rw [List.map_map, List.map_map]
    apply List.map_congr_left
    intro p _
    simp only [Function.comp]
    by_cases h : p.1 = x <;> simp [h]
  · unfold encS; simp
theorem encS_len : (encS f kvs).length = kvs.length := by unfold encS; simp
theorem keysS_enc : keysS (encS f kvs) = some (kvs.map (·.1)) := by
  unfold keysS encS
  induction kvs with
  | nil => rfl
  | cons p r ih => rw [List.map_cons, List.mapM_cons, ih]; rfl
end
/-! ### texts in order -/
def ltS (x y : Str) : Prop := x.cps.toList < y.cps.toList
theorem srtS_pw (l : List Str) : (srtS l).Pairwise (fun x y => x.cps.toList ≤ y.cps.toList) :=
  (List.pairwise_mergeSort (le := leS) (fun a b c h1 h2 => by simp only [leS, decide_eq_true_eq] at *; exact List.le_trans h1 h2) (fun a b => by simp only [leS, Bool.or_eq_true, decide_eq_true_eq]; exact List.le_total _ _) l).imp fun {a b} h => by simpa [leS] using h
theorem srtS_perm (l : List Str) : (srtS l).Perm l := List.mergeSort_perm l leS
theorem srtS_lt {l : List Str} (h : l.Nodup) : (srtS l).Pairwise ltS := by
  have h1 := srtS_pw l
  have h2 : (srtS l).Nodup := (srtS_perm l).nodup_iff.mpr h
  refine (h1.and h2).imp fun {a b} z => ?_
  unfold ltS
  refine Classical.byContradiction fun q => z.2 (str_eq (List.le_antisymm z.1 ?_))
  exact List.not_lt.mp q
theorem ltS_irrefl (x : Str) : ¬ ltS x x := List.lt_irrefl _
theorem ltS_asymm {x y : Str} (h : ltS x y) (h' : ltS y x) : False := List.lt_irrefl _ (List.lt_trans h h')
/-! ### sequences that are walked -/
theorem seqD_app {d : D} {s t : Sto} {xs : List D} (h : seqD d s = some xs) : seqD d (s ++ t) = some xs := by
  cases d with
  | loc k =>
    rw [seq_loc] at h ⊢
    have hk : k < s.length := by
      by_cases hk : k < s.length
      · exact hk
      · rw [List.getElem?_eq_none (by omega)] at h; cases h
    rw [get_lt hk]; exact h
  | _ => exact h
theorem lstO_eq {o : Option O} {xs : List D} (h : lstO o = some xs) : o = some (.lst xs) := by
  unfold lstO at h
  split at h
  · cases h; rfl
  · cases h
theorem forSeq {d : D} {s : Sto} {xs : List D} (h : seqD d s = some xs) : ∃ src, srcD d s = some src ∧ ∀ {P : Post} {g : GM} {b : SM} {E : Ev} (I : Nat → Ev → Sto → Prop), xs.length < fuelMax → (∀ i E s, I i E s → seqD d s = some xs) → I 0 E s →
    (∀ j d E s, xs[j]? = some d → I j E s → (g d E s).to (fun E1 s1 => (b E1 s1).to { P with nx := I (j + 1), ct := I (j + 1), bk := P.nx }) NoX) →
    (∀ E s, I xs.length E s → P.nx E s) → (forS g b src E s).to P := by
  cases d with
  | tup ys => cases h; exact ⟨_, rfl, fun I _ _ h0 ht hz => forFix I h0 ht hz⟩
  | ro ys => cases h; exact ⟨_, rfl, fun I _ _ h0 ht hz => forFix I h0 ht hz⟩
  | loc k =>
    rw [seq_loc] at h
    refine ⟨.lst k, by rw [src_loc, lstO_eq h]; rfl, fun I hl hk h0 ht hz => forLst I hl (fun i E s z => ?_) h0 ht hz⟩
    have := hk i E s z
    rw [seq_loc] at this
    exact lstO_eq this
  | _ => cases h
theorem compSeq {d : D} {s : Sto} {xs : List D} (h : seqD d s = some xs) (hl : xs.length < sizeLine) : ∃ src, srcD d s = some src ∧ ∀ {g : GM} {t : EM Bool} {e : EM D} {E0 : Ev} {f : D → Option D}, (∀ d ∈ xs, turnC g t e E0 d s = .ok (f d) s) → compS g t e E0 src s = .ok (xs.filterMap f) s := by
  cases d with
  | tup ys => cases h; exact ⟨_, rfl, fun q => compFix_map (Nat.le_of_lt hl) q⟩
  | ro ys => cases h; exact ⟨_, rfl, fun q => compFix_map (Nat.le_of_lt hl) q⟩
  | loc k =>
    rw [seq_loc] at h
    exact ⟨.lst k, by rw [src_loc, lstO_eq h]; rfl, fun q => compLst_map (lstO_eq h) hl q⟩
  | _ => cases h
end Y

set_option Elab.async false
set_option linter.all false
set_option maxRecDepth 100000
set_option maxHeartbeats 4000000
/-! Y21: forms as lists of names with numbers: their sums by names. -/
namespace Y
open PySem L2
theorem nodup_le {α : Type} [DecidableEq α] : ∀ {l m : List α}, l.Nodup → (∀ x ∈ l, x ∈ m) → l.length ≤ m.length
  | [], _, _, _ => Nat.zero_le _
  | a :: l, m, h, hs => by
    rw [List.nodup_cons] at h
    have ha := hs a List.mem_cons_self
    have := nodup_le (m := m.erase a) h.2 fun x hx => (List.mem_erase_of_ne (fun (e : x = a) => h.1 (e ▸ hx))).mpr (hs x (List.mem_cons_of_mem _ hx))
    rw [List.length_erase_of_mem ha] at this
    have h0 : 0 < m.length := List.length_pos_of_mem ha
    rw [List.length_cons]
    omega
abbrev Ps := List (Str × Int)
def pD (p : Str × Int) : D := .tup [.str p.1, .int p.2]
def fD (c : Int) (ps : Ps) : D := .tup [.int c, .tup (ps.map pD)]
def co (ps : Ps) (x : Str) : Int := (ps.map fun p => if p.1 = x then p.2 else 0).sum
@[simp] theorem co_nil {x : Str} : co [] x = 0 := rfl
theorem co_cons {p : Str × Int} {ps : Ps} {x : Str} : co (p :: ps) x = (if p.1 = x then p.2 else 0) + co ps x := by
  unfold co; rw [List.map_cons, List.sum_cons]
theorem co_append {a b : Ps} {x : Str} : co (a ++ b) x = co a x + co b x := by
  unfold co; rw [List.map_append, List.sum_append]
theorem co_mul {k : Int} {ps : Ps} {x : Str} : co (ps.map fun p => (p.1, k * p.2)) x = k * co ps x := by
  induction ps with
  | nil => simp
  | cons p r ih =>
    rw [List.map_cons, co_cons, co_cons, ih, Int.mul_add]
    by_cases h : p.1 = x <;> simp [h]
theorem co_perm {a b : Ps} (h : a.Perm b) {x : Str} : co a x = co b x := by
  induction h with
  | nil => rfl
  | cons p _ ih => rw [co_cons, co_cons, ih]
  | swap p q l => simp only [co_cons]; omega
  | trans _ _ h1 h2 => exact h1.trans h2
theorem co_none {ps : Ps} {x : Str} (h : ∀ p ∈ ps, p.1 ≠ x) : co ps x = 0 := by
  induction ps with
  | nil => rfl
  | cons p r ih => rw [co_cons, ih fun q hq => h q (List.mem_cons_of_mem _ hq), if_neg (h p List.mem_cons_self)]; rfl
theorem co_bound {B : Int} (hB : 0 ≤ B) {ps : Ps} {x : Str} (h : ∀ p ∈ ps, -B ≤ p.2 ∧ p.2 ≤ B) : -(B * ps.length) ≤ co ps x ∧ co ps x ≤ B * ps.length := by
  induction ps with
  | nil => simp
  | cons p r ih =>
    have ih := ih fun q hq => h q (List.mem_cons_of_mem _ hq)
    have hp := h p List.mem_cons_self
    rw [co_cons, List.length_cons]
    have e : B * ((r.length + 1 : Nat) : Int) = B * r.length + B := by
      rw [Int.natCast_add, Int.mul_add]; simp
    rw [e]
    split <;> omega
def addP (acc : Ps) (p : Str × Int) : Ps := putA acc p.1 ((getA acc p.1).getD 0 + p.2)
def sumsP (ps : Ps) : Ps := ps.foldl addP []
theorem sumsP_snoc {ps : Ps} {p : Str × Int} : sumsP (ps ++ [p]) = addP (sumsP ps) p := by
  unfold sumsP; rw [List.foldl_append]; rfl
theorem sumsP_take {ps : Ps} {n : Nat} {p : Str × Int} (h : ps[n]? = some p) : sumsP (ps.take (n + 1)) = addP (sumsP (ps.take n)) p := by
  rw [List.take_add_one, h]; exact sumsP_snoc
theorem fold_inv (f : Ps → Prop) (h : ∀ acc p, f acc → f (addP acc p)) : ∀ (ps acc : Ps), f acc → f (ps.foldl addP acc)
  | [], _, z => z
  | p :: ps, acc, z => fold_inv f h ps _ (h acc p z)
theorem sumsP_nodup (ps : Ps) : ((sumsP ps).map (·.1)).Nodup := fold_inv (fun a => (a.map (·.1)).Nodup) (fun _ _ z => nodup_putA z) ps [] (by simp)
theorem sumsP_get : ∀ (ps acc : Ps) (x : Str), (getA (ps.foldl addP acc) x).getD 0 = (getA acc x).getD 0 + co ps x
  | [], acc, x => by simp
  | p :: ps, acc, x => by
    rw [List.foldl_cons, sumsP_get ps, co_cons]
    unfold addP
    rw [getA_putA]
    by_cases h : p.1 = x
    · subst h; simp; omega
    · simp [h]
theorem sumsP_co (ps : Ps) (x : Str) : (getA (sumsP ps) x).getD 0 = co ps x := by
  unfold sumsP; rw [sumsP_get]; simp
theorem sumsP_keys : ∀ (ps acc : Ps) (x : Str), x ∈ (ps.foldl addP acc).map (·.1) → x ∈ acc.map (·.1) ∨ ∃ p ∈ ps, p.1 = x
  | [], acc, x, h => .inl h
  | p :: ps, acc, x, h => by
    rcases sumsP_keys ps _ x h with z | ⟨q, hq, e⟩
    · unfold addP at z
      rw [keys_putA] at z
      split at z
      · exact .inl z
      · rcases List.mem_append.mp z with z | z
        · exact .inl z
        · exact .inr ⟨p, List.mem_cons_self, (List.mem_singleton.mp z).symm⟩
    · exact .inr ⟨q, List.mem_cons_of_mem _ hq, e⟩
theorem sumsP_len {ps : Ps} {NM : List Str} (h : ∀ p ∈ ps, p.1 ∈ NM) : (sumsP ps).length ≤ NM.length := by
  have := nodup_le (sumsP_nodup ps) (m := NM) fun x hx => by
    rcases sumsP_keys ps [] x hx with z | ⟨p, hp, e⟩
    · simp at z
    · exact e ▸ h p hp
  rwa [List.length_map] at this
def keepN (kvs : Ps) (x : Str) : Option (Str × Int) := (getA kvs x).bind fun n => if n = 0 then none else some (x, n)
def formL (ps : Ps) : Ps := (srtS ((sumsP ps).map (·.1))).filterMap (keepN (sumsP ps))
structure Canon (f : Str → Int) (l : Ps) : Prop where
  srt : l.Pairwise (fun a b => ltS a.1 b.1)
  mem : ∀ x n, (x, n) ∈ l ↔ n = f x ∧ n ≠ 0
theorem canon_uniq {f : Str → Int} {l m : Ps} (h : Canon f l) (h' : Canon f m) : l = m := by
  have nd : ∀ {l : Ps}, l.Pairwise (fun a b => ltS a.1 b.1) → l.Nodup := fun hl => hl.imp fun {a b} z e => by subst e; exact ltS_irrefl _ z
  have hp : l.Perm m := (List.perm_ext_iff_of_nodup (nd h.srt) (nd h'.srt)).mpr fun ⟨x, n⟩ => by rw [h.mem, h'.mem]
  exact List.Perm.eq_of_pairwise (le := fun a b => ltS a.1 b.1) (fun a b _ _ x y => (ltS_asymm x y).elim) h.srt h'.srt hp
theorem formL_canon (ps : Ps) : Canon (co ps) (formL ps) := by
  have key : ∀ x p, keepN (sumsP ps) x = some p ↔ getA (sumsP ps) x = some p.2 ∧ p.2 ≠ 0 ∧ p.1 = x := fun x p => by
    unfold keepN
    cases getA (sumsP ps) x with
    | none => simp
    | some n =>
      simp only [Option.bind_some]
      by_cases h : n = 0
      · subst h; simp; intro a b; exact absurd a.symm b
      · simp only [h, if_false, Option.some.injEq]
        constructor
        · rintro rfl; exact ⟨rfl, h, rfl⟩
        · rintro ⟨rfl, _, rfl⟩; rfl
  refine ⟨?_, fun x n => ?_⟩
  · unfold formL
    rw [List.pairwise_filterMap]
    refine (srtS_lt (sumsP_nodup ps)).imp fun {a b} hab p hp q hq => ?_
    rw [((key a p).mp hp).2.2, ((key b q).mp hq).2.2]
    exact hab
  · unfold formL
    rw [List.mem_filterMap]
    constructor
    · rintro ⟨y, _, hk⟩
      obtain ⟨h1, h2, h3⟩ := (key y (x, n)).mp hk
      simp only at h1 h2 h3
      subst h3
      rw [← sumsP_co, h1]
      exact ⟨rfl, h2⟩
    · rintro ⟨h1, h2⟩
      rw [← sumsP_co] at h1
      cases e : getA (sumsP ps) x with
      | none => rw [e] at h1; exact absurd h1 h2
      | some m =>
        rw [e] at h1
        simp at h1
        subst h1
        refine ⟨x, (srtS_perm _).mem_iff.mpr (List.mem_map.mpr ⟨(x, n), (mem_getA (sumsP_nodup ps)).mpr e, rfl⟩), (key x (x, n)).mpr ⟨e, h2, rfl⟩⟩
theorem formL_congr {a b : Ps} (h : ∀ x, co a x = co b x) : formL a = formL b :=
  canon_uniq (formL_canon a) ⟨(formL_canon b).srt, fun x n => by rw [(formL_canon b).mem, h]⟩
theorem co_canon {f : Str → Int} : ∀ {l : Ps}, Canon f l → ∀ x, co l x = f x := by
  intro l h x
  by_cases hx : f x = 0
  · rw [hx]
    refine co_none fun p hp e => ?_
    have := (h.mem p.1 p.2).mp hp
    rw [e, hx] at this
    exact this.2 this.1
  · have hm := (h.mem x (f x)).mpr ⟨rfl, hx⟩
    obtain ⟨a, b, rfl⟩ := List.append_of_mem hm
    rw [co_append, co_cons]
    have hs := h.srt
    rw [List.pairwise_append, List.pairwise_cons] at hs
    rw [co_none fun p hp e => ltS_irrefl x (by have := hs.2.2 p hp _ List.mem_cons_self; rwa [e] at this), co_none fun p hp e => ltS_irrefl x (by have := hs.2.1.1 p hp; rwa [e] at this)]
    simp
@[simp] theorem co_formL {ps : Ps} {x : Str} : co (formL ps) x = co ps x := co_canon (formL_canon ps) x
theorem formL_names {ps : Ps} {NM : List Str} (h : ∀ p ∈ ps, p.1 ∈ NM) : ∀ p ∈ formL ps, p.1 ∈ NM := fun p hp => by
  have := ((formL_canon ps).mem p.1 p.2).mp hp
  refine Classical.byContradiction fun z => this.2 (this.1.trans (co_none fun q hq e => z (e ▸ h q hq)))
theorem formL_len {ps : Ps} {NM : List Str} (h : ∀ p ∈ ps, p.1 ∈ NM) : (formL ps).length ≤ NM.length := by
  refine Nat.le_trans (List.length_filterMap_le _ _) ?_
  rw [srtS_len, List.length_map]
  exact sumsP_len h
theorem formL_bound {B : Int} (hB : 0 ≤ B) {ps : Ps} (h : ∀ p ∈ ps, -B ≤ p.2 ∧ p.2 ≤ B) : ∀ p ∈ formL ps, -(B * ps.length) ≤ p.2 ∧ p.2 ≤ B * ps.length := fun p hp => by
  rw [(((formL_canon ps).mem p.1 p.2).mp hp).1]
  exact co_bound hB h
theorem formL_mul {k : Int} (hk : k ≠ 0) (ps : Ps) : (formL ps).map (fun p => (p.1, k * p.2)) = formL (ps.map fun p => (p.1, k * p.2)) := by
  refine canon_uniq (f := fun x => k * co ps x) ⟨?_, fun x n => ?_⟩ ⟨(formL_canon _).srt, fun x n => by rw [(formL_canon _).mem, co_mul]⟩
  · rw [List.pairwise_map]; exact (formL_canon ps).srt
  · rw [List.mem_map]
    constructor
    · rintro ⟨⟨y, m⟩, hm, e⟩
      cases e
      have := ((formL_canon ps).mem _ _).mp hm
      rw [← this.1]
      exact ⟨rfl, Int.mul_ne_zero hk this.2⟩
    · rintro ⟨rfl, h2⟩
      exact ⟨(x, co ps x), ((formL_canon ps).mem _ _).mpr ⟨rfl, fun z => h2 (by rw [z]; simp)⟩, rfl⟩
theorem fD_cl {c : Int} {ps : Ps} {n : Nat} : D.cl n (fD c ps) = true := by
  unfold fD
  simp only [D.cl, D.clL, Bool.true_and, Bool.and_true]
  induction ps with
  | nil => rfl
  | cons p r ih => simp only [List.map_cons, D.clL, ih, Bool.and_true]; rfl
theorem fD_dat {c : Int} {ps : Ps} (h : ps.length ≤ sizeLine) : datB 3 (fD c ps) = true := by
  have hz : 2 ≤ sizeLine := by rw [szEq]; decide
  unfold fD
  simp [datB, h, hz, pD]
end Y

set_option Elab.async false
set_option linter.all false
set_option maxRecDepth 100000
set_option maxHeartbeats 4000000
/-! Y22: dict comprehensions that touch nothing; small numbers. -/
namespace Y
open PySem L2
def dcompS (g : GM) (t : EM Bool) (ek ev : EM D) (E0 : Ev) (src : Src) (s : Sto) : Res (List (Key × D)) := match src with
  | .fix ds => if ds.length ≤ sizeLine then dcompL g t ek ev E0 ds [] s else .err
  | .lst k => dcompK g t ek ev E0 k sizeLine 0 [] s
section
variable {g : GM} {t : EM Bool} {ek ev : EM D} {E0 E : Ev} {s : Sto}
@[simp] theorem fDc_ap {it : EM Src} {vs : List Nat} : fDc it g t ek ev vs E s = (it E s).bind fun src s1 => dcompS g t ek ev (wipeE E vs) src s1 := by
  rfl
theorem dcompL_map {f : D → Option (Key × D)} : ∀ (xs : List D) (acc : List (Key × D)), (∀ d ∈ xs, turnD g t ek ev E0 d s = .ok (f d) s) → dcompL g t ek ev E0 xs acc s = .ok (xs.foldl (fun a d => putO (f d) a) acc) s
  | [], acc, _ => rfl
  | d :: ds, acc, h => by
    unfold dcompL
    rw [h d List.mem_cons_self, Res.bind_ok, dcompL_map ds _ fun d hd => h d (List.mem_cons_of_mem _ hd)]
    rfl
theorem dcompFix_map {f : D → Option (Key × D)} {xs : List D} (hl : xs.length ≤ sizeLine) (h : ∀ d ∈ xs, turnD g t ek ev E0 d s = .ok (f d) s) : dcompS g t ek ev E0 (.fix xs) s = .ok (xs.foldl (fun a d => putO (f d) a) []) s := by
  unfold dcompS
  simp only [if_pos hl]
  exact dcompL_map xs [] h
end
theorem fold_enc {α : Type} {f : α → D} : ∀ (l : List (Str × α)) (acc : List (Str × α)), l.foldl (fun (a : List (Key × D)) p => putA a (.inr p.1) (f p.2)) (encS f acc) = encS f (l.foldl (fun a p => putA a p.1 p.2) acc)
  | [], acc => rfl
  | p :: l, acc => by
    rw [List.foldl_cons, List.foldl_cons, putA_enc]
    exact fold_enc l _
/-- a dict made of pairs with names that differ -/
theorem fold_put {κ α : Type} [DecidableEq κ] : ∀ (l acc : List (κ × α)), ((acc ++ l).map (·.1)).Nodup → l.foldl (fun a p => putA a p.1 p.2) acc = acc ++ l
  | [], acc, _ => by simp
  | p :: l, acc, h => by
    rw [List.foldl_cons]
    have hp : p.1 ∉ acc.map (·.1) := by
      rw [List.map_append, List.nodup_append] at h
      exact fun z => h.2.2 _ z p.1 (by simp) rfl
    have e : putA acc p.1 p.2 = acc ++ [p] := by
      unfold putA
      rw [if_neg (fun z => hp (any_key.mp z))]
    rw [e, fold_put l (acc ++ [p]) (by rw [List.append_assoc]; exact h), List.append_assoc]
    rfl
/-- what may be multiplied -/
def sm (z : Int) : Prop := z.natAbs.log2 ≤ 1000
theorem sm_of {z : Int} {B : Nat} (h : z.natAbs ≤ B) (hB : B < 2 ^ 1000 := by decide +kernel) : sm z := small_log (Nat.lt_of_le_of_lt h hB)
theorem sm_mul {a b : Int} (ha : sm a) (hb : sm b) : a.natAbs.log2 + b.natAbs.log2 < 1000000 := by
  unfold sm at ha hb; omega
end Y

set_option Elab.async false
set_option linter.all false
set_option maxRecDepth 100000
set_option maxHeartbeats 4000000
/-! Y23: the program's forms (form, plus, times, minus), over any program that has them. -/
namespace Y
open PySem L2
def zeroF : D := .tup [.int 0, .tup []]
def mForm : SM :=
  (sCons (sSet 2 dictNew)
  (sCons (sFor (iVal (eVar 1)) (gTp 2 (gsCons (gNm 3) (gsCons (gNm 4) gsNil))) (sCons (sAsg (gSb (eVar 2) (eVar 3)) (eBin (pBin .Add) (eMeth "get" (eVar 2) (aCons (eVar 3) (aCons (eC (.int 0)) aNil))) (eVar 4)))
  sNil))
  (sCons (sRet (eA mkTup (aCons (eVar 0) (aCons (eL lTup (fLc (iFix (fSorted (eVar 2))) (gNm 3) (tOfB (eBin (pCmp .NotEq) (eBin pIx (eVar 2) (eVar 3)) (eC (.int 0)))) (eA mkTup (aCons (eVar 3) (aCons (eBin pIx (eVar 2) (eVar 3)) aNil))) [3])) aNil))))
  sNil)))
def mPlus (T : Pg) (k : Nat) : SM :=
  (sCons (sIf (tNt (tOfT (eBin pIx (eVar 1) (eC (.int 1))))) (sCons (sRet (eA mkTup (aCons (eBin (pBin .Add) (eBin pIx (eVar 0) (eC (.int 0))) (eBin pIx (eVar 1) (eC (.int 0)))) (aCons (eBin pIx (eVar 0) (eC (.int 1))) aNil))))
  sNil) sNil)
  (sCons (sRet (eCall 2 (callP T k "form") (aCons (eBin (pBin .Add) (eBin pIx (eVar 0) (eC (.int 0))) (eBin pIx (eVar 1) (eC (.int 0)))) (aCons (eBin (pBin .Add) (eBin pIx (eVar 0) (eC (.int 1))) (eBin pIx (eVar 1) (eC (.int 1)))) aNil))))
  sNil))
def mTimes : SM :=
  (sCons (sIf (tOfB (eBin (pCmp .Eq) (eVar 0) (eC (.int 0)))) (sCons (sRet (eC zeroF))
  sNil) sNil)
  (sCons (sRet (eA mkTup (aCons (eBin (pBin .Mult) (eVar 0) (eBin pIx (eVar 1) (eC (.int 0)))) (aCons (eL lTup (fLc (iVal (eBin pIx (eVar 1) (eC (.int 1)))) (gTp 2 (gsCons (gNm 2) (gsCons (gNm 3) gsNil))) tYesM (eA mkTup (aCons (eVar 2) (aCons (eBin (pBin .Mult) (eVar 0) (eVar 3)) aNil))) [2, 3])) aNil))))
  sNil))
def mMinus (T : Pg) (k : Nat) : SM :=
  (sCons (sRet (eCall 2 (callP T k "plus") (aCons (eVar 0) (aCons (eCall 2 (callP T k "times") (aCons (eUn pNeg (eC (.int 1))) (aCons (eVar 1) aNil))) aNil))))
  sNil)
structure FormLib (T : Pg) : Prop where
  form : ∀ {k a b s}, callP T (k + 1) "form" [a, b] s = gc s (resS (mForm [some a, some b, none, none, none] s))
  plus : ∀ {k a b s}, callP T (k + 1) "plus" [a, b] s = gc s (resS (mPlus T k [some a, some b] s))
  times : ∀ {k a b s}, callP T (k + 1) "times" [a, b] s = gc s (resS (mTimes [some a, some b, none, none] s))
  minus : ∀ {k a b s}, callP T (k + 1) "minus" [a, b] s = gc s (resS (mMinus T k [some a, some b] s))
def LForm (T : Pg) : Prop := ∀ {k a b s}, callP T (k + 1) "_law_form" [a, b] s = gc s (resS (mForm [some a, some b, none, none, none] s))
theorem pD_at {ps : Ps} {n : Nat} {d : D} (h : (ps.map pD)[n]? = some d) : ∃ x z, ps[n]? = some (x, z) ∧ d = .tup [.str x, .int z] := by
  rw [List.getElem?_map] at h
  cases e : ps[n]? with
  | none => rw [e] at h; cases h
  | some p => rw [e] at h; cases h; exact ⟨p.1, p.2, rfl, rfl⟩
theorem sz {n : Nat} (h : n < 1000) : n < sizeLine := by rw [szEq]; omega
theorem sz' {n : Nat} (h : n < 1000) : n ≤ sizeLine := Nat.le_of_lt (sz h)
/-- the tuple of the names with sums that are not zero, in order -/
theorem sorted_run {s : Sto} {kvs : Ps} {E0 : Ev} {E : Ev} {i l : Nat} (hl : kvs.length < 64) (hk : s[l]? = some (.dic (encS D.int kvs))) :
    srtDS (.loc l) s = some ((srtS (kvs.map (·.1))).map D.str) := by
  unfold srtDS
  rw [lst_loc, hk]
  simp only [lstO, hk, keysS_enc]
  rw [List.length_map, if_pos hl]
theorem keep_turn {s : Sto} {kvs : Ps} {E0 : Ev} {i j l : Nat} {x : Str} (hk : s[l]? = some (.dic (encS D.int kvs))) (hx : x ∈ kvs.map (·.1)) (hi : i < E0.length) (hj : E0[j]? = some (some (.loc l))) (hij : i ≠ j) :
    turnC (gNm i) (tOfB (eBin pNe (eBin pIx (eVar j) (eVar i)) (eC (.int 0)))) (eA mkTup (aCons (eVar i) (aCons (eBin pIx (eVar j) (eVar i)) aNil))) E0 (.str x) s = .ok ((keepN kvs x).map pD) s := by
  have g1 : (E0.set i (some (.str x)))[i]? = some (some (.str x)) := List.getElem?_set_self hi
  have g2 : (E0.set i (some (.str x)))[j]? = some (some (.loc l)) := by rw [List.getElem?_set_ne hij]; exact hj
  obtain ⟨n, hn⟩ : ∃ n, getA kvs x = some n := by
    cases e : getA kvs x with
    | none => exact absurd hx (getA_none.mp e)
    | some n => exact ⟨n, rfl⟩
  have hz : 2 ≤ sizeLine := sz' (by decide)
  unfold turnC keepN
  simp [g1, g2, hk, getA_enc, hn, noX, Res.ofO]
  by_cases h0 : n = 0
  · simp [h0]
  · simp [h0, hz, pD]
theorem keep_comp {s : Sto} {kvs : Ps} {E0 : Ev} {i j l : Nat} (hl : kvs.length < 64) (hk : s[l]? = some (.dic (encS D.int kvs))) (hi : i < E0.length) (hj : E0[j]? = some (some (.loc l))) (hij : i ≠ j) :
    compS (gNm i) (tOfB (eBin pNe (eBin pIx (eVar j) (eVar i)) (eC (.int 0)))) (eA mkTup (aCons (eVar i) (aCons (eBin pIx (eVar j) (eVar i)) aNil))) E0 (.fix ((srtS (kvs.map (·.1))).map D.str)) s = .ok (((srtS (kvs.map (·.1))).filterMap (keepN kvs)).map pD) s := by
  rw [compFix_map (f := fun d => match d with | .str x => (keepN kvs x).map pD | _ => none)]
  · rw [List.filterMap_map, List.map_filterMap]; rfl
  · rw [List.length_map, srtS_len, List.length_map]; exact sz' (by omega)
  · intro d hd
    obtain ⟨x, hx, rfl⟩ := List.mem_map.mp hd
    exact keep_turn hk ((srtS_perm _).mem_iff.mp hx) hi hj hij
theorem form_run {c : Int} {d : D} {ps : Ps} {s : Sto} {NM : List Str} (hs : seqD d s = some (ps.map pD)) (hN : ∀ p ∈ ps, p.1 ∈ NM) (hM : NM.length < 60) (hl : ps.length < 1000) :
    (mForm [some (.int c), some d, none, none, none] s).to { rt := fun d' s' => d' = fD c (formL ps) ∧ ∃ t, s' = s ++ t } := by
  obtain ⟨src, e1, loop⟩ := forSeq (seqD_app (t := [.dic []]) hs)
  unfold mForm
  simp [e1]
  have len : ∀ qs : Ps, (∀ p ∈ qs, p.1 ∈ NM) → (sumsP qs).length < 60 := fun qs h => Nat.lt_of_le_of_lt (sumsP_len h) hM
  refine loop (fun n E s1 => ∃ o1 o2, E = [some (.int c), some d, some (.loc s.length), o1, o2] ∧ s1 = s ++ [.dic (encS D.int (sumsP (ps.take n)))]) (by rw [List.length_map]; unfold fuelMax; omega) ?_ ?_ ?_ ?_
  · rintro n E s1 ⟨o1, o2, rfl, rfl⟩
    exact seqD_app hs
  · exact ⟨none, none, rfl, rfl⟩
  · rintro n d' E s1 hd ⟨o1, o2, rfl, rfl⟩
    obtain ⟨x, z, hp, rfl⟩ := pD_at hd
    have hb := len (ps.take n) fun p hp => hN p (List.mem_of_mem_take hp)
    simp [meth_get (kvs := encS D.int (sumsP (ps.take n))), mGet2_str (kvs := encS D.int (sumsP (ps.take n))), getA_enc, encS_len]
    rw [sumsP_take hp]
    have e : ((getA (sumsP (ps.take n)) x).map D.int).getD (.int 0) = .int ((getA (sumsP (ps.take n)) x).getD 0) := by cases getA (sumsP (ps.take n)) x <;> rfl
    simp [e, putA_enc, addP, sz (show List.length (sumsP (List.take n ps)) < 1000 by omega)]
  · rintro E s1 ⟨o1, o2, rfl, rfl⟩
    rw [List.length_map, List.take_length]
    have hb := len ps hN
    have hz : 2 ≤ sizeLine := sz' (by decide)
    simp [sorted_run (l := s.length) (i := 0) (E := []) (E0 := []) (show (sumsP ps).length < 64 by omega) (s := s ++ [.dic (encS D.int (sumsP ps))]) (by simp)]
    rw [keep_comp (l := s.length) (by omega) (by simp) (by simp) (by simp) (by decide)]
    simp [hz, fD, formL]
theorem FormLib.form_ok {T : Pg} (G : FormLib T) {k : Nat} {c : Int} {d : D} {ps : Ps} {s : Sto} {NM : List Str} (hs : seqD d s = some (ps.map pD)) (hN : ∀ p ∈ ps, p.1 ∈ NM) (hM : NM.length < 60) (hl : ps.length < 1000) :
    callP T (k + 1) "form" [.int c, d] s = .ok (fD c (formL ps)) s := by
  rw [G.form]
  exact gc_pure fD_cl (form_run hs hN hM hl)
theorem law_form_ok {T : Pg} (L : LForm T) {k : Nat} {c : Int} {d : D} {ps : Ps} {s : Sto} {NM : List Str} (hs : seqD d s = some (ps.map pD)) (hN : ∀ p ∈ ps, p.1 ∈ NM) (hM : NM.length < 60) (hl : ps.length < 1000) :
    callP T (k + 1) "_law_form" [.int c, d] s = .ok (fD c (formL ps)) s := by
  rw [L]
  exact gc_pure fD_cl (form_run hs hN hM hl)
/-- all numbers are small -/
def Sm (c : Int) (ps : Ps) : Prop := sm c ∧ ∀ p ∈ ps, sm p.2
theorem ldl {α β : Type} {f : α → β} {l : List α} : (l.map f).length = l.length := List.length_map f
theorem mul_turn {s : Sto} {E0 : Ev} {x : Str} {z n : Int} {i j l : Nat} (hz : sm z) (hn : sm n) (hi : i < E0.length) (hj : j < E0.length) (hl : E0[l]? = some (some (.int z))) (hij : i ≠ j) (hil : i ≠ l) (hjl : j ≠ l) :
    turnC (gTp 2 (gsCons (gNm i) (gsCons (gNm j) gsNil))) tYesM (eA mkTup (aCons (eVar i) (aCons (eBin pMul (eVar l) (eVar j)) aNil))) E0 (pD (x, n)) s = .ok (some (pD (x, z * n))) s := by
  have hz2 : 2 ≤ sizeLine := sz' (by decide)
  have g1 : ((E0.set i (some (.str x))).set j (some (.int n)))[i]? = some (some (.str x)) := by rw [List.getElem?_set_ne (Ne.symm hij), List.getElem?_set_self hi]
  have g2 : ((E0.set i (some (.str x))).set j (some (.int n)))[j]? = some (some (.int n)) := by rw [List.getElem?_set_self (by rw [List.length_set]; exact hj)]
  have g3 : ((E0.set i (some (.str x))).set j (some (.int n)))[l]? = some (some (.int z)) := by rw [List.getElem?_set_ne hjl, List.getElem?_set_ne hil]; exact hl
  unfold turnC pD
  simp [g1, g2, g3, noX, Res.ofO, sm_mul hz hn, hz2]
theorem mul_comp {s : Sto} {E0 : Ev} {ps : Ps} {z : Int} {i j l : Nat} (hp : ps.length < 1000) (hz : sm z) (hn : ∀ p ∈ ps, sm p.2) (hi : i < E0.length) (hj : j < E0.length) (hl : E0[l]? = some (some (.int z))) (hij : i ≠ j) (hil : i ≠ l) (hjl : j ≠ l) :
    compS (gTp 2 (gsCons (gNm i) (gsCons (gNm j) gsNil))) tYesM (eA mkTup (aCons (eVar i) (aCons (eBin pMul (eVar l) (eVar j)) aNil))) E0 (.fix (ps.map pD)) s = .ok ((ps.map fun p => (p.1, z * p.2)).map pD) s := by
  rw [compFix_map (f := fun d => match d with | .tup [.str x, .int n] => some (pD (x, z * n)) | _ => none)]
  · congr 1
    rw [List.filterMap_map, List.map_map, ← List.filterMap_eq_map]
    rfl
  · rw [ldl]; exact sz' hp
  · intro d hd
    obtain ⟨p, hp, rfl⟩ := List.mem_map.mp hd
    exact mul_turn hz (hn p hp) hi hj hl hij hil hjl
def timesL (z c : Int) (qs : Ps) : D := if z = 0 then fD 0 [] else fD (z * c) (qs.map fun p => (p.1, z * p.2))
theorem FormLib.times_ok {T : Pg} (G : FormLib T) {k : Nat} {z c : Int} {qs : Ps} {s : Sto} (hz : sm z) (hS : Sm c qs) (hl : qs.length < 1000) :
    callP T (k + 1) "times" [.int z, fD c qs] s = .ok (timesL z c qs) s := by
  rw [G.times]
  have hz2 : 2 ≤ sizeLine := sz' (by decide)
  unfold timesL
  by_cases h0 : z = 0
  · rw [if_pos h0]
    refine gc_pure fD_cl ?_
    subst h0
    unfold mTimes
    simp [zeroF, fD]
  · rw [if_neg h0]
    refine gc_pure fD_cl ?_
    unfold mTimes
    simp [h0, fD, sm_mul hz hS.1]
    rw [mul_comp hl hz hS.2 (by simp) (by simp) (by simp) (by decide) (by decide) (by decide)]
    simp [hz2]
theorem FormLib.plus_ok {T : Pg} (G : FormLib T) {k : Nat} {c c' : Int} {ps ps' : Ps} {s : Sto} {NM : List Str} (h : ∀ p ∈ ps, p.1 ∈ NM) (h' : ∀ p ∈ ps', p.1 ∈ NM) (hM : NM.length < 60) :
    callP T (k + 2) "plus" [fD c (formL ps), fD c' (formL ps')] s = .ok (fD (c + c') (formL (ps ++ ps'))) s := by
  rw [G.plus]
  have hz2 : 2 ≤ sizeLine := sz' (by decide)
  have l1 := formL_len h
  have l2 := formL_len h'
  refine gc_pure fD_cl ?_
  unfold mPlus
  by_cases h0 : formL ps' = []
  · simp [fD, h0, hz2]
    have : formL (ps ++ ps') = formL ps := formL_congr fun x => by
      rw [co_append, ← co_formL (ps := ps'), h0]; simp
    rw [this]
  · have e : (formL ps').map pD ≠ [] := by simpa using h0
    have hsz : (formL ps).length + (formL ps').length ≤ sizeLine := sz' (by omega)
    simp [fD, h0, hz2, hsz]
    have := G.form_ok (k := k) (c := c + c') (d := .tup ((formL ps ++ formL ps').map pD)) (ps := formL ps ++ formL ps') (s := s) (NM := NM) rfl (fun p hp => (List.mem_append.mp hp).elim (formL_names h p) (formL_names h' p)) hM (by rw [List.length_append]; omega)
    rw [List.map_append] at this
    rw [this]
    have e2 : formL (formL ps ++ formL ps') = formL (ps ++ ps') := formL_congr fun x => by simp [co_append]
    simp [e2, fD]
theorem FormLib.minus_ok {T : Pg} (G : FormLib T) {k : Nat} {c c' : Int} {ps ps' : Ps} {s : Sto} {NM : List Str} (h : ∀ p ∈ ps, p.1 ∈ NM) (h' : ∀ p ∈ ps', p.1 ∈ NM) (hM : NM.length < 60) (hS : Sm c' (formL ps')) :
    callP T (k + 3) "minus" [fD c (formL ps), fD c' (formL ps')] s = .ok (fD (c + -1 * c') (formL (ps ++ ps'.map fun p => (p.1, -1 * p.2)))) s := by
  rw [G.minus]
  refine gc_pure fD_cl ?_
  unfold mMinus
  have l2 := formL_len h'
  have e := G.times_ok (k := k + 1) (z := -1) (s := s) (sm_of (B := 1) (by decide)) hS (by omega)
  simp [e, timesL]
  have e3 := formL_mul (k := -1) (by decide) ps'
  simp at e3
  rw [e3]
  have e2 := G.plus_ok (k := k) (c := c) (c' := -1 * c') (s := s) h (ps' := ps'.map fun p => (p.1, -1 * p.2)) (NM := NM) (fun p hp => by obtain ⟨q, hq, rfl⟩ := List.mem_map.mp hp; exact h' q hq) hM
  simp at e2
  simp [e2]
end Y

set_option Elab.async false
set_option linter.all false
set_option maxRecDepth 100000
set_option maxHeartbeats 4000000
/-! Y24: == and in, over plain data. -/
namespace Y
open PySem L2
theorem anyS {l : List Str} {x : Str} : ((l.map D.str).any fun y => flatEq y (.str x)) = decide (x ∈ l) := by
  induction l with
  | nil => rfl
  | cons a r ih =>
    rw [List.map_cons, List.any_cons, ih]
    simp only [flatEq, List.mem_cons]
    by_cases h : a = x
    · subst h; simp
    · simp [h, Ne.symm h]
theorem allS {l : List Str} : (l.map D.str).all flatD = true := by
  induction l with
  | nil => rfl
  | cons a r ih => rw [List.map_cons, List.all_cons, ih]; rfl
section
variable {s : Sto} {l : List Str} {x : Str} {k : Nat}
theorem pIn_tupS : pIn (.str x) (.tup (l.map D.str)) s = some (.bl (decide (x ∈ l)), s) := by
  unfold pIn inP
  simp only [allS, anyS]
  rfl
theorem pNotIn_tupS : pNotIn (.str x) (.tup (l.map D.str)) s = some (.bl (!decide (x ∈ l)), s) := by
  unfold pNotIn inP
  simp only [allS, anyS]
  rfl
theorem pIn_locS (h : s[k]? = some (.lst (l.map D.str))) : pIn (.str x) (.loc k) s = some (.bl (decide (x ∈ l)), s) := by
  unfold pIn inP
  simp only [h, allS, anyS]
  rfl
theorem pNotIn_locS (h : s[k]? = some (.lst (l.map D.str))) : pNotIn (.str x) (.loc k) s = some (.bl (!decide (x ∈ l)), s) := by
  unfold pNotIn inP
  simp only [h, allS, anyS]
  rfl
end
/-! ### texts that are texts -/
def sOk (x : Str) : Bool := x.cps.all (· < 0x110000)
theorem sOk_append {x y : Str} (h : sOk x = true) (h' : sOk y = true) : sOk (x ++ y) = true := by
  have e : (x ++ y).cps = x.cps ++ y.cps := rfl
  unfold sOk at *
  rw [e, Array.all_append, h, h']; rfl
mutual
/-- numbers, texts, tuples of them, at most n deep -/
def datS : Nat → D → Bool
  | _, .int _ => true
  | _, .str x => sOk x
  | n + 1, .tup xs => datSL n xs
  | _, _ => false
def datSL : Nat → List D → Bool
  | _, [] => true
  | n, x :: xs => datS n x && datSL n xs
end
theorem datSL_iff {n : Nat} : ∀ {xs : List D}, datSL n xs = true ↔ ∀ x ∈ xs, datS n x = true
  | [] => by simp [datSL]
  | x :: xs => by simp [datSL, datSL_iff (xs := xs)]
mutual
theorem datS_pd : ∀ (n : Nat) (d : D), datS n d = true → ∃ p, pd0 d = some p ∧ p.canLay0 = true ∧ p.depth ≤ n + 1
  | n, .int i, _ => ⟨.int i, by simp [pd0], rfl, by simp [PyData.depth]⟩
  | n, .str x, h => ⟨.str x, by simp [pd0], by cases n <;> exact h, by simp [PyData.depth]⟩
  | n + 1, .tup xs, h => by
    obtain ⟨ps, h1, h2, h3⟩ := datSL_pd n xs (by simpa [datS] using h)
    exact ⟨.tuple ps, by simp [pd0, h1], h2, by simp only [PyData.depth]; omega⟩
  | 0, .tup xs, h => by simp [datS] at h
  | n, .non, h => by cases n <;> simp [datS] at h
  | n, .bl _, h => by cases n <;> simp [datS] at h
  | n, .ro _, h => by cases n <;> simp [datS] at h
  | n, .loc _, h => by cases n <;> simp [datS] at h
  | n, .gl _, h => by cases n <;> simp [datS] at h
  | n, .ty _, h => by cases n <;> simp [datS] at h
theorem datSL_pd : ∀ (n : Nat) (ds : List D), datSL n ds = true → ∃ ps, pd0L ds = some ps ∧ PyData.canLayAll0 ps = true ∧ PyData.depthAll ps ≤ n + 1
  | n, [], _ => ⟨[], by simp [pd0L], rfl, by simp [PyData.depthAll]⟩
  | n, d :: ds, h => by
    simp only [datSL, Bool.and_eq_true] at h
    obtain ⟨p, h1, h2, h3⟩ := datS_pd n d h.1
    obtain ⟨ps, h4, h5, h6⟩ := datSL_pd n ds h.2
    refine ⟨p :: ps, by simp [pd0L, h1, h4], by simp [PyData.canLayAll0, h2, h5], ?_⟩
    simp only [PyData.depthAll]
    omega
end
mutual
theorem eqv_beq : ∀ (n m : Nat) (a b : D) {p q : PyData}, datS n a = true → datS m b = true → pd0 a = some p → pd0 b = some q → PyData.eqv p q = D.beq a b
  | n, m, .int i, .int j, p, q, _, _, h1, h2 => by simp [pd0] at h1 h2; subst h1 h2; simp [PyData.eqv, D.beq]
  | n, m, .int i, .str j, p, q, _, _, h1, h2 => by simp [pd0] at h1 h2; subst h1 h2; simp [PyData.eqv, D.beq]
  | n, m, .str i, .int j, p, q, _, _, h1, h2 => by simp [pd0] at h1 h2; subst h1 h2; simp [PyData.eqv, D.beq]
  | n, m, .str i, .str j, p, q, _, _, h1, h2 => by
    simp [pd0] at h1 h2; subst h1 h2
    simp only [PyData.eqv, D.beq]
    by_cases e : i = j <;> simp [e]
  | n + 1, m + 1, .tup xs, .tup ys, p, q, d1, d2, h1, h2 => by
    simp [pd0] at h1 h2
    obtain ⟨ps, e1, rfl⟩ := h1
    obtain ⟨qs, e2, rfl⟩ := h2
    simp only [PyData.eqv, D.beq]
    exact eqvL_beq n m xs ys (by simpa [datS] using d1) (by simpa [datS] using d2) e1 e2
  | n + 1, m, .tup xs, .int j, p, q, _, _, h1, h2 => by
    simp [pd0] at h1 h2; obtain ⟨ps, e1, rfl⟩ := h1; subst h2; simp [PyData.eqv, D.beq]
  | n + 1, m, .tup xs, .str j, p, q, _, _, h1, h2 => by
    simp [pd0] at h1 h2; obtain ⟨ps, e1, rfl⟩ := h1; subst h2; simp [PyData.eqv, D.beq]
  | n, m + 1, .int j, .tup xs, p, q, _, _, h1, h2 => by
    simp [pd0] at h1 h2; obtain ⟨ps, e1, rfl⟩ := h2; subst h1; simp [PyData.eqv, D.beq]
  | n, m + 1, .str j, .tup xs, p, q, _, _, h1, h2 => by
    simp [pd0] at h1 h2; obtain ⟨ps, e1, rfl⟩ := h2; subst h1; simp [PyData.eqv, D.beq]
  | 0, m, .tup xs, b, p, q, d1, _, _, _ => by simp [datS] at d1
  | n, 0, a, .tup xs, p, q, _, d2, _, _ => by simp [datS] at d2
  | n, m, .non, b, p, q, d1, _, _, _ => by cases n <;> simp [datS] at d1
  | n, m, .bl _, b, p, q, d1, _, _, _ => by cases n <;> simp [datS] at d1
  | n, m, .ro _, b, p, q, d1, _, _, _ => by cases n <;> simp [datS] at d1
  | n, m, .loc _, b, p, q, d1, _, _, _ => by cases n <;> simp [datS] at d1
  | n, m, .gl _, b, p, q, d1, _, _, _ => by cases n <;> simp [datS] at d1
  | n, m, .ty _, b, p, q, d1, _, _, _ => by cases n <;> simp [datS] at d1
  | n, m, a, .non, p, q, _, d2, _, _ => by cases m <;> simp [datS] at d2
  | n, m, a, .bl _, p, q, _, d2, _, _ => by cases m <;> simp [datS] at d2
  | n, m, a, .ro _, p, q, _, d2, _, _ => by cases m <;> simp [datS] at d2
  | n, m, a, .loc _, p, q, _, d2, _, _ => by cases m <;> simp [datS] at d2
  | n, m, a, .gl _, p, q, _, d2, _, _ => by cases m <;> simp [datS] at d2
  | n, m, a, .ty _, p, q, _, d2, _, _ => by cases m <;> simp [datS] at d2
theorem eqvL_beq : ∀ (n m : Nat) (as bs : List D) {ps qs : List PyData}, datSL n as = true → datSL m bs = true → pd0L as = some ps → pd0L bs = some qs → PyData.eqvAll ps qs = D.beqL as bs
  | n, m, [], [], ps, qs, _, _, h1, h2 => by simp [pd0L] at h1 h2; subst h1 h2; simp [PyData.eqvAll, D.beqL]
  | n, m, [], b :: bs, ps, qs, _, d2, h1, h2 => by
    obtain ⟨q, e1, _⟩ := datS_pd m b (by simp only [datSL, Bool.and_eq_true] at d2; exact d2.1)
    obtain ⟨qs', e2, _⟩ := datSL_pd m bs (by simp only [datSL, Bool.and_eq_true] at d2; exact d2.2)
    simp [pd0L, e1, e2] at h1 h2; subst h1 h2; simp [PyData.eqvAll, D.beqL]
  | n, m, a :: as, [], ps, qs, d1, _, h1, h2 => by
    obtain ⟨q, e1, _⟩ := datS_pd n a (by simp only [datSL, Bool.and_eq_true] at d1; exact d1.1)
    obtain ⟨qs', e2, _⟩ := datSL_pd n as (by simp only [datSL, Bool.and_eq_true] at d1; exact d1.2)
    simp [pd0L, e1, e2] at h1 h2; subst h1 h2; simp [PyData.eqvAll, D.beqL]
  | n, m, a :: as, b :: bs, ps, qs, d1, d2, h1, h2 => by
    simp only [datSL, Bool.and_eq_true] at d1 d2
    obtain ⟨p, e1, _⟩ := datS_pd n a d1.1
    obtain ⟨ps', e2, _⟩ := datSL_pd n as d1.2
    obtain ⟨q, e3, _⟩ := datS_pd m b d2.1
    obtain ⟨qs', e4, _⟩ := datSL_pd m bs d2.2
    simp [pd0L, e1, e2, e3, e4] at h1 h2
    subst h1 h2
    simp only [PyData.eqvAll, D.beqL]
    rw [eqv_beq n m a b d1.1 d2.1 e1 e3, eqvL_beq n m as bs d1.2 d2.2 e2 e4]
end
theorem shaped_of {n : Nat} {p : PyData} (h : p.canLay0 = true) (h2 : p.depth ≤ n + 1) (hn : n ≤ 62) : SeqAt.shaped p = true := by
  unfold SeqAt.shaped
  rw [h, decide_eq_true (by omega)]; rfl
/-- which of a list's items equal x -/
theorem any_eqv {n : Nat} {x : D} {p : PyData} (hx : datS n x = true) (ex : pd0 x = some p) : ∀ {ys : List D} {ps : List PyData}, datSL n ys = true → pd0L ys = some ps → (ps.any fun z => PyData.eqv z p) = ys.any fun y => D.beq y x
  | [], ps, _, h => by simp [pd0L] at h; subst h; rfl
  | y :: ys, ps, d, h => by
    simp only [datSL, Bool.and_eq_true] at d
    obtain ⟨q, e1, _⟩ := datS_pd n y d.1
    obtain ⟨qs, e2, _⟩ := datSL_pd n ys d.2
    simp [pd0L, e1, e2] at h
    subst h
    rw [List.any_cons, List.any_cons, eqv_beq n n y x d.1 hx e1 ex, any_eqv hx ex d.2 e2]
theorem beq_iff {a b : D} : D.beq a b = true ↔ a = b := ⟨D.beq_eq a b, fun h => h ▸ D.beq_refl a⟩
theorem any_beq {ys : List D} {x : D} : (ys.any fun y => D.beq y x) = true ↔ x ∈ ys := by
  rw [List.any_eq_true]
  constructor
  · rintro ⟨y, hy, e⟩; rw [← beq_iff.mp e]; exact hy
  · exact fun h => ⟨x, h, beq_iff.mpr rfl⟩
section
variable {s : Sto} {n k : Nat} {x y : D} {ys : List D}
theorem inP_data (h : s[k]? = some (.lst ys)) (hx : datS n x = true) (hy : datSL n ys = true) (hn : n ≤ 60) (hf : flatD x = false) : inP x (.loc k) s = some (ys.any fun y => D.beq y x) := by
  obtain ⟨p, e1, c1, d1⟩ := datS_pd n x hx
  obtain ⟨ps, e2, c2, d2⟩ := datSL_pd n ys hy
  unfold inP
  simp only [h, hf, Bool.false_eq_true, false_and, if_false, e1, e2]
  rw [if_pos ⟨shaped_of c1 d1 (by omega), shaped_of (p := .list ps) (n := n + 1) c2 (by simp only [PyData.depth]; omega) (by omega)⟩, any_eqv hx e1 hy e2]
theorem pIn_data (h : s[k]? = some (.lst ys)) (hx : datS n x = true) (hy : datSL n ys = true) (hn : n ≤ 60) (hf : flatD x = false) : pIn x (.loc k) s = some (.bl (ys.any fun y => D.beq y x), s) := by
  unfold pIn; rw [inP_data h hx hy hn hf]; rfl
theorem pNotIn_data (h : s[k]? = some (.lst ys)) (hx : datS n x = true) (hy : datSL n ys = true) (hn : n ≤ 60) (hf : flatD x = false) : pNotIn x (.loc k) s = some (.bl (!(ys.any fun y => D.beq y x)), s) := by
  unfold pNotIn; rw [inP_data h hx hy hn hf]; rfl
end
theorem pd_tup {xs : List D} {s : Sto} : pd (.tup xs) s = pd0 (.tup xs) := by
  first | rfl | (unfold pd; rfl)
theorem pEq_tups {xs ys : List D} {s : Sto} {n : Nat} (hx : datS n (.tup xs) = true) (hy : datS n (.tup ys) = true) (hn : n ≤ 60) : pEq (.tup xs) (.tup ys) s = some (.bl (D.beqL xs ys), s) ∧ pNe (.tup xs) (.tup ys) s = some (.bl (!D.beqL xs ys), s) := by
  obtain ⟨p, e1, c1, d1⟩ := datS_pd n _ hx
  obtain ⟨q, e2, c2, d2⟩ := datS_pd n _ hy
  have e : eqP (.tup xs) (.tup ys) s = some (D.beqL xs ys) := by
    unfold eqP
    simp only [scalD, pd_tup, e1, e2]
    rw [if_pos ⟨shaped_of c1 d1 (by omega), shaped_of c2 d2 (by omega)⟩, eqv_beq n n _ _ hx hy e1 e2]
    rfl
  unfold pEq pNe
  rw [e]
  exact ⟨rfl, rfl⟩
theorem map_toNat_inj : ∀ {a b : List Char}, a.map Char.toNat = b.map Char.toNat → a = b
  | [], [], _ => rfl
  | [], _ :: _, h => by simp at h
  | _ :: _, [], h => by simp at h
  | x :: xs, y :: ys, h => by
    simp only [List.map_cons, List.cons.injEq] at h
    rw [Char.toNat_inj.mp h.1, map_toNat_inj h.2]
theorem ofString_inj {a b : String} : (Str.ofString a = Str.ofString b) = (a = b) := by
  refine propext ⟨fun h => ?_, fun h => by rw [h]⟩
  rw [Str.ofString_eq_toList, Str.ofString_eq_toList] at h
  have h2 : (a.toList.map Char.toNat).toArray = (b.toList.map Char.toNat).toArray := congrArg Str.cps h
  have h3 : a.toList.map Char.toNat = b.toList.map Char.toNat := congrArg Array.toList h2
  exact String.toList_inj.mp (map_toNat_inj h3)
theorem pIn_tup2 {s : Sto} {x a b : Str} : pIn (.str x) (.tup [.str a, .str b]) s = some (.bl (decide (x ∈ [a, b])), s) := pIn_tupS (l := [a, b])
theorem pIn_lst2 {s : Sto} {k : Nat} {x a b : Str} (h : s[k]? = some (.lst [.str a, .str b])) : pIn (.str x) (.loc k) s = some (.bl (decide (x ∈ [a, b])), s) := pIn_locS (l := [a, b]) h
theorem pNotIn_lst2 {s : Sto} {k : Nat} {x a b : Str} (h : s[k]? = some (.lst [.str a, .str b])) : pNotIn (.str x) (.loc k) s = some (.bl (!decide (x ∈ [a, b])), s) := pNotIn_locS (l := [a, b]) h
/-- a fresh list that holds xs; nothing that stood has changed -/
def FL (s : Sto) (xs : List D) (d : D) (s' : Sto) : Prop := ∃ (t : Sto) (l : Nat), s' = s ++ t ∧ d = .loc l ∧ s.length ≤ l ∧ s'[l]? = some (.lst xs)
theorem FL.gc {s s' : Sto} {xs : List D} {d : D} (h : FL s xs d s') : (gc s (.ok d s')).to (FL s xs) NoX := by
  refine gc_both h fun hc => ?_
  obtain ⟨t, l, _, rfl, hl, _⟩ := h
  simp [D.cl] at hc
  omega
theorem for_nil {g : GM} {b : SM} {P : Post} {E : Ev} {s : Sto} : (forS g b (.fix []) E s).to P = P.nx E s := rfl
theorem for_cons {g : GM} {b : SM} {P : Post} {d : D} {ds : List D} {E : Ev} {s : Sto} : (forS g b (.fix (d :: ds)) E s).to P = (g d E s).to (fun E1 s1 => (b E1 s1).to { P with nx := fun E2 s2 => (forS g b (.fix ds) E2 s2).to P, ct := fun E2 s2 => (forS g b (.fix ds) E2 s2).to P, bk := P.nx }) NoX := turn_to (k := forL g b ds)
theorem mExt_FL {s t S' : Sto} {X Z : List D} {d : D} (h : FL (s ++ .lst X :: t) Z d S') (hz : X.length + Z.length ≤ sizeLine) : ∃ t', mExtend (.loc s.length) [d] S' = some (.non, s ++ .lst (X ++ Z) :: t') := by
  obtain ⟨t1, l, rfl, rfl, hl, hg⟩ := h
  have h0 : ((s ++ .lst X :: t) ++ t1)[s.length]? = some (.lst X) := by rw [List.append_assoc]; simp
  refine ⟨t ++ t1, ?_⟩
  rw [mExtend_ap h0 hg, if_pos hz]
  simp
theorem pAdd_loc {s : Sto} {i j : Nat} {xs ys : List D} (h : s[i]? = some (.lst xs)) (h2 : s[j]? = some (.lst ys)) (hl : xs.length + ys.length ≤ sizeLine) : pAdd (.loc i) (.loc j) s = some (.loc s.length, s ++ [.lst (xs ++ ys)]) := by
  unfold pAdd
  simp only [h, h2, if_pos hl]
/-- the sum of a list that stands and a fresh one -/
theorem pAdd_FL {s S' : Sto} {i : Nat} {X Z : List D} {d : D} (h0 : s[i]? = some (.lst X)) (h : FL s Z d S') (hz : X.length + Z.length ≤ sizeLine) : ∃ t, pAdd (.loc i) d S' = some (.loc (s ++ t).length, (s ++ t) ++ [.lst (X ++ Z)]) ∧ S' = s ++ t := by
  obtain ⟨t1, l, rfl, rfl, hl, hg⟩ := h
  have hi := (List.getElem?_eq_some_iff.mp h0).1
  exact ⟨t1, pAdd_loc (by rw [get_lt hi]; exact h0) hg hz, rfl⟩
end Y

set_option Elab.async false
set_option linter.all false
set_option maxRecDepth 100000
set_option maxHeartbeats 4000000
/-! Y25: sums of forms: the law's and the program's. -/
namespace Y
open PySem L2
/-- the parts of a sum: a factor, a form -/
abbrev Part := Int × Int × Ps
def partD (q : Part) : D := .tup [.int q.1, fD q.2.1 q.2.2]
def partsC (l : List Part) : Int := (l.map fun q => q.1 * q.2.1).sum
def partsP (l : List Part) : Ps := l.flatMap fun q => q.2.2.map fun p => (p.1, q.1 * p.2)
theorem partsC_snoc {l : List Part} {q : Part} : partsC (l ++ [q]) = partsC l + q.1 * q.2.1 := by unfold partsC; simp
theorem partsP_snoc {l : List Part} {q : Part} : partsP (l ++ [q]) = partsP l ++ q.2.2.map fun p => (p.1, q.1 * p.2) := by unfold partsP; simp
theorem partD_at {l : List Part} {n : Nat} {d : D} (h : (l.map partD)[n]? = some d) : ∃ q, l[n]? = some q ∧ d = partD q := by
  rw [List.getElem?_map] at h
  cases e : l[n]? with
  | none => rw [e] at h; cases h
  | some p => rw [e] at h; cases h; exact ⟨p, rfl, rfl⟩
def mSum (T : Pg) (k : Nat) : SM :=
  (sCons (sSet 1 (eC (.int 0)))
  (sCons (sSet 2 (eA mkLst aNil))
  (sCons (sFor (iVal (eVar 0)) (gTp 2 (gsCons (gNm 3) (gsCons (gNm 4) gsNil))) (sCons (sSet 1 (eBin (pBin .Add) (eVar 1) (eBin (pBin .Mult) (eVar 3) (eBin pIx (eVar 4) (eC (.int 0))))))
  (sCons (sFor (iVal (eBin pIx (eVar 4) (eC (.int 1)))) (gTp 2 (gsCons (gNm 5) (gsCons (gNm 6) gsNil))) (sCons (sExpr (eMeth "append" (eVar 2) (aCons (eA mkTup (aCons (eVar 5) (aCons (eBin (pBin .Mult) (eVar 3) (eVar 6)) aNil))) aNil)))
  sNil))
  sNil)))
  (sCons (sRet (eCall 2 (callP T k "_law_form") (aCons (eVar 1) (aCons (eVar 2) aNil))))
  sNil))))
def LSum (T : Pg) : Prop := ∀ {k a s}, callP T (k + 1) "_law_sum" [a] s = gc s (resS (mSum T k [some a, none, none, none, none, none, none] s))
section
variable {T : Pg} (S : LSum T) (L : LForm T)
include S L
theorem sum_ok {k : Nat} {d : D} {l : List Part} {s : Sto} {NM : List Str} (hs : seqD d s = some (l.map partD)) (hN : ∀ q ∈ l, ∀ p ∈ q.2.2, p.1 ∈ NM) (hM : NM.length < 60) (hl : l.length < 10) (hp : (partsP l).length < 900)
    (hq : ∀ q ∈ l, sm q.1 ∧ Sm q.2.1 q.2.2) : callP T (k + 2) "_law_sum" [d] s = .ok (fD (partsC l) (formL (partsP l))) s := by
  rw [S]
  refine gc_pure fD_cl ?_
  obtain ⟨src, e1, loop⟩ := forSeq (seqD_app (t := [.lst []]) hs)
  have z0 : 0 ≤ sizeLine := Nat.zero_le _
  have z2 : 2 ≤ sizeLine := sz' (by decide)
  unfold mSum
  simp [e1, z0]
  have names : ∀ p ∈ partsP l, p.1 ∈ NM := fun p hp => by
    obtain ⟨q, hq, hp⟩ := List.mem_flatMap.mp hp
    obtain ⟨r, hr, rfl⟩ := List.mem_map.mp hp
    exact hN q hq r hr
  have plen : ∀ n, (partsP (l.take n)).length ≤ (partsP l).length := fun n => by
    have : partsP l = partsP (l.take n) ++ partsP (l.drop n) := by unfold partsP; rw [← List.flatMap_append, List.take_append_drop]
    rw [this, List.length_append]; omega
  refine loop (fun n E s1 => ∃ o1 o2 o3 o4, E = [some d, some (.int (partsC (l.take n))), some (.loc s.length), o1, o2, o3, o4] ∧ s1 = s ++ [.lst ((partsP (l.take n)).map pD)]) (by rw [List.length_map]; unfold fuelMax; omega) ?_ ?_ ?_ ?_
  · rintro n E s1 ⟨o1, o2, o3, o4, rfl, rfl⟩
    exact seqD_app hs
  · exact ⟨none, none, none, none, by simp [partsC], by simp [partsP]⟩
  · rintro n d' E s1 hd ⟨o1, o2, o3, o4, rfl, rfl⟩
    obtain ⟨⟨z, c, qs⟩, hp', rfl⟩ := partD_at hd
    have hm := List.mem_of_getElem? hp'
    obtain ⟨q1, q2⟩ := hq _ hm
    simp only at q1 q2
    have hc : partsC (l.take (n + 1)) = partsC (l.take n) + z * c := by rw [List.take_add_one, hp']; exact partsC_snoc
    have hP : partsP (l.take (n + 1)) = partsP (l.take n) ++ qs.map fun p => (p.1, z * p.2) := by rw [List.take_add_one, hp']; exact partsP_snoc
    have hl2 := plen (n + 1)
    rw [hP, List.length_append, List.length_map] at hl2
    simp [partD, fD, sm_mul q1 q2.1]
    refine forFix (fun m E s1 => ∃ o3 o4, E = [some d, some (.int (partsC (l.take n) + z * c)), some (.loc s.length), some (.int z), some (.tup [.int c, .tup (qs.map pD)]), o3, o4] ∧ s1 = s ++ [.lst ((partsP (l.take n) ++ (qs.take m).map fun p => (p.1, z * p.2)).map pD)]) ?_ ?_ ?_
    · exact ⟨o3, o4, rfl, by simp⟩
    · rintro m d2 E s1 hd2 ⟨o3, o4, rfl, rfl⟩
      obtain ⟨x, w, hpq, rfl⟩ := pD_at hd2
      have hw := q2.2 _ (List.mem_of_getElem? hpq)
      have hm2 : m < qs.length := (List.getElem?_eq_some_iff.mp hpq).1
      generalize hX : ((partsP (l.take n) ++ (qs.take m).map fun p => (p.1, z * p.2)).map pD) = X
      have hXl : X.length < 1000 := by rw [← hX]; simp; omega
      have hst : ((partsP (l.take n) ++ (qs.take (m + 1)).map fun p => (p.1, z * p.2)).map pD) = X ++ [pD (x, z * w)] := by
        rw [← hX, List.take_add_one, hpq]; simp
      rw [hst]
      simp [meth_append (xs := X), mAppend_ap (xs := X), sm_mul q1 hw, z2, sz hXl, pD]
    · rintro E s1 ⟨o3, o4, rfl, rfl⟩
      rw [ldl, List.take_length, hc, hP]
      simp
  · rintro E s1 ⟨o1, o2, o3, o4, rfl, rfl⟩
    rw [List.length_map, List.take_length]
    simp
    rw [law_form_ok L (ps := partsP l) (by simp) names hM (by omega)]
    simp
end
/-- a form: its number, its names with numbers -/
abbrev Fm := Int × Ps
def Fm.d (f : Fm) : D := fD f.1 f.2
def lsum (l : List Part) : Fm := (partsC l, formL (partsP l))
/-- a form in order, over the names NM, with numbers up to B -/
structure GF (NM : List Str) (B : Nat) (f : Fm) : Prop where
  can : formL f.2 = f.2
  c : f.1.natAbs ≤ B
  nm : ∀ p ∈ f.2, p.1 ∈ NM
  v : ∀ p ∈ f.2, p.2.natAbs ≤ B
theorem formL_formL {ps : Ps} : formL (formL ps) = formL ps := formL_congr fun x => co_formL
theorem GF.len {NM : List Str} {B : Nat} {f : Fm} (h : GF NM B f) : f.2.length ≤ NM.length := by rw [← h.can]; exact formL_len h.nm
theorem GF.cb {NM : List Str} {B : Nat} {f : Fm} (h : GF NM B f) (x : Str) : (co f.2 x).natAbs ≤ B := by
  by_cases h0 : co f.2 x = 0
  · rw [h0]; simp
  · have := ((formL_canon f.2).mem x (co f.2 x)).mpr ⟨rfl, h0⟩
    rw [h.can] at this
    exact h.v _ this
theorem GF.sm {NM : List Str} {B : Nat} {f : Fm} (h : GF NM B f) (hB : B < 10 ^ 100) : Sm f.1 f.2 :=
  ⟨sm_of h.c (Nat.lt_trans hB (by decide +kernel)), fun p hp => sm_of (h.v p hp) (Nat.lt_trans hB (by decide +kernel))⟩
theorem lsum2 {NM : List Str} {B : Nat} {f g : Fm} {a b : Int} (hf : GF NM B f) (hg : GF NM B g) (ha : a.natAbs ≤ 2) (hb : b.natAbs ≤ 2) : GF NM (4 * B) (lsum [(a, f), (b, g)]) := by
  have hco : ∀ x, co (partsP [(a, f), (b, g)]) x = a * co f.2 x + b * co g.2 x := fun x => by
    simp only [partsP, List.flatMap_cons, List.flatMap_nil, List.append_nil, co_append, co_mul]
  have bound : ∀ (u v : Int), u.natAbs ≤ B → v.natAbs ≤ B → (a * u + b * v).natAbs ≤ 4 * B := fun u v hu hv => by
    have h1 : (a * u).natAbs ≤ 2 * B := by rw [Int.natAbs_mul]; exact Nat.mul_le_mul ha hu
    have h2 : (b * v).natAbs ≤ 2 * B := by rw [Int.natAbs_mul]; exact Nat.mul_le_mul hb hv
    omega
  refine ⟨formL_formL, ?_, formL_names fun p hp => ?_, fun p hp => ?_⟩
  · have : partsC [(a, f), (b, g)] = a * f.1 + b * g.1 := by simp [partsC]
    show (partsC [(a, f), (b, g)]).natAbs ≤ _
    rw [this]; exact bound _ _ hf.c hg.c
  · simp only [partsP, List.flatMap_cons, List.flatMap_nil, List.append_nil, List.mem_append, List.mem_map] at hp
    rcases hp with ⟨q, hq, rfl⟩ | ⟨q, hq, rfl⟩
    · exact hf.nm q hq
    · exact hg.nm q hq
  · have := ((formL_canon (partsP [(a, f), (b, g)])).mem p.1 p.2).mp hp
    rw [this.1, hco]
    exact bound _ _ (hf.cb _) (hg.cb _)
theorem lsum1 {NM : List Str} {B : Nat} {f : Fm} {a : Int} (hf : GF NM B f) (ha : a.natAbs ≤ 2) : GF NM (4 * B) (lsum [(a, f)]) := by
  have h := lsum2 (b := 0) hf hf ha (by decide)
  have e : lsum [(a, f), (0, f)] = lsum [(a, f)] := by
    unfold lsum
    congr 1
    · simp [partsC]
    · exact formL_congr fun x => by simp only [partsP, List.flatMap_cons, List.flatMap_nil, List.append_nil, co_append, co_mul]; simp
  rwa [e] at h
theorem GF.mono {NM : List Str} {B B' : Nat} {f : Fm} (h : GF NM B f) (hb : B ≤ B') : GF NM B' f := ⟨h.can, Nat.le_trans h.c hb, h.nm, fun p hp => Nat.le_trans (h.v p hp) hb⟩
section
variable {T : Pg} {k : Nat} {s : Sto} {NM : List Str} {B : Nat} {f g : Fm}
theorem minus_l (G : FormLib T) (hf : GF NM B f) (hg : GF NM B g) (hB : B < 10 ^ 100) (hM : NM.length < 60) : callP T (k + 3) "minus" [f.d, g.d] s = .ok (lsum [(1, f), (-1, g)]).d s := by
  have := G.minus_ok (k := k) (c := f.1) (c' := g.1) (ps := f.2) (ps' := g.2) (s := s) hf.nm hg.nm hM (by rw [hg.can]; exact hg.sm hB)
  rw [hf.can, hg.can] at this
  have e : lsum [(1, f), (-1, g)] = (f.1 + -1 * g.1, formL (f.2 ++ g.2.map fun p => (p.1, -1 * p.2))) := by
    unfold lsum; simp [partsC, partsP]
  rw [e]; exact this
theorem plus_l (G : FormLib T) (hf : GF NM B f) (hg : GF NM B g) (hM : NM.length < 60) : callP T (k + 2) "plus" [f.d, g.d] s = .ok (lsum [(1, f), (1, g)]).d s := by
  have := G.plus_ok (k := k) (c := f.1) (c' := g.1) (ps := f.2) (ps' := g.2) (s := s) hf.nm hg.nm hM
  rw [hf.can, hg.can] at this
  have e : lsum [(1, f), (1, g)] = (f.1 + g.1, formL (f.2 ++ g.2)) := by
    unfold lsum; simp [partsC, partsP]
  rw [e]; exact this
theorem times_l (G : FormLib T) {a : Int} (hf : GF NM B f) (ha : a.natAbs ≤ 2) (ha0 : a ≠ 0) (hB : B < 10 ^ 100) (hM : NM.length < 60) : callP T (k + 1) "times" [.int a, f.d] s = .ok (lsum [(a, f)]).d s := by
  have hl := hf.len
  have := G.times_ok (k := k) (z := a) (c := f.1) (qs := f.2) (s := s) (sm_of ha (by decide +kernel)) (hf.sm hB) (by omega)
  have e : lsum [(a, f)] = (a * f.1, formL (f.2.map fun p => (p.1, a * p.2))) := by
    unfold lsum; simp [partsC, partsP]
  rw [timesL, if_neg ha0, ← hf.can, formL_mul ha0] at this
  rw [e]
  have q : Fm.d f = fD f.1 (formL f.2) := by unfold Fm.d; rw [hf.can]
  rw [q]; exact this
theorem sum2_l (S : LSum T) (L : LForm T) {d : D} {a b : Int} (hs : seqD d s = some [partD (a, f), partD (b, g)]) (hf : GF NM B f) (hg : GF NM B g) (ha : a.natAbs ≤ 2) (hb : b.natAbs ≤ 2) (hB : B < 10 ^ 100) (hM : NM.length < 60) :
    callP T (k + 2) "_law_sum" [d] s = .ok (lsum [(a, f), (b, g)]).d s := by
  have h1 := hf.len
  have h2 := hg.len
  refine sum_ok S L (l := [(a, f), (b, g)]) (NM := NM) hs (fun q hq p hp => ?_) hM (by simp) (by simp [partsP]; omega) (fun q hq => ?_)
  · simp only [List.mem_cons, List.not_mem_nil, or_false] at hq
    rcases hq with rfl | rfl
    · exact hf.nm p hp
    · exact hg.nm p hp
  · simp only [List.mem_cons, List.not_mem_nil, or_false] at hq
    rcases hq with rfl | rfl
    · exact ⟨sm_of ha (by decide +kernel), hf.sm hB⟩
    · exact ⟨sm_of hb (by decide +kernel), hg.sm hB⟩
theorem sum1_l (S : LSum T) (L : LForm T) {d : D} {a : Int} (hs : seqD d s = some [partD (a, f)]) (hf : GF NM B f) (ha : a.natAbs ≤ 2) (hB : B < 10 ^ 100) (hM : NM.length < 60) :
    callP T (k + 2) "_law_sum" [d] s = .ok (lsum [(a, f)]).d s := by
  have h1 := hf.len
  refine sum_ok S L (l := [(a, f)]) (NM := NM) hs (fun q hq p hp => ?_) hM (by simp) (by simp [partsP]; omega) (fun q hq => ?_)
  · simp only [List.mem_cons, List.not_mem_nil, or_false] at hq
    subst hq
    exact hf.nm p hp
  · simp only [List.mem_cons, List.not_mem_nil, or_false] at hq
    subst hq
    exact ⟨sm_of ha (by decide +kernel), hf.sm hB⟩
end
end Y

set_option Elab.async false
set_option linter.all false
set_option maxRecDepth 100000
set_option maxHeartbeats 0
namespace K69
open PySem L2 Y
def top (i : Nat) : Stmt := PySem.Challenge.pw_testsenough_k69_candidates.main.body.getD i (.Pass ⟨0, 0, 0, 0⟩)
def c_ZERO : D := (.tup [(.int (0)), (.tup [])])
def c_MINUS_ONE : D := (.tup [(.int (-1)), (.tup [])])
def d_form : Df := ⟨["constant", "pairs"], ["constant", "pairs", "sums", "name", "coefficient"], top 3⟩
def d_variable : Df := ⟨["name"], ["name"], top 4⟩
def d_plus : Df := ⟨["f", "g"], ["f", "g"], top 5⟩
def d_times : Df := ⟨["k", "f"], ["k", "f", "name", "coefficient"], top 6⟩
def d_minus : Df := ⟨["f", "g"], ["f", "g"], top 7⟩
def d_statements_in : Df := ⟨["body"], ["body", "found", "statement", "block"], top 9⟩
def d_proc_named : Df := ⟨["core", "name"], ["core", "name", "proc"], top 10⟩
def d_assigned_in : Df := ⟨["proc"], ["proc", "found", "statement", "x", "expression"], top 11⟩
def d_passed_on : Df := ⟨["core", "moving", "proc"], ["core", "moving", "proc", "found", "statement", "parameters", "parameter", "argument"], top 12⟩
def d_moving_table : Df := ⟨["core"], ["core", "moving", "growing", "proc", "name"], top 13⟩
def d_variable_of : Df := ⟨["item"], ["item"], top 14⟩
def d_moving_items : Df := ⟨["proc", "moving"], ["proc", "moving", "item"], top 15⟩
def d_states_of_proc : Df := ⟨["proc", "moving"], ["proc", "moving", "item"], top 16⟩
def d_states_of : Df := ⟨["core", "name"], ["core", "name"], top 17⟩
def d_without_doubles : Df := ⟨["forms"], ["forms", "found", "f"], top 19⟩
def d_comparisons_of : Df := ⟨["condition"], ["condition", "found", "part"], top 20⟩
def d_plain_form : Df := ⟨["expression", "states"], ["expression", "states", "kind", "name", "inner", "left", "right"], top 21⟩
def d_comparison_forms : Df := ⟨["comparison", "states"], ["comparison", "states", "left", "right", "g", "back"], top 22⟩
def d_is_steady : Df := ⟨["expression", "states"], ["expression", "states", "kind"], top 23⟩
def d_set_forms : Df := ⟨["x", "expression", "states"], ["x", "expression", "states"], top 24⟩
def d_differences : Df := ⟨["items"], ["items", "found", "item", "now", "start"], top 25⟩
def d_point_candidates : Df := ⟨["core", "name"], ["core", "name", "proc", "states", "found", "statements", "statement", "comparison", "x", "expression", "state"], top 26⟩
def d_differences_of : Df := ⟨["f", "g"], ["f", "g"], top 27⟩
def d__law_start : Df := ⟨["script"], ["script"], top 29⟩
def d__law_draw : Df := ⟨["state", "most"], ["state", "most", "found", "cell", "mixed"], top 30⟩
def d__law_one_of : Df := ⟨["state", "items"], ["state", "items"], top 31⟩
def d__law_shuffled : Df := ⟨["state", "items"], ["state", "items", "found", "item"], top 32⟩
def d__law_words : Df := ⟨["state", "many"], ["state", "many", "letters", "start", "step", "shared", "k"], top 33⟩
def d__law_is_int : Df := ⟨["x"], ["x"], top 34⟩
def d__law_same : Df := ⟨["x", "y"], ["x", "y", "k"], top 35⟩
def d__law_form : Df := ⟨["constant", "pairs"], ["constant", "pairs", "sums", "name", "number"], top 36⟩
def d__law_sum : Df := ⟨["parts"], ["parts", "constant", "pairs", "factor", "f", "name", "number"], top 37⟩
def d__law_var : Df := ⟨["name"], ["name"], top 38⟩
def d__law_names : Df := ⟨["forms"], ["forms", "found", "f", "name", "number"], top 39⟩
def d__law_key : Df := ⟨["item"], ["item"], top 40⟩
def d__law_statements : Df := ⟨["body"], ["body", "found", "s"], top 41⟩
def d__law_moves : Df := ⟨["core"], ["core", "table", "p", "keys", "s", "turn", "parameters", "passed", "x", "e", "q", "k"], top 42⟩
def d__law_states : Df := ⟨["p", "moved"], ["p", "moved", "item"], top 43⟩
def d__law_wild_head : Df := ⟨["state", "name"], ["state", "name", "words", "items", "places", "head", "kind", "x"], top 44⟩
def d__law_wild_value : Df := ⟨["state", "ints", "arrays", "depth"], ["state", "ints", "arrays", "depth", "x", "pick", "inner"], top 45⟩
def d__law_wild_call : Df := ⟨["state", "heads", "head"], ["state", "heads", "head", "callee", "passed", "given", "kind", "x", "targets"], top 46⟩
def d__law_wild_test : Df := ⟨["state", "ints", "arrays", "budget"], ["state", "ints", "arrays", "budget", "first", "c", "pick"], top 47⟩
def d__law_wild_statement : Df := ⟨["state", "heads", "head", "depth", "budget"], ["state", "heads", "head", "depth", "budget", "ints", "arrays", "pick", "x", "a", "test", "block", "count"], top 48⟩
def d__law_wild_block : Df := ⟨["state", "heads", "head", "depth", "budget"], ["state", "heads", "head", "depth", "budget", "many", "k"], top 49⟩
def d__law_wild_core : Df := ⟨["state"], ["state", "heads", "core", "head", "budget", "body", "items", "name"], top 50⟩
def d__law_plainly : Df := ⟨["e", "states"], ["e", "states", "kind", "name", "inner", "left", "right"], top 51⟩
def d__law_comparisons : Df := ⟨["c"], ["c", "found", "part"], top 52⟩
def d__law_both_ways : Df := ⟨["f", "g"], ["f", "g"], top 53⟩
def d__law_due : Df := ⟨["p", "moved"], ["p", "moved", "states", "found", "item", "s", "kind", "e", "f", "one", "other", "pair", "x", "due", "g", "name"], top 54⟩
def d__law_steady : Df := ⟨["e", "states"], ["e", "states"], top 55⟩
def d__law_hinted : Df := ⟨["state", "p", "moved"], ["state", "p", "moved", "names", "hints", "turn", "f", "item", "x"], top 56⟩
def d_law : Df := ⟨["script"], ["script", "state", "turn", "core", "table", "p"], top 57⟩
def tbl : List (Str × Df) := [(("form" : Str), d_form), (("variable" : Str), d_variable), (("plus" : Str), d_plus), (("times" : Str), d_times), (("minus" : Str), d_minus), (("statements_in" : Str), d_statements_in), (("proc_named" : Str), d_proc_named), (("assigned_in" : Str), d_assigned_in), (("passed_on" : Str), d_passed_on), (("moving_table" : Str), d_moving_table), (("variable_of" : Str), d_variable_of), (("moving_items" : Str), d_moving_items), (("states_of_proc" : Str), d_states_of_proc), (("states_of" : Str), d_states_of), (("without_doubles" : Str), d_without_doubles), (("comparisons_of" : Str), d_comparisons_of), (("plain_form" : Str), d_plain_form), (("comparison_forms" : Str), d_comparison_forms), (("is_steady" : Str), d_is_steady), (("set_forms" : Str), d_set_forms), (("differences" : Str), d_differences), (("point_candidates" : Str), d_point_candidates), (("differences_of" : Str), d_differences_of), (("_law_start" : Str), d__law_start), (("_law_draw" : Str), d__law_draw), (("_law_one_of" : Str), d__law_one_of), (("_law_shuffled" : Str), d__law_shuffled), (("_law_words" : Str), d__law_words), (("_law_is_int" : Str), d__law_is_int), (("_law_same" : Str), d__law_same), (("_law_form" : Str), d__law_form), (("_law_sum" : Str), d__law_sum), (("_law_var" : Str), d__law_var), (("_law_names" : Str), d__law_names), (("_law_key" : Str), d__law_key), (("_law_statements" : Str), d__law_statements), (("_law_moves" : Str), d__law_moves), (("_law_states" : Str), d__law_states), (("_law_wild_head" : Str), d__law_wild_head), (("_law_wild_value" : Str), d__law_wild_value), (("_law_wild_call" : Str), d__law_wild_call), (("_law_wild_test" : Str), d__law_wild_test), (("_law_wild_statement" : Str), d__law_wild_statement), (("_law_wild_block" : Str), d__law_wild_block), (("_law_wild_core" : Str), d__law_wild_core), (("_law_plainly" : Str), d__law_plainly), (("_law_comparisons" : Str), d__law_comparisons), (("_law_both_ways" : Str), d__law_both_ways), (("_law_due" : Str), d__law_due), (("_law_steady" : Str), d__law_steady), (("_law_hinted" : Str), d__law_hinted), (("law" : Str), d_law)]
def bls : List Str := ["abs", "all", "bool", "int", "isinstance", "len", "list", "range", "sorted", "str", "tuple", "zip"]
def csts : List (Str × D) := [(("ZERO" : Str), c_ZERO), (("MINUS_ONE" : Str), c_MINUS_ONE)]
def pg : Pg := ⟨fun x => bls.contains x, fun x => List.lookup x csts, fun x => List.lookup x tbl⟩
def m_form (k : Nat) : SM :=
  (sCons (sSet 2 dictNew)
  (sCons (sFor (iVal (eVar 1)) (gTp 2 (gsCons (gNm 3) (gsCons (gNm 4) gsNil))) (sCons (sAsg (gSb (eVar 2) (eVar 3)) (eBin (pBin .Add) (eMeth "get" (eVar 2) (aCons (eVar 3) (aCons (eC (.int 0)) aNil))) (eVar 4)))
  sNil))
  (sCons (sRet (eA mkTup (aCons (eVar 0) (aCons (eL lTup (fLc (iFix (fSorted (eVar 2))) (gNm 3) (tOfB (eBin (pCmp .NotEq) (eBin pIx (eVar 2) (eVar 3)) (eC (.int 0)))) (eA mkTup (aCons (eVar 3) (aCons (eBin pIx (eVar 2) (eVar 3)) aNil))) [3])) aNil))))
  sNil)))
def m_variable (k : Nat) : SM :=
  (sCons (sRet (eA mkTup (aCons (eC (.int 0)) (aCons (eA mkTup (aCons (eA mkTup (aCons (eVar 0) (aCons (eC (.int 1)) aNil))) aNil)) aNil))))
  sNil)
def m_plus (k : Nat) : SM :=
  (sCons (sIf (tNt (tOfT (eBin pIx (eVar 1) (eC (.int 1))))) (sCons (sRet (eA mkTup (aCons (eBin (pBin .Add) (eBin pIx (eVar 0) (eC (.int 0))) (eBin pIx (eVar 1) (eC (.int 0)))) (aCons (eBin pIx (eVar 0) (eC (.int 1))) aNil))))
  sNil) sNil)
  (sCons (sRet (eCall 2 (callP pg k "form") (aCons (eBin (pBin .Add) (eBin pIx (eVar 0) (eC (.int 0))) (eBin pIx (eVar 1) (eC (.int 0)))) (aCons (eBin (pBin .Add) (eBin pIx (eVar 0) (eC (.int 1))) (eBin pIx (eVar 1) (eC (.int 1)))) aNil))))
  sNil))
def m_times (k : Nat) : SM :=
  (sCons (sIf (tOfB (eBin (pCmp .Eq) (eVar 0) (eC (.int 0)))) (sCons (sRet (eC c_ZERO))
  sNil) sNil)
  (sCons (sRet (eA mkTup (aCons (eBin (pBin .Mult) (eVar 0) (eBin pIx (eVar 1) (eC (.int 0)))) (aCons (eL lTup (fLc (iVal (eBin pIx (eVar 1) (eC (.int 1)))) (gTp 2 (gsCons (gNm 2) (gsCons (gNm 3) gsNil))) tYesM (eA mkTup (aCons (eVar 2) (aCons (eBin (pBin .Mult) (eVar 0) (eVar 3)) aNil))) [2, 3])) aNil))))
  sNil))
def m_minus (k : Nat) : SM :=
  (sCons (sRet (eCall 2 (callP pg k "plus") (aCons (eVar 0) (aCons (eCall 2 (callP pg k "times") (aCons (eUn pNeg (eC (.int 1))) (aCons (eVar 1) aNil))) aNil))))
  sNil)
def m_statements_in (k : Nat) : SM :=
  (sCons (sSet 1 (eA mkLst aNil))
  (sCons (sFor (iVal (eVar 0)) (gNm 2) (sCons (sExpr (eMeth "append" (eVar 1) (aCons (eVar 2) aNil)))
  (sCons (sIf (tOfB (eBin (pCmp .In) (eBin pIx (eVar 2) (eC (.int 0))) (eA mkTup (aCons (eC (.str "if")) (aCons (eC (.str "while")) aNil))))) (sCons (sFor (iVal (eSl (eVar 2) (oSome (eC (.int 2))) oNone)) (gNm 3) (sCons (sExpr (eMeth "extend" (eVar 1) (aCons (eCall 1 (callP pg k "statements_in") (aCons (eVar 3) aNil)) aNil)))
  sNil))
  sNil) sNil)
  sNil)))
  (sCons (sRet (eVar 1))
  sNil)))
def m_proc_named (k : Nat) : SM :=
  (sCons (sRet (eBin pIx (eAlloc (fLc (iVal (eVar 0)) (gNm 2) (tOfB (eBin (pCmp .Eq) (eBin pIx (eVar 2) (eC (.int 0))) (eVar 1))) (eVar 2) [2])) (eC (.int 0))))
  sNil)
def m_assigned_in (k : Nat) : SM :=
  (sCons (sSet 1 (eA mkLst aNil))
  (sCons (sFor (iVal (eCall 1 (callP pg k "statements_in") (aCons (eBin pIx (eVar 0) (eC (.int 8))) aNil))) (gNm 2) (sCons (sIf (tOfB (eBin (pCmp .Eq) (eBin pIx (eVar 2) (eC (.int 0))) (eC (.str "set")))) (sCons (sExpr (eMeth "extend" (eVar 1) (aCons (eAlloc (fLc (iVal (eBin pIx (eVar 2) (eC (.int 1)))) (gTp 2 (gsCons (gNm 3) (gsCons (gNm 4) gsNil))) tYesM (eVar 3) [3, 4])) aNil)))
  sNil) (sCons (sIf (tOfB (eBin (pCmp .Eq) (eBin pIx (eVar 2) (eC (.int 0))) (eC (.str "pop")))) (sCons (sExpr (eMeth "extend" (eVar 1) (aCons (eA mkLst (aCons (eBin pIx (eVar 2) (eC (.int 1))) (aCons (eBin (pBin .Add) (eC (.str "#")) (eBin pIx (eVar 2) (eC (.int 2)))) aNil))) aNil)))
  sNil) (sCons (sIf (tOfB (eBin (pCmp .Eq) (eBin pIx (eVar 2) (eC (.int 0))) (eC (.str "push")))) (sCons (sExpr (eMeth "append" (eVar 1) (aCons (eBin (pBin .Add) (eC (.str "#")) (eBin pIx (eVar 2) (eC (.int 2)))) aNil)))
  sNil) (sCons (sIf (tOfB (eBin (pCmp .Eq) (eBin pIx (eVar 2) (eC (.int 0))) (eC (.str "call")))) (sCons (sExpr (eMeth "extend" (eVar 1) (aCons (eBin pIx (eVar 2) (eC (.int 3))) aNil)))
  sNil) sNil)
  sNil))
  sNil))
  sNil))
  sNil))
  (sCons (sRet (eVar 1))
  sNil)))
def m_passed_on (k : Nat) : SM :=
  (sCons (sSet 3 (eA mkLst aNil))
  (sCons (sFor (iVal (eCall 1 (callP pg k "statements_in") (aCons (eBin pIx (eVar 2) (eC (.int 8))) aNil))) (gNm 4) (sCons (sIf (tOfB (eBin (pCmp .Eq) (eBin pIx (eVar 4) (eC (.int 0))) (eC (.str "call")))) (sCons (sSet 5 (eBin pIx (eCall 2 (callP pg k "proc_named") (aCons (eVar 0) (aCons (eBin pIx (eVar 4) (eC (.int 1))) aNil))) (eC (.int 1))))
  (sCons (sFor (iZip' (aCons (eVar 5) (aCons (eBin pIx (eVar 4) (eC (.int 2))) aNil))) (gTp 2 (gsCons (gNm 6) (gsCons (gNm 7) gsNil))) (sCons (sIf (tAn (tOfB (eBin (pCmp .Eq) (eBin pIx (eVar 6) (eC (.int 0))) (eC (.str "array")))) (tOfB (eBin (pCmp .In) (eBin (pBin .Add) (eC (.str "#")) (eBin pIx (eVar 6) (eC (.int 1)))) (eBin pIx (eVar 1) (eBin pIx (eVar 4) (eC (.int 1))))))) (sCons (sExpr (eMeth "append" (eVar 3) (aCons (eBin (pBin .Add) (eC (.str "#")) (eBin pIx (eVar 7) (eC (.int 1)))) aNil)))
  sNil) sNil)
  sNil))
  sNil)) sNil)
  sNil))
  (sCons (sRet (eVar 3))
  sNil)))
def m_moving_table (k : Nat) : SM :=
  (sCons (sSet 1 (eAllocD (fDc (iVal (eVar 0)) (gNm 3) tYesM (eBin pIx (eVar 3) (eC (.int 0))) (eCall 1 (callP pg k "assigned_in") (aCons (eVar 3) aNil)) [3])))
  (sCons (sSet 2 (eC (.bl true)))
  (sCons (sWhile (tOfT (eVar 2)) (sCons (sSet 2 (eC (.bl false)))
  (sCons (sFor (iVal (eVar 0)) (gNm 3) (sCons (sFor (iVal (eCall 3 (callP pg k "passed_on") (aCons (eVar 0) (aCons (eVar 1) (aCons (eVar 3) aNil))))) (gNm 4) (sCons (sIf (tOfB (eBin (pCmp .NotIn) (eVar 4) (eBin pIx (eVar 1) (eBin pIx (eVar 3) (eC (.int 0)))))) (sCons (sExpr (eMeth "append" (eBin pIx (eVar 1) (eBin pIx (eVar 3) (eC (.int 0)))) (aCons (eVar 4) aNil)))
  (sCons (sSet 2 (eC (.bl true)))
  sNil)) sNil)
  sNil))
  sNil))
  sNil)))
  (sCons (sRet (eVar 1))
  sNil))))
def m_variable_of (k : Nat) : SM :=
  (sCons (sIf (tOfB (eBin (pCmp .Eq) (eBin pIx (eVar 0) (eC (.int 0))) (eC (.str "array")))) (sCons (sRet (eBin (pBin .Add) (eC (.str "#")) (eBin pIx (eVar 0) (eC (.int 1)))))
  sNil) sNil)
  (sCons (sRet (eBin pIx (eVar 0) (eC (.int 1))))
  sNil))
def m_moving_items (k : Nat) : SM :=
  (sCons (sRet (eAlloc (fLc (iVal (eBin pIx (eVar 0) (eC (.int 1)))) (gNm 2) (tOfB (eBin (pCmp .In) (eCall 1 (callP pg k "variable_of") (aCons (eVar 2) aNil)) (eBin pIx (eVar 1) (eBin pIx (eVar 0) (eC (.int 0)))))) (eVar 2) [2])))
  sNil)
def m_states_of_proc (k : Nat) : SM :=
  (sCons (sRet (eL lTup (fLc (iVal (eBin (pBin .Add) (eCall 2 (callP pg k "moving_items") (aCons (eVar 0) (aCons (eVar 1) aNil))) (eAlloc (fList (lOfE (eBin pIx (eVar 0) (eC (.int 3)))))))) (gNm 2) tYesM (eCall 1 (callP pg k "variable_of") (aCons (eVar 2) aNil)) [2])))
  sNil)
def m_states_of (k : Nat) : SM :=
  (sCons (sRet (eCall 2 (callP pg k "states_of_proc") (aCons (eCall 2 (callP pg k "proc_named") (aCons (eVar 0) (aCons (eVar 1) aNil))) (aCons (eCall 1 (callP pg k "moving_table") (aCons (eVar 0) aNil)) aNil))))
  sNil)
def m_without_doubles (k : Nat) : SM :=
  (sCons (sSet 1 (eA mkLst (aCons (eBin pIx (eVar 0) (eC (.int 0))) aNil)))
  (sCons (sFor (iVal (eSl (eVar 0) (oSome (eC (.int 1))) oNone)) (gNm 2) (sCons (sIf (tAn (tOfT (eBin pIx (eVar 2) (eC (.int 1)))) (tOfB (eBin (pCmp .NotIn) (eVar 2) (eVar 1)))) (sCons (sExpr (eMeth "append" (eVar 1) (aCons (eVar 2) aNil)))
  sNil) sNil)
  sNil))
  (sCons (sRet (eL lTup (lOfE (eVar 1))))
  sNil)))
def m_comparisons_of (k : Nat) : SM :=
  (sCons (sIf (tOfB (eBin (pCmp .In) (eBin pIx (eVar 0) (eC (.int 0))) (eA mkTup (aCons (eC (.str "less")) (aCons (eC (.str "same")) aNil))))) (sCons (sRet (eA mkLst (aCons (eVar 0) aNil)))
  sNil) sNil)
  (sCons (sSet 1 (eA mkLst aNil))
  (sCons (sFor (iVal (eSl (eVar 0) (oSome (eC (.int 1))) oNone)) (gNm 2) (sCons (sExpr (eMeth "extend" (eVar 1) (aCons (eCall 1 (callP pg k "comparisons_of") (aCons (eVar 2) aNil)) aNil)))
  sNil))
  (sCons (sRet (eVar 1))
  sNil))))
def m_plain_form (k : Nat) : SM :=
  (sCons (sSet 2 (eBin pIx (eVar 0) (eC (.int 0))))
  (sCons (sIf (tOfB (eBin (pCmp .Eq) (eVar 2) (eC (.str "number")))) (sCons (sRet (eA mkTup (aCons (eBin pIx (eVar 0) (eC (.int 1))) (aCons (eA mkTup aNil) aNil))))
  sNil) sNil)
  (sCons (sIf (tOr' (tOfB (eBin (pCmp .Eq) (eVar 2) (eC (.str "name")))) (tOfB (eBin (pCmp .Eq) (eVar 2) (eC (.str "length"))))) (sCons (sSet 3 (eIf (tOfB (eBin (pCmp .Eq) (eVar 2) (eC (.str "length")))) (eBin (pBin .Add) (eC (.str "#")) (eBin pIx (eVar 0) (eC (.int 1)))) (eBin pIx (eVar 0) (eC (.int 1)))))
  (sCons (sRet (eIf (tOfB (eBin (pCmp .In) (eVar 3) (eVar 1))) (eCall 1 (callP pg k "variable") (aCons (eVar 3) aNil)) (eCall 1 (callP pg k "variable") (aCons (eBin (pBin .Add) (eC (.str "@")) (eVar 3)) aNil))))
  sNil)) sNil)
  (sCons (sIf (tOfB (eBin (pCmp .Eq) (eVar 2) (eC (.str "scale")))) (sCons (sSet 4 (eCall 2 (callP pg k "plain_form") (aCons (eBin pIx (eVar 0) (eC (.int 2))) (aCons (eVar 1) aNil))))
  (sCons (sRet (eIf (tOfB (eBin (pCmp .Is) (eVar 4) (eC .non))) (eC .non) (eCall 2 (callP pg k "times") (aCons (eBin pIx (eVar 0) (eC (.int 1))) (aCons (eVar 4) aNil)))))
  sNil)) sNil)
  (sCons (sIf (tOr' (tOfB (eBin (pCmp .Eq) (eVar 2) (eC (.str "plus")))) (tOfB (eBin (pCmp .Eq) (eVar 2) (eC (.str "minus"))))) (sCons (sSet 5 (eCall 2 (callP pg k "plain_form") (aCons (eBin pIx (eVar 0) (eC (.int 1))) (aCons (eVar 1) aNil))))
  (sCons (sSet 6 (eCall 2 (callP pg k "plain_form") (aCons (eBin pIx (eVar 0) (eC (.int 2))) (aCons (eVar 1) aNil))))
  (sCons (sIf (tOr' (tOfB (eBin (pCmp .Is) (eVar 5) (eC .non))) (tOfB (eBin (pCmp .Is) (eVar 6) (eC .non)))) (sCons (sRet (eC .non))
  sNil) sNil)
  (sCons (sRet (eIf (tOfB (eBin (pCmp .Eq) (eVar 2) (eC (.str "plus")))) (eCall 2 (callP pg k "plus") (aCons (eVar 5) (aCons (eVar 6) aNil))) (eCall 2 (callP pg k "minus") (aCons (eVar 5) (aCons (eVar 6) aNil)))))
  sNil)))) sNil)
  (sCons (sRet (eC .non))
  sNil))))))
def m_comparison_forms (k : Nat) : SM :=
  (sCons (sSet 2 (eCall 2 (callP pg k "plain_form") (aCons (eBin pIx (eVar 0) (eC (.int 1))) (aCons (eVar 1) aNil))))
  (sCons (sSet 3 (eCall 2 (callP pg k "plain_form") (aCons (eBin pIx (eVar 0) (eC (.int 2))) (aCons (eVar 1) aNil))))
  (sCons (sIf (tOr' (tOfB (eBin (pCmp .Is) (eVar 2) (eC .non))) (tOfB (eBin (pCmp .Is) (eVar 3) (eC .non)))) (sCons (sRet (eA mkLst aNil))
  sNil) sNil)
  (sCons (sSet 4 (eCall 2 (callP pg k "minus") (aCons (eVar 2) (aCons (eVar 3) aNil))))
  (sCons (sSet 5 (eCall 2 (callP pg k "minus") (aCons (eVar 3) (aCons (eVar 2) aNil))))
  (sCons (sRet (eA mkLst (aCons (eVar 4) (aCons (eVar 5) (aCons (eCall 2 (callP pg k "plus") (aCons (eVar 4) (aCons (eC c_MINUS_ONE) aNil))) (aCons (eCall 2 (callP pg k "plus") (aCons (eVar 5) (aCons (eC c_MINUS_ONE) aNil))) aNil))))))
  sNil))))))
def m_is_steady (k : Nat) : SM :=
  (sCons (sSet 2 (eBin pIx (eVar 0) (eC (.int 0))))
  (sCons (sIf (tOfB (eBin (pCmp .Eq) (eVar 2) (eC (.str "name")))) (sCons (sRet (eBin (pCmp .NotIn) (eBin pIx (eVar 0) (eC (.int 1))) (eVar 1)))
  sNil) sNil)
  (sCons (sIf (tOfB (eBin (pCmp .Eq) (eVar 2) (eC (.str "length")))) (sCons (sRet (eBin (pCmp .NotIn) (eBin (pBin .Add) (eC (.str "#")) (eBin pIx (eVar 0) (eC (.int 1)))) (eVar 1)))
  sNil) sNil)
  (sCons (sIf (tOfB (eBin (pCmp .Eq) (eVar 2) (eC (.str "scale")))) (sCons (sRet (eCall 2 (callP pg k "is_steady") (aCons (eBin pIx (eVar 0) (eC (.int 2))) (aCons (eVar 1) aNil))))
  sNil) sNil)
  (sCons (sIf (tOr' (tOfB (eBin (pCmp .Eq) (eVar 2) (eC (.str "plus")))) (tOfB (eBin (pCmp .Eq) (eVar 2) (eC (.str "minus"))))) (sCons (sRet (eAn (eCall 2 (callP pg k "is_steady") (aCons (eBin pIx (eVar 0) (eC (.int 1))) (aCons (eVar 1) aNil))) (eCall 2 (callP pg k "is_steady") (aCons (eBin pIx (eVar 0) (eC (.int 2))) (aCons (eVar 1) aNil)))))
  sNil) sNil)
  (sCons (sRet (eBin (pCmp .Eq) (eVar 2) (eC (.str "number"))))
  sNil))))))
def m_set_forms (k : Nat) : SM :=
  (sCons (sIf (tNt (tOfT (eCall 2 (callP pg k "is_steady") (aCons (eVar 1) (aCons (eVar 2) aNil))))) (sCons (sRet (eA mkLst aNil))
  sNil) sNil)
  (sCons (sRet (eCall 2 (callP pg k "differences_of") (aCons (eCall 1 (callP pg k "variable") (aCons (eVar 0) aNil)) (aCons (eCall 2 (callP pg k "plain_form") (aCons (eVar 1) (aCons (eVar 2) aNil))) aNil))))
  sNil))
def m_differences (k : Nat) : SM :=
  (sCons (sSet 1 (eA mkLst aNil))
  (sCons (sFor (iVal (eVar 0)) (gNm 2) (sCons (sSet 3 (eCall 1 (callP pg k "variable") (aCons (eCall 1 (callP pg k "variable_of") (aCons (eVar 2) aNil)) aNil)))
  (sCons (sSet 4 (eCall 1 (callP pg k "variable") (aCons (eBin (pBin .Add) (eC (.str "@")) (eCall 1 (callP pg k "variable_of") (aCons (eVar 2) aNil))) aNil)))
  (sCons (sExpr (eMeth "extend" (eVar 1) (aCons (eA mkLst (aCons (eCall 2 (callP pg k "minus") (aCons (eVar 3) (aCons (eVar 4) aNil))) (aCons (eCall 2 (callP pg k "minus") (aCons (eVar 4) (aCons (eVar 3) aNil))) aNil))) aNil)))
  sNil))))
  (sCons (sRet (eVar 1))
  sNil)))
def m_point_candidates (k : Nat) : SM :=
  (sCons (sSet 2 (eCall 2 (callP pg k "proc_named") (aCons (eVar 0) (aCons (eVar 1) aNil))))
  (sCons (sSet 3 (eCall 2 (callP pg k "states_of") (aCons (eVar 0) (aCons (eVar 1) aNil))))
  (sCons (sSet 4 (eBin (pBin .Add) (eA mkLst (aCons (eC c_MINUS_ONE) aNil)) (eAlloc (fLc (iVal (eVar 3)) (gNm 10) tYesM (eCall 1 (callP pg k "variable") (aCons (eVar 10) aNil)) [10]))))
  (sCons (sExpr (eMeth "extend" (eVar 4) (aCons (eCall 1 (callP pg k "differences") (aCons (eCall 2 (callP pg k "moving_items") (aCons (eVar 2) (aCons (eCall 1 (callP pg k "moving_table") (aCons (eVar 0) aNil)) aNil))) aNil)) aNil)))
  (sCons (sSet 5 (eCall 1 (callP pg k "statements_in") (aCons (eBin pIx (eVar 2) (eC (.int 8))) aNil)))
  (sCons (sFor (iVal (eVar 5)) (gNm 6) (sCons (sIf (tOfB (eBin (pCmp .In) (eBin pIx (eVar 6) (eC (.int 0))) (eA mkTup (aCons (eC (.str "if")) (aCons (eC (.str "while")) aNil))))) (sCons (sFor (iVal (eCall 1 (callP pg k "comparisons_of") (aCons (eBin pIx (eVar 6) (eC (.int 1))) aNil))) (gNm 7) (sCons (sExpr (eMeth "extend" (eVar 4) (aCons (eCall 2 (callP pg k "comparison_forms") (aCons (eVar 7) (aCons (eVar 3) aNil))) aNil)))
  sNil))
  sNil) sNil)
  sNil))
  (sCons (sFor (iVal (eVar 5)) (gNm 6) (sCons (sIf (tOfB (eBin (pCmp .Eq) (eBin pIx (eVar 6) (eC (.int 0))) (eC (.str "set")))) (sCons (sFor (iVal (eBin pIx (eVar 6) (eC (.int 1)))) (gTp 2 (gsCons (gNm 8) (gsCons (gNm 9) gsNil))) (sCons (sExpr (eMeth "extend" (eVar 4) (aCons (eCall 3 (callP pg k "set_forms") (aCons (eVar 8) (aCons (eVar 9) (aCons (eVar 3) aNil)))) aNil)))
  sNil))
  sNil) sNil)
  sNil))
  (sCons (sRet (eCall 1 (callP pg k "without_doubles") (aCons (eBin (pBin .Add) (eVar 4) (eAlloc (fList (lOfE (eBin pIx (eVar 2) (eC (.int 5))))))) aNil)))
  sNil))))))))
def m_differences_of (k : Nat) : SM :=
  (sCons (sRet (eA mkLst (aCons (eCall 2 (callP pg k "minus") (aCons (eVar 0) (aCons (eVar 1) aNil))) (aCons (eCall 2 (callP pg k "minus") (aCons (eVar 1) (aCons (eVar 0) aNil))) aNil))))
  sNil)
def m__law_start (k : Nat) : SM :=
  (sCons (sRet (eA mkLst (aCons (eAlloc (fList (lOfE (eVar 0)))) (aCons (eC (.int 0)) (aCons (eC (.int 0)) (aCons (eC (.int 0)) aNil))))))
  sNil)
def m__law_draw (k : Nat) : SM :=
  (sCons (sAsg (gSb (eVar 0) (eC (.int 3))) (eBin (pBin .Add) (eBin pIx (eVar 0) (eC (.int 3))) (eC (.int 1))))
  (sCons (sIf (tOfB (eBin (pCmp .Gt) (eBin pIx (eVar 0) (eC (.int 2))) (eC (.int 0)))) (sCons (sSet 2 (eBin (pBin .Mod) (eA pIntC (aCons (eBin pIx (eVar 0) (eC (.int 2))) aNil)) (eVar 1)))
  (sCons (sAsg (gSb (eVar 0) (eC (.int 2))) (eBin (pBin .FloorDiv) (eBin pIx (eVar 0) (eC (.int 2))) (eVar 1)))
  (sCons (sRet (eVar 2))
  sNil))) sNil)
  (sCons (sSet 3 (eC (.int 0)))
  (sCons (sIf (tOfB (eBin (pCmp .Gt) (eA pLen (aCons (eBin pIx (eVar 0) (eC (.int 0))) aNil)) (eC (.int 0)))) (sCons (sSet 3 (eA pAbs (aCons (eBin pIx (eBin pIx (eVar 0) (eC (.int 0))) (eBin (pBin .Mod) (eA pIntC (aCons (eBin pIx (eVar 0) (eC (.int 1))) aNil)) (eA pLen (aCons (eBin pIx (eVar 0) (eC (.int 0))) aNil)))) aNil)))
  sNil) sNil)
  (sCons (sAsg (gSb (eVar 0) (eC (.int 1))) (eBin (pBin .Add) (eBin pIx (eVar 0) (eC (.int 1))) (eC (.int 1))))
  (sCons (sIf (tOfB (eBin (pCmp .GtE) (eVar 3) (eBin (pBin .Pow) (eC (.int 10)) (eC (.int 18))))) (sCons (sAsg (gSb (eVar 0) (eC (.int 2))) (eBin (pBin .FloorDiv) (eVar 3) (eVar 1)))
  (sCons (sRet (eBin (pBin .Mod) (eA pIntC (aCons (eVar 3) aNil)) (eVar 1)))
  sNil)) sNil)
  (sCons (sSet 4 (eBin (pBin .Mod) (eA pIntC (aCons (eBin (pBin .Add) (eBin (pBin .Mult) (eBin (pBin .Add) (eVar 3) (eC (.int 1))) (eC (.int 48271))) (eBin (pBin .Mult) (eBin pIx (eVar 0) (eC (.int 3))) (eC (.int 69621)))) aNil)) (eC (.int 2147483647))))
  (sCons (sSet 4 (eBin (pBin .Mod) (eA pIntC (aCons (eBin (pBin .Add) (eBin (pBin .Add) (eBin (pBin .Mult) (eVar 4) (eC (.int 16807))) (eBin (pBin .FloorDiv) (eVar 3) (eC (.int 97)))) (eBin pIx (eVar 0) (eC (.int 3)))) aNil)) (eC (.int 2147483629))))
  (sCons (sRet (eBin (pBin .Mod) (eBin (pBin .FloorDiv) (eVar 4) (eC (.int 11))) (eVar 1)))
  sNil)))))))))
def m__law_one_of (k : Nat) : SM :=
  (sCons (sRet (eBin pIx (eVar 1) (eCall 2 (callP pg k "_law_draw") (aCons (eVar 0) (aCons (eA pLen (aCons (eVar 1) aNil)) aNil)))))
  sNil)
def m__law_shuffled (k : Nat) : SM :=
  (sCons (sSet 2 (eA mkLst aNil))
  (sCons (sFor (iVal (eVar 1)) (gNm 3) (sCons (sExpr (eMeth "insert" (eVar 2) (aCons (eCall 2 (callP pg k "_law_draw") (aCons (eVar 0) (aCons (eBin (pBin .Add) (eA pLen (aCons (eVar 2) aNil)) (eC (.int 1))) aNil))) (aCons (eVar 3) aNil))))
  sNil))
  (sCons (sRet (eVar 2))
  sNil)))
def m__law_words (k : Nat) : SM :=
  (sCons (sSet 2 (eC (.str "abcdefghijklmnopqrstuvwxyz")))
  (sCons (sSet 3 (eCall 2 (callP pg k "_law_draw") (aCons (eVar 0) (aCons (eC (.int 26)) aNil))))
  (sCons (sSet 4 (eBin (pBin .Add) (eC (.int 1)) (eBin (pBin .Mult) (eC (.int 2)) (eCall 2 (callP pg k "_law_draw") (aCons (eVar 0) (aCons (eC (.int 6)) aNil))))))
  (sCons (sSet 5 (eSl (eC (.str "qxz")) oNone (oSome (eCall 2 (callP pg k "_law_draw") (aCons (eVar 0) (aCons (eC (.int 4)) aNil))))))
  (sCons (sIf (tOfB (eBin (pCmp .Eq) (eCall 2 (callP pg k "_law_draw") (aCons (eVar 0) (aCons (eC (.int 2)) aNil))) (eC (.int 0)))) (sCons (sRet (eAlloc (fLc (iRng1' (aCons (eVar 1) aNil)) (gNm 6) tYesM (eBin (pBin .Add) (eVar 5) (eBin pIx (eVar 2) (eBin (pBin .Mod) (eA pIntC (aCons (eBin (pBin .Add) (eVar 3) (eBin (pBin .Mult) (eVar 6) (eVar 4))) aNil)) (eC (.int 26))))) [6])))
  sNil) sNil)
  (sCons (sRet (eAlloc (fLc (iRng1' (aCons (eVar 1) aNil)) (gNm 6) tYesM (eBin (pBin .Add) (eBin pIx (eVar 2) (eBin (pBin .Mod) (eA pIntC (aCons (eBin (pBin .Add) (eVar 3) (eBin (pBin .Mult) (eVar 6) (eVar 4))) aNil)) (eC (.int 26)))) (eVar 5)) [6])))
  sNil))))))
def m__law_is_int (k : Nat) : SM :=
  (sCons (sRet (eAn (eA pIsi (aCons (eVar 0) (aCons (eC (.ty "int")) aNil))) (eNt (eA pIsi (aCons (eVar 0) (aCons (eC (.ty "bool")) aNil))))))
  sNil)
def m__law_same (k : Nat) : SM :=
  (sCons (sIf (tOfT (eA pIsi (aCons (eVar 1) (aCons (eC (.ty "tuple")) aNil)))) (sCons (sIf (tOr' (tNt (tOfT (eA pIsi (aCons (eVar 0) (aCons (eC (.ty "tuple")) aNil))))) (tOfB (eBin (pCmp .NotEq) (eA pLen (aCons (eVar 0) aNil)) (eA pLen (aCons (eVar 1) aNil))))) (sCons (sRet (eC (.bl false)))
  sNil) sNil)
  (sCons (sRet (eL lAll (fLc (iRng1' (aCons (eA pLen (aCons (eVar 1) aNil)) aNil)) (gNm 2) tYesM (eCall 2 (callP pg k "_law_same") (aCons (eBin pIx (eVar 0) (eVar 2)) (aCons (eBin pIx (eVar 1) (eVar 2)) aNil))) [2])))
  sNil)) sNil)
  (sCons (sIf (tOfT (eA pIsi (aCons (eVar 1) (aCons (eC (.ty "str")) aNil)))) (sCons (sRet (eAn (eA pIsi (aCons (eVar 0) (aCons (eC (.ty "str")) aNil))) (eBin (pCmp .Eq) (eVar 0) (eVar 1))))
  sNil) sNil)
  (sCons (sRet (eAn (eCall 1 (callP pg k "_law_is_int") (aCons (eVar 0) aNil)) (eBin (pCmp .Eq) (eVar 0) (eVar 1))))
  sNil)))
def m__law_form (k : Nat) : SM :=
  (sCons (sSet 2 dictNew)
  (sCons (sFor (iVal (eVar 1)) (gTp 2 (gsCons (gNm 3) (gsCons (gNm 4) gsNil))) (sCons (sAsg (gSb (eVar 2) (eVar 3)) (eBin (pBin .Add) (eMeth "get" (eVar 2) (aCons (eVar 3) (aCons (eC (.int 0)) aNil))) (eVar 4)))
  sNil))
  (sCons (sRet (eA mkTup (aCons (eVar 0) (aCons (eL lTup (fLc (iFix (fSorted (eVar 2))) (gNm 3) (tOfB (eBin (pCmp .NotEq) (eBin pIx (eVar 2) (eVar 3)) (eC (.int 0)))) (eA mkTup (aCons (eVar 3) (aCons (eBin pIx (eVar 2) (eVar 3)) aNil))) [3])) aNil))))
  sNil)))
def m__law_sum (k : Nat) : SM :=
  (sCons (sSet 1 (eC (.int 0)))
  (sCons (sSet 2 (eA mkLst aNil))
  (sCons (sFor (iVal (eVar 0)) (gTp 2 (gsCons (gNm 3) (gsCons (gNm 4) gsNil))) (sCons (sSet 1 (eBin (pBin .Add) (eVar 1) (eBin (pBin .Mult) (eVar 3) (eBin pIx (eVar 4) (eC (.int 0))))))
  (sCons (sFor (iVal (eBin pIx (eVar 4) (eC (.int 1)))) (gTp 2 (gsCons (gNm 5) (gsCons (gNm 6) gsNil))) (sCons (sExpr (eMeth "append" (eVar 2) (aCons (eA mkTup (aCons (eVar 5) (aCons (eBin (pBin .Mult) (eVar 3) (eVar 6)) aNil))) aNil)))
  sNil))
  sNil)))
  (sCons (sRet (eCall 2 (callP pg k "_law_form") (aCons (eVar 1) (aCons (eVar 2) aNil))))
  sNil))))
def m__law_var (k : Nat) : SM :=
  (sCons (sRet (eA mkTup (aCons (eC (.int 0)) (aCons (eA mkTup (aCons (eA mkTup (aCons (eVar 0) (aCons (eC (.int 1)) aNil))) aNil)) aNil))))
  sNil)
def m__law_names (k : Nat) : SM :=
  (sCons (sSet 1 (eA mkLst aNil))
  (sCons (sFor (iVal (eVar 0)) (gNm 2) (sCons (sFor (iVal (eBin pIx (eVar 2) (eC (.int 1)))) (gTp 2 (gsCons (gNm 3) (gsCons (gNm 4) gsNil))) (sCons (sIf (tOfB (eBin (pCmp .NotIn) (eVar 3) (eVar 1))) (sCons (sExpr (eMeth "append" (eVar 1) (aCons (eVar 3) aNil)))
  sNil) sNil)
  sNil))
  sNil))
  (sCons (sRet (eAlloc (fSorted (eVar 1))))
  sNil)))
def m__law_key (k : Nat) : SM :=
  (sCons (sIf (tOfB (eBin (pCmp .Eq) (eBin pIx (eVar 0) (eC (.int 0))) (eC (.str "array")))) (sCons (sRet (eBin (pBin .Add) (eC (.str "#")) (eBin pIx (eVar 0) (eC (.int 1)))))
  sNil) sNil)
  (sCons (sRet (eBin pIx (eVar 0) (eC (.int 1))))
  sNil))
def m__law_statements (k : Nat) : SM :=
  (sCons (sSet 1 (eA mkLst aNil))
  (sCons (sFor (iVal (eVar 0)) (gNm 2) (sCons (sExpr (eMeth "append" (eVar 1) (aCons (eVar 2) aNil)))
  (sCons (sIf (tOfB (eBin (pCmp .Eq) (eBin pIx (eVar 2) (eC (.int 0))) (eC (.str "while")))) (sCons (sSet 1 (eBin (pBin .Add) (eVar 1) (eCall 1 (callP pg k "_law_statements") (aCons (eBin pIx (eVar 2) (eC (.int 2))) aNil))))
  sNil) (sCons (sIf (tOfB (eBin (pCmp .Eq) (eBin pIx (eVar 2) (eC (.int 0))) (eC (.str "if")))) (sCons (sSet 1 (eBin (pBin .Add) (eBin (pBin .Add) (eVar 1) (eCall 1 (callP pg k "_law_statements") (aCons (eBin pIx (eVar 2) (eC (.int 2))) aNil))) (eCall 1 (callP pg k "_law_statements") (aCons (eBin pIx (eVar 2) (eC (.int 3))) aNil))))
  sNil) sNil)
  sNil))
  sNil)))
  (sCons (sRet (eVar 1))
  sNil)))
def m__law_moves (k : Nat) : SM :=
  (sCons (sSet 1 dictNew)
  (sCons (sFor (iVal (eVar 0)) (gNm 2) (sCons (sSet 3 (eA mkLst aNil))
  (sCons (sFor (iVal (eCall 1 (callP pg k "_law_statements") (aCons (eBin pIx (eVar 2) (eC (.int 8))) aNil))) (gNm 4) (sCons (sIf (tOfB (eBin (pCmp .Eq) (eBin pIx (eVar 4) (eC (.int 0))) (eC (.str "set")))) (sCons (sSet 3 (eBin (pBin .Add) (eVar 3) (eAlloc (fLc (iVal (eBin pIx (eVar 4) (eC (.int 1)))) (gTp 2 (gsCons (gNm 8) (gsCons (gNm 9) gsNil))) tYesM (eVar 8) [8, 9]))))
  sNil) (sCons (sIf (tOfB (eBin (pCmp .Eq) (eBin pIx (eVar 4) (eC (.int 0))) (eC (.str "pop")))) (sCons (sSet 3 (eBin (pBin .Add) (eVar 3) (eA mkLst (aCons (eBin pIx (eVar 4) (eC (.int 1))) (aCons (eBin (pBin .Add) (eC (.str "#")) (eBin pIx (eVar 4) (eC (.int 2)))) aNil)))))
  sNil) (sCons (sIf (tOfB (eBin (pCmp .Eq) (eBin pIx (eVar 4) (eC (.int 0))) (eC (.str "push")))) (sCons (sExpr (eMeth "append" (eVar 3) (aCons (eBin (pBin .Add) (eC (.str "#")) (eBin pIx (eVar 4) (eC (.int 2)))) aNil)))
  sNil) (sCons (sIf (tOfB (eBin (pCmp .Eq) (eBin pIx (eVar 4) (eC (.int 0))) (eC (.str "call")))) (sCons (sSet 3 (eBin (pBin .Add) (eVar 3) (eAlloc (fList (lOfE (eBin pIx (eVar 4) (eC (.int 3))))))))
  sNil) sNil)
  sNil))
  sNil))
  sNil))
  sNil))
  (sCons (sAsg (gSb (eVar 1) (eBin pIx (eVar 2) (eC (.int 0)))) (eVar 3))
  sNil))))
  (sCons (sFor (iRng1' (aCons (eC (.int 20)) aNil)) (gNm 5) (sCons (sFor (iVal (eVar 0)) (gNm 2) (sCons (sFor (iVal (eCall 1 (callP pg k "_law_statements") (aCons (eBin pIx (eVar 2) (eC (.int 8))) aNil))) (gNm 4) (sCons (sIf (tOfB (eBin (pCmp .Eq) (eBin pIx (eVar 4) (eC (.int 0))) (eC (.str "call")))) (sCons (sSet 6 (eBin pIx (eBin pIx (eAlloc (fLc (iVal (eVar 0)) (gNm 10) (tOfB (eBin (pCmp .Eq) (eBin pIx (eVar 10) (eC (.int 0))) (eBin pIx (eVar 4) (eC (.int 1))))) (eVar 10) [10])) (eC (.int 0))) (eC (.int 1))))
  (sCons (sSet 7 (eAlloc (fLc (iRng1' (aCons (eA pLen (aCons (eVar 6) aNil)) aNil)) (gNm 11) (tOfB (eBin (pCmp .In) (eCall 1 (callP pg k "_law_key") (aCons (eBin pIx (eVar 6) (eVar 11)) aNil)) (eBin pIx (eVar 1) (eBin pIx (eVar 4) (eC (.int 1)))))) (eBin pIx (eBin pIx (eVar 4) (eC (.int 2))) (eVar 11)) [11])))
  (sCons (sAsg (gSb (eVar 1) (eBin pIx (eVar 2) (eC (.int 0)))) (eBin (pBin .Add) (eBin pIx (eVar 1) (eBin pIx (eVar 2) (eC (.int 0)))) (eAlloc (fLc (iVal (eVar 7)) (gNm 9) (tOfB (eBin (pCmp .Eq) (eBin pIx (eVar 9) (eC (.int 0))) (eC (.str "array")))) (eBin (pBin .Add) (eC (.str "#")) (eBin pIx (eVar 9) (eC (.int 1)))) [9]))))
  sNil))) sNil)
  sNil))
  sNil))
  sNil))
  (sCons (sRet (eVar 1))
  sNil))))
def m__law_states (k : Nat) : SM :=
  (sCons (sRet (eBin (pBin .Add) (eAlloc (fLc (iVal (eBin pIx (eVar 0) (eC (.int 1)))) (gNm 2) (tOfB (eBin (pCmp .In) (eCall 1 (callP pg k "_law_key") (aCons (eVar 2) aNil)) (eVar 1))) (eCall 1 (callP pg k "_law_key") (aCons (eVar 2) aNil)) [2])) (eAlloc (fLc (iVal (eBin pIx (eVar 0) (eC (.int 3)))) (gNm 2) tYesM (eCall 1 (callP pg k "_law_key") (aCons (eVar 2) aNil)) [2]))))
  sNil)
def m__law_wild_head (k : Nat) : SM :=
  (sCons (sSet 2 (eCall 2 (callP pg k "_law_words") (aCons (eVar 0) (aCons (eC (.int 7)) aNil))))
  (sCons (sSet 3 (eSl (eCall 2 (callP pg k "_law_shuffled") (aCons (eVar 0) (aCons (eA mkLst (aCons (eA mkTup (aCons (eC (.str "int")) (aCons (eBin pIx (eVar 2) (eC (.int 0))) aNil))) (aCons (eA mkTup (aCons (eC (.str "int")) (aCons (eBin pIx (eVar 2) (eC (.int 1))) aNil))) (aCons (eA mkTup (aCons (eC (.str "array")) (aCons (eBin pIx (eVar 2) (eC (.int 2))) aNil))) aNil)))) aNil))) (oSome (eCall 2 (callP pg k "_law_draw") (aCons (eVar 0) (aCons (eC (.int 3)) aNil)))) oNone))
  (sCons (sSet 4 (eA mkLst (aCons (eA mkTup (aCons (eC (.str "int")) (aCons (eBin pIx (eVar 2) (eC (.int 3))) aNil))) (aCons (eA mkTup (aCons (eC (.str "int")) (aCons (eBin (pBin .Add) (eBin (pBin .Add) (eBin pIx (eVar 2) (eC (.int 4))) (eC (.str "."))) (eBin pIx (eVar 2) (eC (.int 0)))) aNil))) (aCons (eA mkTup (aCons (eC (.str "array")) (aCons (eBin pIx (eVar 2) (eC (.int 5))) aNil))) (aCons (eA mkTup (aCons (eC (.str "array")) (aCons (eBin pIx (eVar 2) (eC (.int 6))) aNil))) aNil))))))
  (sCons (sSet 4 (eCall 2 (callP pg k "_law_shuffled") (aCons (eVar 0) (aCons (eVar 4) aNil))))
  (sCons (sSet 5 (eDisp [("name", (eVar 1)), ("items", (eVar 3)), ("places", (eVar 4)), ("results", (eSl (eA mkTup (aCons (eC (.str "result")) aNil)) oNone (oSome (eCall 2 (callP pg k "_law_draw") (aCons (eVar 0) (aCons (eC (.int 2)) aNil))))))]))
  (sCons (sAsg (gSb (eVar 5) (eC (.str "ints"))) (eAlloc (fLc (iVal (eBin (pBin .Add) (eVar 3) (eVar 4))) (gTp 2 (gsCons (gNm 6) (gsCons (gNm 7) gsNil))) (tOfB (eBin (pCmp .Eq) (eVar 6) (eC (.str "int")))) (eVar 7) [6, 7])))
  (sCons (sAsg (gSb (eVar 5) (eC (.str "arrays"))) (eAlloc (fLc (iVal (eBin (pBin .Add) (eVar 3) (eVar 4))) (gTp 2 (gsCons (gNm 6) (gsCons (gNm 7) gsNil))) (tOfB (eBin (pCmp .Eq) (eVar 6) (eC (.str "array")))) (eVar 7) [6, 7])))
  (sCons (sRet (eVar 5))
  sNil))))))))
def m__law_wild_value (k : Nat) : SM :=
  (sCons (sSet 4 (eA mkTup (aCons (eC (.str "name")) (aCons (eCall 2 (callP pg k "_law_one_of") (aCons (eVar 0) (aCons (eVar 1) aNil))) aNil))))
  (sCons (sSet 5 (eCall 2 (callP pg k "_law_draw") (aCons (eVar 0) (aCons (eC (.int 11)) aNil))))
  (sCons (sIf (tOr' (tOfB (eBin (pCmp .Lt) (eVar 5) (eC (.int 4)))) (tOfB (eBin (pCmp .Eq) (eVar 3) (eC (.int 0))))) (sCons (sRet (eVar 4))
  sNil) sNil)
  (sCons (sIf (tOfB (eBin (pCmp .Eq) (eVar 5) (eC (.int 4)))) (sCons (sRet (eA mkTup (aCons (eC (.str "number")) (aCons (eCall 2 (callP pg k "_law_draw") (aCons (eVar 0) (aCons (eC (.int 6)) aNil))) aNil))))
  sNil) sNil)
  (sCons (sIf (tOfB (eBin (pCmp .Eq) (eVar 5) (eC (.int 5)))) (sCons (sRet (eA mkTup (aCons (eC (.str "length")) (aCons (eCall 2 (callP pg k "_law_one_of") (aCons (eVar 0) (aCons (eVar 2) aNil))) aNil))))
  sNil) sNil)
  (sCons (sSet 6 (eCall 4 (callP pg k "_law_wild_value") (aCons (eVar 0) (aCons (eVar 1) (aCons (eVar 2) (aCons (eBin (pBin .Sub) (eVar 3) (eC (.int 1))) aNil))))))
  (sCons (sIf (tOfB (eBin (pCmp .Eq) (eVar 5) (eC (.int 6)))) (sCons (sRet (eA mkTup (aCons (eC (.str "item")) (aCons (eCall 2 (callP pg k "_law_one_of") (aCons (eVar 0) (aCons (eVar 2) aNil))) (aCons (eVar 6) aNil)))))
  sNil) sNil)
  (sCons (sIf (tOfB (eBin (pCmp .Eq) (eVar 5) (eC (.int 7)))) (sCons (sRet (eA mkTup (aCons (eBin pIx (eA mkLst (aCons (eC (.str "quotient")) (aCons (eC (.str "remainder")) aNil))) (eCall 2 (callP pg k "_law_draw") (aCons (eVar 0) (aCons (eC (.int 2)) aNil)))) (aCons (eVar 6) (aCons (eBin (pBin .Add) (eC (.int 1)) (eCall 2 (callP pg k "_law_draw") (aCons (eVar 0) (aCons (eC (.int 4)) aNil)))) aNil)))))
  sNil) sNil)
  (sCons (sIf (tOfB (eBin (pCmp .Eq) (eVar 5) (eC (.int 8)))) (sCons (sRet (eA mkTup (aCons (eC (.str "scale")) (aCons (eBin pIx (eA mkLst (aCons (eUn pNeg (eC (.int 1))) (aCons (eC (.int 2)) aNil))) (eCall 2 (callP pg k "_law_draw") (aCons (eVar 0) (aCons (eC (.int 2)) aNil)))) (aCons (eVar 6) aNil)))))
  sNil) sNil)
  (sCons (sRet (eA mkTup (aCons (eBin pIx (eA mkLst (aCons (eC (.str "plus")) (aCons (eC (.str "minus")) aNil))) (eCall 2 (callP pg k "_law_draw") (aCons (eVar 0) (aCons (eC (.int 2)) aNil)))) (aCons (eVar 6) (aCons (eA mkTup (aCons (eC (.str "number")) (aCons (eBin (pBin .Add) (eC (.int 1)) (eCall 2 (callP pg k "_law_draw") (aCons (eVar 0) (aCons (eC (.int 3)) aNil)))) aNil))) aNil)))))
  sNil))))))))))
def m__law_wild_call (k : Nat) : SM :=
  (sCons (sSet 3 (eCall 2 (callP pg k "_law_one_of") (aCons (eVar 0) (aCons (eVar 1) aNil))))
  (sCons (sSet 4 (eCall 2 (callP pg k "_law_shuffled") (aCons (eVar 0) (aCons (eBin pIx (eVar 2) (eC (.str "arrays"))) aNil))))
  (sCons (sSet 5 (eA mkLst aNil))
  (sCons (sFor (iVal (eBin pIx (eVar 3) (eC (.str "items")))) (gTp 2 (gsCons (gNm 6) (gsCons (gNm 7) gsNil))) (sCons (sIf (tOfB (eBin (pCmp .Eq) (eVar 6) (eC (.str "array")))) (sCons (sExpr (eMeth "append" (eVar 5) (aCons (eA mkTup (aCons (eC (.str "array")) (aCons (eMeth "pop" (eVar 4) aNil) aNil))) aNil)))
  sNil) (sCons (sExpr (eMeth "append" (eVar 5) (aCons (eCall 4 (callP pg k "_law_wild_value") (aCons (eVar 0) (aCons (eBin pIx (eVar 2) (eC (.str "ints"))) (aCons (eBin pIx (eVar 2) (eC (.str "arrays"))) (aCons (eC (.int 1)) aNil))))) aNil)))
  sNil))
  sNil))
  (sCons (sSet 8 (eA mkTup aNil))
  (sCons (sIf (tAn (tOfB (eBin (pCmp .NotEq) (eBin pIx (eVar 3) (eC (.str "results"))) (eA mkTup aNil))) (tOfB (eBin (pCmp .Gt) (eCall 2 (callP pg k "_law_draw") (aCons (eVar 0) (aCons (eC (.int 3)) aNil))) (eC (.int 0))))) (sCons (sSet 8 (eA mkTup (aCons (eCall 2 (callP pg k "_law_one_of") (aCons (eVar 0) (aCons (eBin pIx (eVar 2) (eC (.str "ints"))) aNil))) aNil)))
  sNil) sNil)
  (sCons (sRet (eA mkTup (aCons (eC (.str "call")) (aCons (eBin pIx (eVar 3) (eC (.str "name"))) (aCons (eL lTup (lOfE (eVar 5))) (aCons (eVar 8) aNil))))))
  sNil)))))))
def m__law_wild_test (k : Nat) : SM :=
  (sCons (sAsg (gSb (eVar 3) (eC (.int 0))) (eBin (pBin .Sub) (eBin pIx (eVar 3) (eC (.int 0))) (eC (.int 1))))
  (sCons (sSet 4 (eCall 4 (callP pg k "_law_wild_value") (aCons (eVar 0) (aCons (eVar 1) (aCons (eVar 2) (aCons (eC (.int 1)) aNil))))))
  (sCons (sSet 5 (eA mkTup (aCons (eBin pIx (eA mkLst (aCons (eC (.str "less")) (aCons (eC (.str "less")) (aCons (eC (.str "same")) aNil)))) (eCall 2 (callP pg k "_law_draw") (aCons (eVar 0) (aCons (eC (.int 3)) aNil)))) (aCons (eVar 4) (aCons (eCall 4 (callP pg k "_law_wild_value") (aCons (eVar 0) (aCons (eVar 1) (aCons (eVar 2) (aCons (eC (.int 1)) aNil))))) aNil)))))
  (sCons (sSet 6 (eCall 2 (callP pg k "_law_draw") (aCons (eVar 0) (aCons (eC (.int 6)) aNil))))
  (sCons (sIf (tOfB (eBin (pCmp .Eq) (eVar 6) (eC (.int 0)))) (sCons (sRet (eA mkTup (aCons (eC (.str "not")) (aCons (eVar 5) aNil))))
  sNil) sNil)
  (sCons (sIf (tAn (tOfB (eBin (pCmp .Eq) (eVar 6) (eC (.int 1)))) (tOfB (eBin (pCmp .Gt) (eBin pIx (eVar 3) (eC (.int 0))) (eC (.int 0))))) (sCons (sAsg (gSb (eVar 3) (eC (.int 0))) (eBin (pBin .Sub) (eBin pIx (eVar 3) (eC (.int 0))) (eC (.int 1))))
  (sCons (sRet (eA mkTup (aCons (eBin pIx (eA mkLst (aCons (eC (.str "and")) (aCons (eC (.str "or")) aNil))) (eCall 2 (callP pg k "_law_draw") (aCons (eVar 0) (aCons (eC (.int 2)) aNil)))) (aCons (eVar 5) (aCons (eA mkTup (aCons (eC (.str "less")) (aCons (eVar 4) (aCons (eA mkTup (aCons (eC (.str "number")) (aCons (eC (.int 3)) aNil))) aNil)))) aNil)))))
  sNil)) sNil)
  (sCons (sRet (eVar 5))
  sNil)))))))
def m__law_wild_statement (k : Nat) : SM :=
  (sCons (sSet 5 (eBin pIx (eVar 2) (eC (.str "ints"))))
  (sCons (sSet 6 (eBin pIx (eVar 2) (eC (.str "arrays"))))
  (sCons (sSet 7 (eCall 2 (callP pg k "_law_draw") (aCons (eVar 0) (aCons (eC (.int 14)) aNil))))
  (sCons (sSet 8 (eCall 2 (callP pg k "_law_one_of") (aCons (eVar 0) (aCons (eVar 5) aNil))))
  (sCons (sSet 9 (eCall 2 (callP pg k "_law_one_of") (aCons (eVar 0) (aCons (eVar 6) aNil))))
  (sCons (sIf (tOfB (eBin (pCmp .Eq) (eVar 7) (eC (.int 0)))) (sCons (sRet (eA mkTup (aCons (eC (.str "push")) (aCons (eCall 4 (callP pg k "_law_wild_value") (aCons (eVar 0) (aCons (eVar 5) (aCons (eVar 6) (aCons (eC (.int 1)) aNil))))) (aCons (eVar 9) aNil)))))
  sNil) sNil)
  (sCons (sIf (tOfB (eBin (pCmp .Eq) (eVar 7) (eC (.int 1)))) (sCons (sRet (eA mkTup (aCons (eC (.str "store")) (aCons (eVar 9) (aCons (eCall 4 (callP pg k "_law_wild_value") (aCons (eVar 0) (aCons (eVar 5) (aCons (eVar 6) (aCons (eC (.int 1)) aNil))))) (aCons (eCall 4 (callP pg k "_law_wild_value") (aCons (eVar 0) (aCons (eVar 5) (aCons (eVar 6) (aCons (eC (.int 1)) aNil))))) aNil))))))
  sNil) sNil)
  (sCons (sIf (tAn (tOfB (eBin (pCmp .Eq) (eVar 7) (eC (.int 2)))) (tOfB (eBin (pCmp .Gt) (eBin pIx (eVar 4) (eC (.int 0))) (eC (.int 0))))) (sCons (sAsg (gSb (eVar 4) (eC (.int 0))) (eBin (pBin .Sub) (eBin pIx (eVar 4) (eC (.int 0))) (eC (.int 1))))
  (sCons (sRet (eA mkTup (aCons (eC (.str "pop")) (aCons (eVar 8) (aCons (eVar 9) aNil)))))
  sNil)) sNil)
  (sCons (sIf (tOfB (eBin (pCmp .Eq) (eVar 7) (eC (.int 3)))) (sCons (sRet (eA mkTup (aCons (eC (.str "pause")) aNil)))
  sNil) sNil)
  (sCons (sIf (tAn (tOfB (eBin (pCmp .Lt) (eVar 7) (eC (.int 6)))) (tOfB (eBin (pCmp .Gt) (eVar 3) (eC (.int 0))))) (sCons (sRet (eCall 3 (callP pg k "_law_wild_call") (aCons (eVar 0) (aCons (eVar 1) (aCons (eVar 2) aNil)))))
  sNil) sNil)
  (sCons (sIf (tAn (tOfB (eBin (pCmp .Gt) (eVar 7) (eC (.int 9)))) (tAn (tOfB (eBin (pCmp .Gt) (eVar 3) (eC (.int 0)))) (tOfB (eBin (pCmp .Gt) (eBin pIx (eVar 4) (eC (.int 0))) (eC (.int 0)))))) (sCons (sSet 10 (eCall 4 (callP pg k "_law_wild_test") (aCons (eVar 0) (aCons (eVar 5) (aCons (eVar 6) (aCons (eVar 4) aNil))))))
  (sCons (sSet 11 (eCall 5 (callP pg k "_law_wild_block") (aCons (eVar 0) (aCons (eVar 1) (aCons (eVar 2) (aCons (eBin (pBin .Sub) (eVar 3) (eC (.int 1))) (aCons (eVar 4) aNil)))))))
  (sCons (sIf (tOfB (eBin (pCmp .Eq) (eVar 7) (eC (.int 10)))) (sCons (sSet 12 (eA mkTup (aCons (eC (.str "set")) (aCons (eA mkTup (aCons (eA mkTup (aCons (eVar 8) (aCons (eA mkTup (aCons (eC (.str "plus")) (aCons (eA mkTup (aCons (eC (.str "name")) (aCons (eVar 8) aNil))) (aCons (eA mkTup (aCons (eC (.str "number")) (aCons (eC (.int 1)) aNil))) aNil)))) aNil))) aNil)) aNil))))
  (sCons (sRet (eA mkTup (aCons (eC (.str "while")) (aCons (eA mkTup (aCons (eC (.str "less")) (aCons (eA mkTup (aCons (eC (.str "name")) (aCons (eVar 8) aNil))) (aCons (eA mkTup (aCons (eC (.str "number")) (aCons (eCall 2 (callP pg k "_law_draw") (aCons (eVar 0) (aCons (eC (.int 5)) aNil))) aNil))) aNil)))) (aCons (eBin (pBin .Add) (eVar 11) (eA mkTup (aCons (eVar 12) aNil))) aNil)))))
  sNil)) sNil)
  (sCons (sIf (tOfB (eBin (pCmp .Eq) (eVar 7) (eC (.int 11)))) (sCons (sRet (eA mkTup (aCons (eC (.str "while")) (aCons (eVar 10) (aCons (eVar 11) aNil)))))
  sNil) sNil)
  (sCons (sRet (eA mkTup (aCons (eC (.str "if")) (aCons (eVar 10) (aCons (eVar 11) (aCons (eCall 5 (callP pg k "_law_wild_block") (aCons (eVar 0) (aCons (eVar 1) (aCons (eVar 2) (aCons (eBin (pBin .Sub) (eVar 3) (eC (.int 1))) (aCons (eVar 4) aNil)))))) aNil))))))
  sNil))))) sNil)
  (sCons (sRet (eA mkTup (aCons (eC (.str "set")) (aCons (eA mkTup (aCons (eA mkTup (aCons (eVar 8) (aCons (eCall 4 (callP pg k "_law_wild_value") (aCons (eVar 0) (aCons (eVar 5) (aCons (eVar 6) (aCons (eC (.int 2)) aNil))))) aNil))) aNil)) aNil))))
  sNil))))))))))))
def m__law_wild_block (k : Nat) : SM :=
  (sCons (sSet 5 (eBin (pBin .Add) (eC (.int 1)) (eCall 2 (callP pg k "_law_draw") (aCons (eVar 0) (aCons (eC (.int 2)) aNil)))))
  (sCons (sRet (eL lTup (fLc (iRng1' (aCons (eVar 5) aNil)) (gNm 6) tYesM (eCall 5 (callP pg k "_law_wild_statement") (aCons (eVar 0) (aCons (eVar 1) (aCons (eVar 2) (aCons (eVar 3) (aCons (eVar 4) aNil)))))) [6])))
  sNil))
def m__law_wild_core (k : Nat) : SM :=
  (sCons (sSet 1 (eAlloc (fLc (iFix (fSorted (eCall 2 (callP pg k "_law_words") (aCons (eVar 0) (aCons (eBin (pBin .Add) (eC (.int 1)) (eCall 2 (callP pg k "_law_draw") (aCons (eVar 0) (aCons (eC (.int 2)) aNil)))) aNil))))) (gNm 7) tYesM (eCall 2 (callP pg k "_law_wild_head") (aCons (eVar 0) (aCons (eVar 7) aNil))) [7])))
  (sCons (sSet 2 (eA mkLst aNil))
  (sCons (sFor (iVal (eVar 1)) (gNm 3) (sCons (sSet 4 (eA mkLst (aCons (eC (.int 4)) aNil)))
  (sCons (sSet 5 (eBin (pBin .Add) (eCall 5 (callP pg k "_law_wild_block") (aCons (eVar 0) (aCons (eVar 1) (aCons (eVar 3) (aCons (eC (.int 2)) (aCons (eVar 4) aNil)))))) (eCall 5 (callP pg k "_law_wild_block") (aCons (eVar 0) (aCons (eVar 1) (aCons (eVar 3) (aCons (eC (.int 1)) (aCons (eVar 4) aNil))))))))
  (sCons (sIf (tOfB (eBin (pCmp .NotEq) (eBin pIx (eVar 3) (eC (.str "results"))) (eA mkTup aNil))) (sCons (sSet 5 (eBin (pBin .Add) (eVar 5) (eA mkTup (aCons (eA mkTup (aCons (eC (.str "give")) (aCons (eA mkTup (aCons (eCall 4 (callP pg k "_law_wild_value") (aCons (eVar 0) (aCons (eBin pIx (eVar 3) (eC (.str "ints"))) (aCons (eBin pIx (eVar 3) (eC (.str "arrays"))) (aCons (eC (.int 1)) aNil))))) aNil)) aNil))) aNil))))
  sNil) sNil)
  (sCons (sSet 6 (eL lTup (lOfE (eBin pIx (eVar 3) (eC (.str "items"))))))
  (sCons (sExpr (eMeth "append" (eVar 2) (aCons (eA mkTup (aCons (eBin pIx (eVar 3) (eC (.str "name"))) (aCons (eVar 6) (aCons (eBin pIx (eVar 3) (eC (.str "results"))) (aCons (eL lTup (lOfE (eBin pIx (eVar 3) (eC (.str "places"))))) (aCons (eA mkTup aNil) (aCons (eA mkTup aNil) (aCons (eA mkTup aNil) (aCons (eA mkTup aNil) (aCons (eVar 5) aNil)))))))))) aNil)))
  sNil))))))
  (sCons (sRet (eL lTup (lOfE (eVar 2))))
  sNil))))
def m__law_plainly (k : Nat) : SM :=
  (sCons (sSet 2 (eBin pIx (eVar 0) (eC (.int 0))))
  (sCons (sIf (tOfB (eBin (pCmp .Eq) (eVar 2) (eC (.str "number")))) (sCons (sRet (eA mkTup (aCons (eBin pIx (eVar 0) (eC (.int 1))) (aCons (eA mkTup aNil) aNil))))
  sNil) sNil)
  (sCons (sIf (tOfB (eBin (pCmp .In) (eVar 2) (eA mkLst (aCons (eC (.str "name")) (aCons (eC (.str "length")) aNil))))) (sCons (sSet 3 (eBin (pBin .Add) (eBin (pBin .Mult) (eC (.str "#")) (eA pIntC (aCons (eBin (pCmp .Eq) (eVar 2) (eC (.str "length"))) aNil))) (eBin pIx (eVar 0) (eC (.int 1)))))
  (sCons (sIf (tOfB (eBin (pCmp .In) (eVar 3) (eVar 1))) (sCons (sRet (eCall 1 (callP pg k "_law_var") (aCons (eVar 3) aNil)))
  sNil) sNil)
  (sCons (sRet (eCall 1 (callP pg k "_law_var") (aCons (eBin (pBin .Add) (eC (.str "@")) (eVar 3)) aNil)))
  sNil))) sNil)
  (sCons (sIf (tOfB (eBin (pCmp .Eq) (eVar 2) (eC (.str "scale")))) (sCons (sSet 4 (eCall 2 (callP pg k "_law_plainly") (aCons (eBin pIx (eVar 0) (eC (.int 2))) (aCons (eVar 1) aNil))))
  (sCons (sIf (tOfB (eBin (pCmp .Is) (eVar 4) (eC .non))) (sCons (sRet (eC .non))
  sNil) sNil)
  (sCons (sRet (eCall 1 (callP pg k "_law_sum") (aCons (eA mkLst (aCons (eA mkTup (aCons (eBin pIx (eVar 0) (eC (.int 1))) (aCons (eVar 4) aNil))) aNil)) aNil)))
  sNil))) sNil)
  (sCons (sIf (tOfB (eBin (pCmp .NotIn) (eVar 2) (eA mkLst (aCons (eC (.str "plus")) (aCons (eC (.str "minus")) aNil))))) (sCons (sRet (eC .non))
  sNil) sNil)
  (sCons (sSet 5 (eCall 2 (callP pg k "_law_plainly") (aCons (eBin pIx (eVar 0) (eC (.int 1))) (aCons (eVar 1) aNil))))
  (sCons (sSet 6 (eCall 2 (callP pg k "_law_plainly") (aCons (eBin pIx (eVar 0) (eC (.int 2))) (aCons (eVar 1) aNil))))
  (sCons (sIf (tOr' (tOfB (eBin (pCmp .Is) (eVar 5) (eC .non))) (tOfB (eBin (pCmp .Is) (eVar 6) (eC .non)))) (sCons (sRet (eC .non))
  sNil) sNil)
  (sCons (sRet (eCall 1 (callP pg k "_law_sum") (aCons (eA mkLst (aCons (eA mkTup (aCons (eC (.int 1)) (aCons (eVar 5) aNil))) (aCons (eA mkTup (aCons (eBin pIx (eA mkLst (aCons (eUn pNeg (eC (.int 1))) (aCons (eC (.int 1)) aNil))) (eA pIntC (aCons (eBin (pCmp .Eq) (eVar 2) (eC (.str "plus"))) aNil))) (aCons (eVar 6) aNil))) aNil))) aNil)))
  sNil)))))))))
def m__law_comparisons (k : Nat) : SM :=
  (sCons (sIf (tOfB (eBin (pCmp .In) (eBin pIx (eVar 0) (eC (.int 0))) (eA mkLst (aCons (eC (.str "less")) (aCons (eC (.str "same")) aNil))))) (sCons (sRet (eA mkLst (aCons (eVar 0) aNil)))
  sNil) sNil)
  (sCons (sSet 1 (eA mkLst aNil))
  (sCons (sFor (iVal (eSl (eVar 0) (oSome (eC (.int 1))) oNone)) (gNm 2) (sCons (sSet 1 (eBin (pBin .Add) (eVar 1) (eCall 1 (callP pg k "_law_comparisons") (aCons (eVar 2) aNil))))
  sNil))
  (sCons (sRet (eVar 1))
  sNil))))
def m__law_both_ways (k : Nat) : SM :=
  (sCons (sRet (eA mkLst (aCons (eCall 1 (callP pg k "_law_sum") (aCons (eA mkLst (aCons (eA mkTup (aCons (eC (.int 1)) (aCons (eVar 0) aNil))) (aCons (eA mkTup (aCons (eUn pNeg (eC (.int 1))) (aCons (eVar 1) aNil))) aNil))) aNil)) (aCons (eCall 1 (callP pg k "_law_sum") (aCons (eA mkLst (aCons (eA mkTup (aCons (eC (.int 1)) (aCons (eVar 1) aNil))) (aCons (eA mkTup (aCons (eUn pNeg (eC (.int 1))) (aCons (eVar 0) aNil))) aNil))) aNil)) aNil))))
  sNil)
def m__law_due (k : Nat) : SM :=
  (sCons (sSet 2 (eCall 2 (callP pg k "_law_states") (aCons (eVar 0) (aCons (eVar 1) aNil))))
  (sCons (sSet 3 (eBin (pBin .Add) (eA mkLst (aCons (eA mkTup (aCons (eUn pNeg (eC (.int 1))) (aCons (eA mkTup aNil) aNil))) aNil)) (eAlloc (fLc (iVal (eVar 2)) (gNm 12) tYesM (eCall 1 (callP pg k "_law_var") (aCons (eVar 12) aNil)) [12]))))
  (sCons (sFor (iVal (eBin pIx (eVar 0) (eC (.int 1)))) (gNm 4) (sCons (sIf (tOfB (eBin (pCmp .In) (eCall 1 (callP pg k "_law_key") (aCons (eVar 4) aNil)) (eVar 1))) (sCons (sSet 3 (eBin (pBin .Add) (eVar 3) (eCall 2 (callP pg k "_law_both_ways") (aCons (eCall 1 (callP pg k "_law_var") (aCons (eCall 1 (callP pg k "_law_key") (aCons (eVar 4) aNil)) aNil)) (aCons (eCall 1 (callP pg k "_law_var") (aCons (eBin (pBin .Add) (eC (.str "@")) (eCall 1 (callP pg k "_law_key") (aCons (eVar 4) aNil))) aNil)) aNil)))))
  sNil) sNil)
  sNil))
  (sCons (sFor (iVal (eCall 1 (callP pg k "_law_statements") (aCons (eBin pIx (eVar 0) (eC (.int 8))) aNil))) (gNm 5) (sCons (sIf (tOfB (eBin (pCmp .In) (eBin pIx (eVar 5) (eC (.int 0))) (eA mkLst (aCons (eC (.str "if")) (aCons (eC (.str "while")) aNil))))) (sCons (sFor (iVal (eCall 1 (callP pg k "_law_comparisons") (aCons (eBin pIx (eVar 5) (eC (.int 1))) aNil))) (gTp 3 (gsCons (gNm 6) (gsCons (gNm 7) (gsCons (gNm 8) gsNil)))) (sCons (sSet 9 (eCall 2 (callP pg k "_law_plainly") (aCons (eVar 7) (aCons (eVar 2) aNil))))
  (sCons (sSet 10 (eCall 2 (callP pg k "_law_plainly") (aCons (eVar 8) (aCons (eVar 2) aNil))))
  (sCons (sIf (tAn (tOfB (eBin (pCmp .IsNot) (eVar 9) (eC .non))) (tOfB (eBin (pCmp .IsNot) (eVar 10) (eC .non)))) (sCons (sSet 11 (eCall 2 (callP pg k "_law_both_ways") (aCons (eVar 9) (aCons (eVar 10) aNil))))
  (sCons (sSet 3 (eBin (pBin .Add) (eBin (pBin .Add) (eVar 3) (eVar 11)) (eAlloc (fLc (iVal (eVar 11)) (gNm 14) tYesM (eCall 1 (callP pg k "_law_sum") (aCons (eA mkLst (aCons (eA mkTup (aCons (eC (.int 1)) (aCons (eVar 14) aNil))) (aCons (eA mkTup (aCons (eUn pNeg (eC (.int 1))) (aCons (eA mkTup (aCons (eC (.int 1)) (aCons (eA mkTup aNil) aNil))) aNil))) aNil))) aNil)) [14]))))
  sNil)) sNil)
  sNil))))
  sNil) sNil)
  sNil))
  (sCons (sFor (iVal (eCall 1 (callP pg k "_law_statements") (aCons (eBin pIx (eVar 0) (eC (.int 8))) aNil))) (gNm 5) (sCons (sIf (tOfB (eBin (pCmp .Eq) (eBin pIx (eVar 5) (eC (.int 0))) (eC (.str "set")))) (sCons (sFor (iVal (eBin pIx (eVar 5) (eC (.int 1)))) (gTp 2 (gsCons (gNm 12) (gsCons (gNm 7) gsNil))) (sCons (sSet 9 (eCall 2 (callP pg k "_law_plainly") (aCons (eVar 7) (aCons (eVar 2) aNil))))
  (sCons (sIf (tAn (tOfB (eBin (pCmp .IsNot) (eVar 9) (eC .non))) (tAn (tOfT (eL lAll (fLc (iVal (eCall 1 (callP pg k "_law_names") (aCons (eA mkLst (aCons (eVar 9) aNil)) aNil))) (gNm 15) tYesM (eBin (pCmp .Eq) (eBin pIx (eVar 15) (eC (.int 0))) (eC (.str "@"))) [15]))) (tOfT (eCall 2 (callP pg k "_law_steady") (aCons (eVar 7) (aCons (eVar 2) aNil)))))) (sCons (sSet 3 (eBin (pBin .Add) (eVar 3) (eCall 2 (callP pg k "_law_both_ways") (aCons (eCall 1 (callP pg k "_law_var") (aCons (eVar 12) aNil)) (aCons (eVar 9) aNil)))))
  sNil) sNil)
  sNil)))
  sNil) sNil)
  sNil))
  (sCons (sSet 13 (eA mkLst (aCons (eA mkTup (aCons (eUn pNeg (eC (.int 1))) (aCons (eA mkTup aNil) aNil))) aNil)))
  (sCons (sFor (iVal (eBin (pBin .Add) (eVar 3) (eAlloc (fList (lOfE (eBin pIx (eVar 0) (eC (.int 5)))))))) (gNm 8) (sCons (sIf (tAn (tOfB (eBin (pCmp .NotEq) (eBin pIx (eVar 8) (eC (.int 1))) (eA mkTup aNil))) (tOfB (eBin (pCmp .NotIn) (eVar 8) (eVar 13)))) (sCons (sExpr (eMeth "append" (eVar 13) (aCons (eVar 8) aNil)))
  sNil) sNil)
  sNil))
  (sCons (sRet (eL lTup (lOfE (eVar 13))))
  sNil))))))))
def m__law_steady (k : Nat) : SM :=
  (sCons (sIf (tOfB (eBin (pCmp .Eq) (eBin pIx (eVar 0) (eC (.int 0))) (eC (.str "name")))) (sCons (sRet (eBin (pCmp .NotIn) (eBin pIx (eVar 0) (eC (.int 1))) (eVar 1)))
  sNil) sNil)
  (sCons (sIf (tOfB (eBin (pCmp .Eq) (eBin pIx (eVar 0) (eC (.int 0))) (eC (.str "length")))) (sCons (sRet (eBin (pCmp .NotIn) (eBin (pBin .Add) (eC (.str "#")) (eBin pIx (eVar 0) (eC (.int 1)))) (eVar 1)))
  sNil) sNil)
  (sCons (sIf (tOfB (eBin (pCmp .Eq) (eBin pIx (eVar 0) (eC (.int 0))) (eC (.str "scale")))) (sCons (sRet (eCall 2 (callP pg k "_law_steady") (aCons (eBin pIx (eVar 0) (eC (.int 2))) (aCons (eVar 1) aNil))))
  sNil) sNil)
  (sCons (sIf (tOfB (eBin (pCmp .In) (eBin pIx (eVar 0) (eC (.int 0))) (eA mkLst (aCons (eC (.str "plus")) (aCons (eC (.str "minus")) aNil))))) (sCons (sRet (eAn (eCall 2 (callP pg k "_law_steady") (aCons (eBin pIx (eVar 0) (eC (.int 1))) (aCons (eVar 1) aNil))) (eCall 2 (callP pg k "_law_steady") (aCons (eBin pIx (eVar 0) (eC (.int 2))) (aCons (eVar 1) aNil)))))
  sNil) sNil)
  (sCons (sRet (eBin (pCmp .Eq) (eBin pIx (eVar 0) (eC (.int 0))) (eC (.str "number"))))
  sNil)))))
def m__law_hinted (k : Nat) : SM :=
  (sCons (sSet 3 (eBin (pBin .Add) (eAlloc (fLc (iVal (eBin pIx (eVar 1) (eC (.int 1)))) (gNm 7) tYesM (eBin (pBin .Add) (eC (.str "@")) (eCall 1 (callP pg k "_law_key") (aCons (eVar 7) aNil))) [7])) (eCall 2 (callP pg k "_law_states") (aCons (eVar 1) (aCons (eVar 2) aNil)))))
  (sCons (sSet 4 (eA mkLst aNil))
  (sCons (sFor (iRng1' (aCons (eCall 2 (callP pg k "_law_draw") (aCons (eVar 0) (aCons (eC (.int 4)) aNil))) aNil)) (gNm 5) (sCons (sSet 6 (eCall 2 (callP pg k "_law_form") (aCons (eBin (pBin .Sub) (eCall 2 (callP pg k "_law_draw") (aCons (eVar 0) (aCons (eC (.int 5)) aNil))) (eC (.int 2))) (aCons (eAlloc (fLc (iVal (eVar 3)) (gNm 8) (tOfB (eBin (pCmp .Eq) (eCall 2 (callP pg k "_law_draw") (aCons (eVar 0) (aCons (eC (.int 3)) aNil))) (eC (.int 0)))) (eA mkTup (aCons (eVar 8) (aCons (eBin (pBin .Sub) (eCall 2 (callP pg k "_law_draw") (aCons (eVar 0) (aCons (eC (.int 3)) aNil))) (eC (.int 1))) aNil))) [8])) aNil))))
  (sCons (sSet 4 (eBin (pBin .Add) (eVar 4) (eBin (pBin .Mult) (eA mkLst (aCons (eVar 6) aNil)) (eBin (pBin .Add) (eC (.int 1)) (eA pIntC (aCons (eBin (pCmp .Eq) (eCall 2 (callP pg k "_law_draw") (aCons (eVar 0) (aCons (eC (.int 4)) aNil))) (eC (.int 0))) aNil))))))
  sNil)))
  (sCons (sRet (eBin (pBin .Add) (eBin (pBin .Add) (eSl (eVar 1) oNone (oSome (eC (.int 5)))) (eA mkTup (aCons (eL lTup (lOfE (eVar 4))) aNil))) (eSl (eVar 1) (oSome (eC (.int 6))) oNone)))
  sNil))))
def m_law (k : Nat) : SM :=
  (sCons (sSet 1 (eCall 1 (callP pg k "_law_start") (aCons (eVar 0) aNil)))
  (sCons (sFor (iRng1' (aCons (eC (.int 2)) aNil)) (gNm 2) (sCons (sSet 3 (eCall 1 (callP pg k "_law_wild_core") (aCons (eVar 1) aNil)))
  (sCons (sSet 4 (eCall 1 (callP pg k "_law_moves") (aCons (eVar 3) aNil)))
  (sCons (sSet 3 (eL lTup (fLc (iVal (eVar 3)) (gNm 5) tYesM (eCall 3 (callP pg k "_law_hinted") (aCons (eVar 1) (aCons (eVar 5) (aCons (eBin pIx (eVar 4) (eBin pIx (eVar 5) (eC (.int 0)))) aNil)))) [5])))
  (sCons (sFor (iVal (eVar 3)) (gNm 5) (sCons (sIf (tNt (tOfT (eCall 2 (callP pg k "_law_same") (aCons (eCall 2 (callP pg k "point_candidates") (aCons (eVar 3) (aCons (eBin pIx (eVar 5) (eC (.int 0))) aNil))) (aCons (eCall 2 (callP pg k "_law_due") (aCons (eVar 5) (aCons (eBin pIx (eVar 4) (eBin pIx (eVar 5) (eC (.int 0)))) aNil))) aNil))))) (sCons (sRet (eC (.bl false)))
  sNil) sNil)
  sNil))
  sNil)))))
  (sCons (sRet (eC (.bl true)))
  sNil)))
theorem e_form (k : Nat) : dB (pg.ctx k) d_form.sx fuelD (defBody d_form.st) = m_form k := by kernel_rfl!
theorem e_variable (k : Nat) : dB (pg.ctx k) d_variable.sx fuelD (defBody d_variable.st) = m_variable k := by kernel_rfl!
theorem e_plus (k : Nat) : dB (pg.ctx k) d_plus.sx fuelD (defBody d_plus.st) = m_plus k := by kernel_rfl!
theorem e_times (k : Nat) : dB (pg.ctx k) d_times.sx fuelD (defBody d_times.st) = m_times k := by kernel_rfl!
theorem e_minus (k : Nat) : dB (pg.ctx k) d_minus.sx fuelD (defBody d_minus.st) = m_minus k := by kernel_rfl!
theorem e_statements_in (k : Nat) : dB (pg.ctx k) d_statements_in.sx fuelD (defBody d_statements_in.st) = m_statements_in k := by kernel_rfl!
theorem e_proc_named (k : Nat) : dB (pg.ctx k) d_proc_named.sx fuelD (defBody d_proc_named.st) = m_proc_named k := by kernel_rfl!
theorem e_assigned_in (k : Nat) : dB (pg.ctx k) d_assigned_in.sx fuelD (defBody d_assigned_in.st) = m_assigned_in k := by kernel_rfl!
theorem e_passed_on (k : Nat) : dB (pg.ctx k) d_passed_on.sx fuelD (defBody d_passed_on.st) = m_passed_on k := by kernel_rfl!
theorem e_moving_table (k : Nat) : dB (pg.ctx k) d_moving_table.sx fuelD (defBody d_moving_table.st) = m_moving_table k := by kernel_rfl!
theorem e_variable_of (k : Nat) : dB (pg.ctx k) d_variable_of.sx fuelD (defBody d_variable_of.st) = m_variable_of k := by kernel_rfl!
theorem e_moving_items (k : Nat) : dB (pg.ctx k) d_moving_items.sx fuelD (defBody d_moving_items.st) = m_moving_items k := by kernel_rfl!
theorem e_states_of_proc (k : Nat) : dB (pg.ctx k) d_states_of_proc.sx fuelD (defBody d_states_of_proc.st) = m_states_of_proc k := by kernel_rfl!
theorem e_states_of (k : Nat) : dB (pg.ctx k) d_states_of.sx fuelD (defBody d_states_of.st) = m_states_of k := by kernel_rfl!
theorem e_without_doubles (k : Nat) : dB (pg.ctx k) d_without_doubles.sx fuelD (defBody d_without_doubles.st) = m_without_doubles k := by kernel_rfl!
theorem e_comparisons_of (k : Nat) : dB (pg.ctx k) d_comparisons_of.sx fuelD (defBody d_comparisons_of.st) = m_comparisons_of k := by kernel_rfl!
theorem e_plain_form (k : Nat) : dB (pg.ctx k) d_plain_form.sx fuelD (defBody d_plain_form.st) = m_plain_form k := by kernel_rfl!
theorem e_comparison_forms (k : Nat) : dB (pg.ctx k) d_comparison_forms.sx fuelD (defBody d_comparison_forms.st) = m_comparison_forms k := by kernel_rfl!
theorem e_is_steady (k : Nat) : dB (pg.ctx k) d_is_steady.sx fuelD (defBody d_is_steady.st) = m_is_steady k := by kernel_rfl!
theorem e_set_forms (k : Nat) : dB (pg.ctx k) d_set_forms.sx fuelD (defBody d_set_forms.st) = m_set_forms k := by kernel_rfl!
theorem e_differences (k : Nat) : dB (pg.ctx k) d_differences.sx fuelD (defBody d_differences.st) = m_differences k := by kernel_rfl!
theorem e_point_candidates (k : Nat) : dB (pg.ctx k) d_point_candidates.sx fuelD (defBody d_point_candidates.st) = m_point_candidates k := by kernel_rfl!
theorem e_differences_of (k : Nat) : dB (pg.ctx k) d_differences_of.sx fuelD (defBody d_differences_of.st) = m_differences_of k := by kernel_rfl!
theorem e__law_start (k : Nat) : dB (pg.ctx k) d__law_start.sx fuelD (defBody d__law_start.st) = m__law_start k := by kernel_rfl!
theorem e__law_draw (k : Nat) : dB (pg.ctx k) d__law_draw.sx fuelD (defBody d__law_draw.st) = m__law_draw k := by kernel_rfl!
theorem e__law_one_of (k : Nat) : dB (pg.ctx k) d__law_one_of.sx fuelD (defBody d__law_one_of.st) = m__law_one_of k := by kernel_rfl!
theorem e__law_shuffled (k : Nat) : dB (pg.ctx k) d__law_shuffled.sx fuelD (defBody d__law_shuffled.st) = m__law_shuffled k := by kernel_rfl!
theorem e__law_words (k : Nat) : dB (pg.ctx k) d__law_words.sx fuelD (defBody d__law_words.st) = m__law_words k := by kernel_rfl!
theorem e__law_is_int (k : Nat) : dB (pg.ctx k) d__law_is_int.sx fuelD (defBody d__law_is_int.st) = m__law_is_int k := by kernel_rfl!
theorem e__law_same (k : Nat) : dB (pg.ctx k) d__law_same.sx fuelD (defBody d__law_same.st) = m__law_same k := by kernel_rfl!
theorem e__law_form (k : Nat) : dB (pg.ctx k) d__law_form.sx fuelD (defBody d__law_form.st) = m__law_form k := by kernel_rfl!
theorem e__law_sum (k : Nat) : dB (pg.ctx k) d__law_sum.sx fuelD (defBody d__law_sum.st) = m__law_sum k := by kernel_rfl!
theorem e__law_var (k : Nat) : dB (pg.ctx k) d__law_var.sx fuelD (defBody d__law_var.st) = m__law_var k := by kernel_rfl!
theorem e__law_names (k : Nat) : dB (pg.ctx k) d__law_names.sx fuelD (defBody d__law_names.st) = m__law_names k := by kernel_rfl!
theorem e__law_key (k : Nat) : dB (pg.ctx k) d__law_key.sx fuelD (defBody d__law_key.st) = m__law_key k := by kernel_rfl!
theorem e__law_statements (k : Nat) : dB (pg.ctx k) d__law_statements.sx fuelD (defBody d__law_statements.st) = m__law_statements k := by kernel_rfl!
theorem e__law_moves (k : Nat) : dB (pg.ctx k) d__law_moves.sx fuelD (defBody d__law_moves.st) = m__law_moves k := by kernel_rfl!
theorem e__law_states (k : Nat) : dB (pg.ctx k) d__law_states.sx fuelD (defBody d__law_states.st) = m__law_states k := by kernel_rfl!
theorem e__law_wild_head (k : Nat) : dB (pg.ctx k) d__law_wild_head.sx fuelD (defBody d__law_wild_head.st) = m__law_wild_head k := by kernel_rfl!
theorem e__law_wild_value (k : Nat) : dB (pg.ctx k) d__law_wild_value.sx fuelD (defBody d__law_wild_value.st) = m__law_wild_value k := by kernel_rfl!
theorem e__law_wild_call (k : Nat) : dB (pg.ctx k) d__law_wild_call.sx fuelD (defBody d__law_wild_call.st) = m__law_wild_call k := by kernel_rfl!
theorem e__law_wild_test (k : Nat) : dB (pg.ctx k) d__law_wild_test.sx fuelD (defBody d__law_wild_test.st) = m__law_wild_test k := by kernel_rfl!
theorem e__law_wild_statement (k : Nat) : dB (pg.ctx k) d__law_wild_statement.sx fuelD (defBody d__law_wild_statement.st) = m__law_wild_statement k := by kernel_rfl!
theorem e__law_wild_block (k : Nat) : dB (pg.ctx k) d__law_wild_block.sx fuelD (defBody d__law_wild_block.st) = m__law_wild_block k := by kernel_rfl!
theorem e__law_wild_core (k : Nat) : dB (pg.ctx k) d__law_wild_core.sx fuelD (defBody d__law_wild_core.st) = m__law_wild_core k := by kernel_rfl!
theorem e__law_plainly (k : Nat) : dB (pg.ctx k) d__law_plainly.sx fuelD (defBody d__law_plainly.st) = m__law_plainly k := by kernel_rfl!
theorem e__law_comparisons (k : Nat) : dB (pg.ctx k) d__law_comparisons.sx fuelD (defBody d__law_comparisons.st) = m__law_comparisons k := by kernel_rfl!
theorem e__law_both_ways (k : Nat) : dB (pg.ctx k) d__law_both_ways.sx fuelD (defBody d__law_both_ways.st) = m__law_both_ways k := by kernel_rfl!
theorem e__law_due (k : Nat) : dB (pg.ctx k) d__law_due.sx fuelD (defBody d__law_due.st) = m__law_due k := by kernel_rfl!
theorem e__law_steady (k : Nat) : dB (pg.ctx k) d__law_steady.sx fuelD (defBody d__law_steady.st) = m__law_steady k := by kernel_rfl!
theorem e__law_hinted (k : Nat) : dB (pg.ctx k) d__law_hinted.sx fuelD (defBody d__law_hinted.st) = m__law_hinted k := by kernel_rfl!
theorem e_law (k : Nat) : dB (pg.ctx k) d_law.sx fuelD (defBody d_law.st) = m_law k := by kernel_rfl!
theorem c_form {k : Nat} {a0 a1 : D} {s : Sto} : callP pg (k + 1) "form" [a0, a1] s = gc s (resS (m_form k [some a0, some a1, none, none, none] s)) := by
  rw [callM (d := d_form) (m := m_form k) (by kernel_rfl!) (e_form k)]; rfl
theorem c_variable {k : Nat} {a0 : D} {s : Sto} : callP pg (k + 1) "variable" [a0] s = gc s (resS (m_variable k [some a0] s)) := by
  rw [callM (d := d_variable) (m := m_variable k) (by kernel_rfl!) (e_variable k)]; rfl
theorem c_plus {k : Nat} {a0 a1 : D} {s : Sto} : callP pg (k + 1) "plus" [a0, a1] s = gc s (resS (m_plus k [some a0, some a1] s)) := by
  rw [callM (d := d_plus) (m := m_plus k) (by kernel_rfl!) (e_plus k)]; rfl
theorem c_times {k : Nat} {a0 a1 : D} {s : Sto} : callP pg (k + 1) "times" [a0, a1] s = gc s (resS (m_times k [some a0, some a1, none, none] s)) := by
  rw [callM (d := d_times) (m := m_times k) (by kernel_rfl!) (e_times k)]; rfl
theorem c_minus {k : Nat} {a0 a1 : D} {s : Sto} : callP pg (k + 1) "minus" [a0, a1] s = gc s (resS (m_minus k [some a0, some a1] s)) := by
  rw [callM (d := d_minus) (m := m_minus k) (by kernel_rfl!) (e_minus k)]; rfl
theorem c_statements_in {k : Nat} {a0 : D} {s : Sto} : callP pg (k + 1) "statements_in" [a0] s = gc s (resS (m_statements_in k [some a0, none, none, none] s)) := by
  rw [callM (d := d_statements_in) (m := m_statements_in k) (by kernel_rfl!) (e_statements_in k)]; rfl
theorem c_proc_named {k : Nat} {a0 a1 : D} {s : Sto} : callP pg (k + 1) "proc_named" [a0, a1] s = gc s (resS (m_proc_named k [some a0, some a1, none] s)) := by
  rw [callM (d := d_proc_named) (m := m_proc_named k) (by kernel_rfl!) (e_proc_named k)]; rfl
theorem c_assigned_in {k : Nat} {a0 : D} {s : Sto} : callP pg (k + 1) "assigned_in" [a0] s = gc s (resS (m_assigned_in k [some a0, none, none, none, none] s)) := by
  rw [callM (d := d_assigned_in) (m := m_assigned_in k) (by kernel_rfl!) (e_assigned_in k)]; rfl
theorem c_passed_on {k : Nat} {a0 a1 a2 : D} {s : Sto} : callP pg (k + 1) "passed_on" [a0, a1, a2] s = gc s (resS (m_passed_on k [some a0, some a1, some a2, none, none, none, none, none] s)) := by
  rw [callM (d := d_passed_on) (m := m_passed_on k) (by kernel_rfl!) (e_passed_on k)]; rfl
theorem c_moving_table {k : Nat} {a0 : D} {s : Sto} : callP pg (k + 1) "moving_table" [a0] s = gc s (resS (m_moving_table k [some a0, none, none, none, none] s)) := by
  rw [callM (d := d_moving_table) (m := m_moving_table k) (by kernel_rfl!) (e_moving_table k)]; rfl
theorem c_variable_of {k : Nat} {a0 : D} {s : Sto} : callP pg (k + 1) "variable_of" [a0] s = gc s (resS (m_variable_of k [some a0] s)) := by
  rw [callM (d := d_variable_of) (m := m_variable_of k) (by kernel_rfl!) (e_variable_of k)]; rfl
theorem c_moving_items {k : Nat} {a0 a1 : D} {s : Sto} : callP pg (k + 1) "moving_items" [a0, a1] s = gc s (resS (m_moving_items k [some a0, some a1, none] s)) := by
  rw [callM (d := d_moving_items) (m := m_moving_items k) (by kernel_rfl!) (e_moving_items k)]; rfl
theorem c_states_of_proc {k : Nat} {a0 a1 : D} {s : Sto} : callP pg (k + 1) "states_of_proc" [a0, a1] s = gc s (resS (m_states_of_proc k [some a0, some a1, none] s)) := by
  rw [callM (d := d_states_of_proc) (m := m_states_of_proc k) (by kernel_rfl!) (e_states_of_proc k)]; rfl
theorem c_states_of {k : Nat} {a0 a1 : D} {s : Sto} : callP pg (k + 1) "states_of" [a0, a1] s = gc s (resS (m_states_of k [some a0, some a1] s)) := by
  rw [callM (d := d_states_of) (m := m_states_of k) (by kernel_rfl!) (e_states_of k)]; rfl
theorem c_without_doubles {k : Nat} {a0 : D} {s : Sto} : callP pg (k + 1) "without_doubles" [a0] s = gc s (resS (m_without_doubles k [some a0, none, none] s)) := by
  rw [callM (d := d_without_doubles) (m := m_without_doubles k) (by kernel_rfl!) (e_without_doubles k)]; rfl
theorem c_comparisons_of {k : Nat} {a0 : D} {s : Sto} : callP pg (k + 1) "comparisons_of" [a0] s = gc s (resS (m_comparisons_of k [some a0, none, none] s)) := by
  rw [callM (d := d_comparisons_of) (m := m_comparisons_of k) (by kernel_rfl!) (e_comparisons_of k)]; rfl
theorem c_plain_form {k : Nat} {a0 a1 : D} {s : Sto} : callP pg (k + 1) "plain_form" [a0, a1] s = gc s (resS (m_plain_form k [some a0, some a1, none, none, none, none, none] s)) := by
  rw [callM (d := d_plain_form) (m := m_plain_form k) (by kernel_rfl!) (e_plain_form k)]; rfl
theorem c_comparison_forms {k : Nat} {a0 a1 : D} {s : Sto} : callP pg (k + 1) "comparison_forms" [a0, a1] s = gc s (resS (m_comparison_forms k [some a0, some a1, none, none, none, none] s)) := by
  rw [callM (d := d_comparison_forms) (m := m_comparison_forms k) (by kernel_rfl!) (e_comparison_forms k)]; rfl
theorem c_is_steady {k : Nat} {a0 a1 : D} {s : Sto} : callP pg (k + 1) "is_steady" [a0, a1] s = gc s (resS (m_is_steady k [some a0, some a1, none] s)) := by
  rw [callM (d := d_is_steady) (m := m_is_steady k) (by kernel_rfl!) (e_is_steady k)]; rfl
theorem c_set_forms {k : Nat} {a0 a1 a2 : D} {s : Sto} : callP pg (k + 1) "set_forms" [a0, a1, a2] s = gc s (resS (m_set_forms k [some a0, some a1, some a2] s)) := by
  rw [callM (d := d_set_forms) (m := m_set_forms k) (by kernel_rfl!) (e_set_forms k)]; rfl
theorem c_differences {k : Nat} {a0 : D} {s : Sto} : callP pg (k + 1) "differences" [a0] s = gc s (resS (m_differences k [some a0, none, none, none, none] s)) := by
  rw [callM (d := d_differences) (m := m_differences k) (by kernel_rfl!) (e_differences k)]; rfl
theorem c_point_candidates {k : Nat} {a0 a1 : D} {s : Sto} : callP pg (k + 1) "point_candidates" [a0, a1] s = gc s (resS (m_point_candidates k [some a0, some a1, none, none, none, none, none, none, none, none, none] s)) := by
  rw [callM (d := d_point_candidates) (m := m_point_candidates k) (by kernel_rfl!) (e_point_candidates k)]; rfl
theorem c_differences_of {k : Nat} {a0 a1 : D} {s : Sto} : callP pg (k + 1) "differences_of" [a0, a1] s = gc s (resS (m_differences_of k [some a0, some a1] s)) := by
  rw [callM (d := d_differences_of) (m := m_differences_of k) (by kernel_rfl!) (e_differences_of k)]; rfl
theorem c__law_start {k : Nat} {a0 : D} {s : Sto} : callP pg (k + 1) "_law_start" [a0] s = gc s (resS (m__law_start k [some a0] s)) := by
  rw [callM (d := d__law_start) (m := m__law_start k) (by kernel_rfl!) (e__law_start k)]; rfl
theorem c__law_draw {k : Nat} {a0 a1 : D} {s : Sto} : callP pg (k + 1) "_law_draw" [a0, a1] s = gc s (resS (m__law_draw k [some a0, some a1, none, none, none] s)) := by
  rw [callM (d := d__law_draw) (m := m__law_draw k) (by kernel_rfl!) (e__law_draw k)]; rfl
theorem c__law_one_of {k : Nat} {a0 a1 : D} {s : Sto} : callP pg (k + 1) "_law_one_of" [a0, a1] s = gc s (resS (m__law_one_of k [some a0, some a1] s)) := by
  rw [callM (d := d__law_one_of) (m := m__law_one_of k) (by kernel_rfl!) (e__law_one_of k)]; rfl
theorem c__law_shuffled {k : Nat} {a0 a1 : D} {s : Sto} : callP pg (k + 1) "_law_shuffled" [a0, a1] s = gc s (resS (m__law_shuffled k [some a0, some a1, none, none] s)) := by
  rw [callM (d := d__law_shuffled) (m := m__law_shuffled k) (by kernel_rfl!) (e__law_shuffled k)]; rfl
theorem c__law_words {k : Nat} {a0 a1 : D} {s : Sto} : callP pg (k + 1) "_law_words" [a0, a1] s = gc s (resS (m__law_words k [some a0, some a1, none, none, none, none, none] s)) := by
  rw [callM (d := d__law_words) (m := m__law_words k) (by kernel_rfl!) (e__law_words k)]; rfl
theorem c__law_is_int {k : Nat} {a0 : D} {s : Sto} : callP pg (k + 1) "_law_is_int" [a0] s = gc s (resS (m__law_is_int k [some a0] s)) := by
  rw [callM (d := d__law_is_int) (m := m__law_is_int k) (by kernel_rfl!) (e__law_is_int k)]; rfl
theorem c__law_same {k : Nat} {a0 a1 : D} {s : Sto} : callP pg (k + 1) "_law_same" [a0, a1] s = gc s (resS (m__law_same k [some a0, some a1, none] s)) := by
  rw [callM (d := d__law_same) (m := m__law_same k) (by kernel_rfl!) (e__law_same k)]; rfl
theorem c__law_form {k : Nat} {a0 a1 : D} {s : Sto} : callP pg (k + 1) "_law_form" [a0, a1] s = gc s (resS (m__law_form k [some a0, some a1, none, none, none] s)) := by
  rw [callM (d := d__law_form) (m := m__law_form k) (by kernel_rfl!) (e__law_form k)]; rfl
theorem c__law_sum {k : Nat} {a0 : D} {s : Sto} : callP pg (k + 1) "_law_sum" [a0] s = gc s (resS (m__law_sum k [some a0, none, none, none, none, none, none] s)) := by
  rw [callM (d := d__law_sum) (m := m__law_sum k) (by kernel_rfl!) (e__law_sum k)]; rfl
theorem c__law_var {k : Nat} {a0 : D} {s : Sto} : callP pg (k + 1) "_law_var" [a0] s = gc s (resS (m__law_var k [some a0] s)) := by
  rw [callM (d := d__law_var) (m := m__law_var k) (by kernel_rfl!) (e__law_var k)]; rfl
theorem c__law_names {k : Nat} {a0 : D} {s : Sto} : callP pg (k + 1) "_law_names" [a0] s = gc s (resS (m__law_names k [some a0, none, none, none, none] s)) := by
  rw [callM (d := d__law_names) (m := m__law_names k) (by kernel_rfl!) (e__law_names k)]; rfl
theorem c__law_key {k : Nat} {a0 : D} {s : Sto} : callP pg (k + 1) "_law_key" [a0] s = gc s (resS (m__law_key k [some a0] s)) := by
  rw [callM (d := d__law_key) (m := m__law_key k) (by kernel_rfl!) (e__law_key k)]; rfl
theorem c__law_statements {k : Nat} {a0 : D} {s : Sto} : callP pg (k + 1) "_law_statements" [a0] s = gc s (resS (m__law_statements k [some a0, none, none] s)) := by
  rw [callM (d := d__law_statements) (m := m__law_statements k) (by kernel_rfl!) (e__law_statements k)]; rfl
theorem c__law_moves {k : Nat} {a0 : D} {s : Sto} : callP pg (k + 1) "_law_moves" [a0] s = gc s (resS (m__law_moves k [some a0, none, none, none, none, none, none, none, none, none, none, none] s)) := by
  rw [callM (d := d__law_moves) (m := m__law_moves k) (by kernel_rfl!) (e__law_moves k)]; rfl
theorem c__law_states {k : Nat} {a0 a1 : D} {s : Sto} : callP pg (k + 1) "_law_states" [a0, a1] s = gc s (resS (m__law_states k [some a0, some a1, none] s)) := by
  rw [callM (d := d__law_states) (m := m__law_states k) (by kernel_rfl!) (e__law_states k)]; rfl
theorem c__law_wild_head {k : Nat} {a0 a1 : D} {s : Sto} : callP pg (k + 1) "_law_wild_head" [a0, a1] s = gc s (resS (m__law_wild_head k [some a0, some a1, none, none, none, none, none, none] s)) := by
  rw [callM (d := d__law_wild_head) (m := m__law_wild_head k) (by kernel_rfl!) (e__law_wild_head k)]; rfl
theorem c__law_wild_value {k : Nat} {a0 a1 a2 a3 : D} {s : Sto} : callP pg (k + 1) "_law_wild_value" [a0, a1, a2, a3] s = gc s (resS (m__law_wild_value k [some a0, some a1, some a2, some a3, none, none, none] s)) := by
  rw [callM (d := d__law_wild_value) (m := m__law_wild_value k) (by kernel_rfl!) (e__law_wild_value k)]; rfl
theorem c__law_wild_call {k : Nat} {a0 a1 a2 : D} {s : Sto} : callP pg (k + 1) "_law_wild_call" [a0, a1, a2] s = gc s (resS (m__law_wild_call k [some a0, some a1, some a2, none, none, none, none, none, none] s)) := by
  rw [callM (d := d__law_wild_call) (m := m__law_wild_call k) (by kernel_rfl!) (e__law_wild_call k)]; rfl
theorem c__law_wild_test {k : Nat} {a0 a1 a2 a3 : D} {s : Sto} : callP pg (k + 1) "_law_wild_test" [a0, a1, a2, a3] s = gc s (resS (m__law_wild_test k [some a0, some a1, some a2, some a3, none, none, none] s)) := by
  rw [callM (d := d__law_wild_test) (m := m__law_wild_test k) (by kernel_rfl!) (e__law_wild_test k)]; rfl
theorem c__law_wild_statement {k : Nat} {a0 a1 a2 a3 a4 : D} {s : Sto} : callP pg (k + 1) "_law_wild_statement" [a0, a1, a2, a3, a4] s = gc s (resS (m__law_wild_statement k [some a0, some a1, some a2, some a3, some a4, none, none, none, none, none, none, none, none] s)) := by
  rw [callM (d := d__law_wild_statement) (m := m__law_wild_statement k) (by kernel_rfl!) (e__law_wild_statement k)]; rfl
theorem c__law_wild_block {k : Nat} {a0 a1 a2 a3 a4 : D} {s : Sto} : callP pg (k + 1) "_law_wild_block" [a0, a1, a2, a3, a4] s = gc s (resS (m__law_wild_block k [some a0, some a1, some a2, some a3, some a4, none, none] s)) := by
  rw [callM (d := d__law_wild_block) (m := m__law_wild_block k) (by kernel_rfl!) (e__law_wild_block k)]; rfl
theorem c__law_wild_core {k : Nat} {a0 : D} {s : Sto} : callP pg (k + 1) "_law_wild_core" [a0] s = gc s (resS (m__law_wild_core k [some a0, none, none, none, none, none, none, none] s)) := by
  rw [callM (d := d__law_wild_core) (m := m__law_wild_core k) (by kernel_rfl!) (e__law_wild_core k)]; rfl
theorem c__law_plainly {k : Nat} {a0 a1 : D} {s : Sto} : callP pg (k + 1) "_law_plainly" [a0, a1] s = gc s (resS (m__law_plainly k [some a0, some a1, none, none, none, none, none] s)) := by
  rw [callM (d := d__law_plainly) (m := m__law_plainly k) (by kernel_rfl!) (e__law_plainly k)]; rfl
theorem c__law_comparisons {k : Nat} {a0 : D} {s : Sto} : callP pg (k + 1) "_law_comparisons" [a0] s = gc s (resS (m__law_comparisons k [some a0, none, none] s)) := by
  rw [callM (d := d__law_comparisons) (m := m__law_comparisons k) (by kernel_rfl!) (e__law_comparisons k)]; rfl
theorem c__law_both_ways {k : Nat} {a0 a1 : D} {s : Sto} : callP pg (k + 1) "_law_both_ways" [a0, a1] s = gc s (resS (m__law_both_ways k [some a0, some a1] s)) := by
  rw [callM (d := d__law_both_ways) (m := m__law_both_ways k) (by kernel_rfl!) (e__law_both_ways k)]; rfl
theorem c__law_due {k : Nat} {a0 a1 : D} {s : Sto} : callP pg (k + 1) "_law_due" [a0, a1] s = gc s (resS (m__law_due k [some a0, some a1, none, none, none, none, none, none, none, none, none, none, none, none, none, none] s)) := by
  rw [callM (d := d__law_due) (m := m__law_due k) (by kernel_rfl!) (e__law_due k)]; rfl
theorem c__law_steady {k : Nat} {a0 a1 : D} {s : Sto} : callP pg (k + 1) "_law_steady" [a0, a1] s = gc s (resS (m__law_steady k [some a0, some a1] s)) := by
  rw [callM (d := d__law_steady) (m := m__law_steady k) (by kernel_rfl!) (e__law_steady k)]; rfl
theorem c__law_hinted {k : Nat} {a0 a1 a2 : D} {s : Sto} : callP pg (k + 1) "_law_hinted" [a0, a1, a2] s = gc s (resS (m__law_hinted k [some a0, some a1, some a2, none, none, none, none, none, none] s)) := by
  rw [callM (d := d__law_hinted) (m := m__law_hinted k) (by kernel_rfl!) (e__law_hinted k)]; rfl
theorem c_law {k : Nat} {a0 : D} {s : Sto} : callP pg (k + 1) "law" [a0] s = gc s (resS (m_law k [some a0, none, none, none, none, none] s)) := by
  rw [callM (d := d_law) (m := m_law k) (by kernel_rfl!) (e_law k)]; rfl
theorem s_form : FnScope d_form.N d_form.ps (defScope d_form.st) := ⟨rfl, rfl, rfl, by decide +kernel, rfl, by decide +kernel, by decide +kernel⟩
theorem k_form {K : PySem.W.Frag} {mg : Str → Option Value} {f : Addr} {od an : Option Addr} {sl : Array (Option Value)} {oc kV dc pm cd ct : Value} (hm : mg "form" = some (.ref f)) (l : K.lookup f = some ⟨oc, od, .func (PySem.W.fnOf "form" "form" (defArgs d_form.st) (defBody d_form.st) (defScope d_form.st) .none kV dc pm an cd ct), sl⟩) (c : PySem.W.codeIn K cd "form" = true) (kp : PySem.W.keepIn K (.ref f) = true) : DOk K mg "form" d_form :=
  ⟨f, _, hm, fun_mk (st := d_form.st) l c kp, (fun_mk (st := d_form.st) l c kp).binds (ps := d_form.ps) fun _ _ _ _ _ _ us hl => match us, hl with | [_, _], _ => rfl, s_form⟩
theorem s_variable : FnScope d_variable.N d_variable.ps (defScope d_variable.st) := ⟨rfl, rfl, rfl, by decide +kernel, rfl, by decide +kernel, by decide +kernel⟩
theorem k_variable {K : PySem.W.Frag} {mg : Str → Option Value} {f : Addr} {od an : Option Addr} {sl : Array (Option Value)} {oc kV dc pm cd ct : Value} (hm : mg "variable" = some (.ref f)) (l : K.lookup f = some ⟨oc, od, .func (PySem.W.fnOf "variable" "variable" (defArgs d_variable.st) (defBody d_variable.st) (defScope d_variable.st) .none kV dc pm an cd ct), sl⟩) (c : PySem.W.codeIn K cd "variable" = true) (kp : PySem.W.keepIn K (.ref f) = true) : DOk K mg "variable" d_variable :=
  ⟨f, _, hm, fun_mk (st := d_variable.st) l c kp, (fun_mk (st := d_variable.st) l c kp).binds (ps := d_variable.ps) fun _ _ _ _ _ _ us hl => match us, hl with | [_], _ => rfl, s_variable⟩
theorem s_plus : FnScope d_plus.N d_plus.ps (defScope d_plus.st) := ⟨rfl, rfl, rfl, by decide +kernel, rfl, by decide +kernel, by decide +kernel⟩
theorem k_plus {K : PySem.W.Frag} {mg : Str → Option Value} {f : Addr} {od an : Option Addr} {sl : Array (Option Value)} {oc kV dc pm cd ct : Value} (hm : mg "plus" = some (.ref f)) (l : K.lookup f = some ⟨oc, od, .func (PySem.W.fnOf "plus" "plus" (defArgs d_plus.st) (defBody d_plus.st) (defScope d_plus.st) .none kV dc pm an cd ct), sl⟩) (c : PySem.W.codeIn K cd "plus" = true) (kp : PySem.W.keepIn K (.ref f) = true) : DOk K mg "plus" d_plus :=
  ⟨f, _, hm, fun_mk (st := d_plus.st) l c kp, (fun_mk (st := d_plus.st) l c kp).binds (ps := d_plus.ps) fun _ _ _ _ _ _ us hl => match us, hl with | [_, _], _ => rfl, s_plus⟩
theorem s_times : FnScope d_times.N d_times.ps (defScope d_times.st) := ⟨rfl, rfl, rfl, by decide +kernel, rfl, by decide +kernel, by decide +kernel⟩
theorem k_times {K : PySem.W.Frag} {mg : Str → Option Value} {f : Addr} {od an : Option Addr} {sl : Array (Option Value)} {oc kV dc pm cd ct : Value} (hm : mg "times" = some (.ref f)) (l : K.lookup f = some ⟨oc, od, .func (PySem.W.fnOf "times" "times" (defArgs d_times.st) (defBody d_times.st) (defScope d_times.st) .none kV dc pm an cd ct), sl⟩) (c : PySem.W.codeIn K cd "times" = true) (kp : PySem.W.keepIn K (.ref f) = true) : DOk K mg "times" d_times :=
  ⟨f, _, hm, fun_mk (st := d_times.st) l c kp, (fun_mk (st := d_times.st) l c kp).binds (ps := d_times.ps) fun _ _ _ _ _ _ us hl => match us, hl with | [_, _], _ => rfl, s_times⟩
theorem s_minus : FnScope d_minus.N d_minus.ps (defScope d_minus.st) := ⟨rfl, rfl, rfl, by decide +kernel, rfl, by decide +kernel, by decide +kernel⟩
theorem k_minus {K : PySem.W.Frag} {mg : Str → Option Value} {f : Addr} {od an : Option Addr} {sl : Array (Option Value)} {oc kV dc pm cd ct : Value} (hm : mg "minus" = some (.ref f)) (l : K.lookup f = some ⟨oc, od, .func (PySem.W.fnOf "minus" "minus" (defArgs d_minus.st) (defBody d_minus.st) (defScope d_minus.st) .none kV dc pm an cd ct), sl⟩) (c : PySem.W.codeIn K cd "minus" = true) (kp : PySem.W.keepIn K (.ref f) = true) : DOk K mg "minus" d_minus :=
  ⟨f, _, hm, fun_mk (st := d_minus.st) l c kp, (fun_mk (st := d_minus.st) l c kp).binds (ps := d_minus.ps) fun _ _ _ _ _ _ us hl => match us, hl with | [_, _], _ => rfl, s_minus⟩
theorem s_statements_in : FnScope d_statements_in.N d_statements_in.ps (defScope d_statements_in.st) := ⟨rfl, rfl, rfl, by decide +kernel, rfl, by decide +kernel, by decide +kernel⟩
theorem k_statements_in {K : PySem.W.Frag} {mg : Str → Option Value} {f : Addr} {od an : Option Addr} {sl : Array (Option Value)} {oc kV dc pm cd ct : Value} (hm : mg "statements_in" = some (.ref f)) (l : K.lookup f = some ⟨oc, od, .func (PySem.W.fnOf "statements_in" "statements_in" (defArgs d_statements_in.st) (defBody d_statements_in.st) (defScope d_statements_in.st) .none kV dc pm an cd ct), sl⟩) (c : PySem.W.codeIn K cd "statements_in" = true) (kp : PySem.W.keepIn K (.ref f) = true) : DOk K mg "statements_in" d_statements_in :=
  ⟨f, _, hm, fun_mk (st := d_statements_in.st) l c kp, (fun_mk (st := d_statements_in.st) l c kp).binds (ps := d_statements_in.ps) fun _ _ _ _ _ _ us hl => match us, hl with | [_], _ => rfl, s_statements_in⟩
theorem s_proc_named : FnScope d_proc_named.N d_proc_named.ps (defScope d_proc_named.st) := ⟨rfl, rfl, rfl, by decide +kernel, rfl, by decide +kernel, by decide +kernel⟩
theorem k_proc_named {K : PySem.W.Frag} {mg : Str → Option Value} {f : Addr} {od an : Option Addr} {sl : Array (Option Value)} {oc kV dc pm cd ct : Value} (hm : mg "proc_named" = some (.ref f)) (l : K.lookup f = some ⟨oc, od, .func (PySem.W.fnOf "proc_named" "proc_named" (defArgs d_proc_named.st) (defBody d_proc_named.st) (defScope d_proc_named.st) .none kV dc pm an cd ct), sl⟩) (c : PySem.W.codeIn K cd "proc_named" = true) (kp : PySem.W.keepIn K (.ref f) = true) : DOk K mg "proc_named" d_proc_named :=
  ⟨f, _, hm, fun_mk (st := d_proc_named.st) l c kp, (fun_mk (st := d_proc_named.st) l c kp).binds (ps := d_proc_named.ps) fun _ _ _ _ _ _ us hl => match us, hl with | [_, _], _ => rfl, s_proc_named⟩
theorem s_assigned_in : FnScope d_assigned_in.N d_assigned_in.ps (defScope d_assigned_in.st) := ⟨rfl, rfl, rfl, by decide +kernel, rfl, by decide +kernel, by decide +kernel⟩
theorem k_assigned_in {K : PySem.W.Frag} {mg : Str → Option Value} {f : Addr} {od an : Option Addr} {sl : Array (Option Value)} {oc kV dc pm cd ct : Value} (hm : mg "assigned_in" = some (.ref f)) (l : K.lookup f = some ⟨oc, od, .func (PySem.W.fnOf "assigned_in" "assigned_in" (defArgs d_assigned_in.st) (defBody d_assigned_in.st) (defScope d_assigned_in.st) .none kV dc pm an cd ct), sl⟩) (c : PySem.W.codeIn K cd "assigned_in" = true) (kp : PySem.W.keepIn K (.ref f) = true) : DOk K mg "assigned_in" d_assigned_in :=
  ⟨f, _, hm, fun_mk (st := d_assigned_in.st) l c kp, (fun_mk (st := d_assigned_in.st) l c kp).binds (ps := d_assigned_in.ps) fun _ _ _ _ _ _ us hl => match us, hl with | [_], _ => rfl, s_assigned_in⟩
theorem s_passed_on : FnScope d_passed_on.N d_passed_on.ps (defScope d_passed_on.st) := ⟨rfl, rfl, rfl, by decide +kernel, rfl, by decide +kernel, by decide +kernel⟩
theorem k_passed_on {K : PySem.W.Frag} {mg : Str → Option Value} {f : Addr} {od an : Option Addr} {sl : Array (Option Value)} {oc kV dc pm cd ct : Value} (hm : mg "passed_on" = some (.ref f)) (l : K.lookup f = some ⟨oc, od, .func (PySem.W.fnOf "passed_on" "passed_on" (defArgs d_passed_on.st) (defBody d_passed_on.st) (defScope d_passed_on.st) .none kV dc pm an cd ct), sl⟩) (c : PySem.W.codeIn K cd "passed_on" = true) (kp : PySem.W.keepIn K (.ref f) = true) : DOk K mg "passed_on" d_passed_on :=
  ⟨f, _, hm, fun_mk (st := d_passed_on.st) l c kp, (fun_mk (st := d_passed_on.st) l c kp).binds (ps := d_passed_on.ps) fun _ _ _ _ _ _ us hl => match us, hl with | [_, _, _], _ => rfl, s_passed_on⟩
theorem s_moving_table : FnScope d_moving_table.N d_moving_table.ps (defScope d_moving_table.st) := ⟨rfl, rfl, rfl, by decide +kernel, rfl, by decide +kernel, by decide +kernel⟩
theorem k_moving_table {K : PySem.W.Frag} {mg : Str → Option Value} {f : Addr} {od an : Option Addr} {sl : Array (Option Value)} {oc kV dc pm cd ct : Value} (hm : mg "moving_table" = some (.ref f)) (l : K.lookup f = some ⟨oc, od, .func (PySem.W.fnOf "moving_table" "moving_table" (defArgs d_moving_table.st) (defBody d_moving_table.st) (defScope d_moving_table.st) .none kV dc pm an cd ct), sl⟩) (c : PySem.W.codeIn K cd "moving_table" = true) (kp : PySem.W.keepIn K (.ref f) = true) : DOk K mg "moving_table" d_moving_table :=
  ⟨f, _, hm, fun_mk (st := d_moving_table.st) l c kp, (fun_mk (st := d_moving_table.st) l c kp).binds (ps := d_moving_table.ps) fun _ _ _ _ _ _ us hl => match us, hl with | [_], _ => rfl, s_moving_table⟩
theorem s_variable_of : FnScope d_variable_of.N d_variable_of.ps (defScope d_variable_of.st) := ⟨rfl, rfl, rfl, by decide +kernel, rfl, by decide +kernel, by decide +kernel⟩
theorem k_variable_of {K : PySem.W.Frag} {mg : Str → Option Value} {f : Addr} {od an : Option Addr} {sl : Array (Option Value)} {oc kV dc pm cd ct : Value} (hm : mg "variable_of" = some (.ref f)) (l : K.lookup f = some ⟨oc, od, .func (PySem.W.fnOf "variable_of" "variable_of" (defArgs d_variable_of.st) (defBody d_variable_of.st) (defScope d_variable_of.st) .none kV dc pm an cd ct), sl⟩) (c : PySem.W.codeIn K cd "variable_of" = true) (kp : PySem.W.keepIn K (.ref f) = true) : DOk K mg "variable_of" d_variable_of :=
  ⟨f, _, hm, fun_mk (st := d_variable_of.st) l c kp, (fun_mk (st := d_variable_of.st) l c kp).binds (ps := d_variable_of.ps) fun _ _ _ _ _ _ us hl => match us, hl with | [_], _ => rfl, s_variable_of⟩
theorem s_moving_items : FnScope d_moving_items.N d_moving_items.ps (defScope d_moving_items.st) := ⟨rfl, rfl, rfl, by decide +kernel, rfl, by decide +kernel, by decide +kernel⟩
theorem k_moving_items {K : PySem.W.Frag} {mg : Str → Option Value} {f : Addr} {od an : Option Addr} {sl : Array (Option Value)} {oc kV dc pm cd ct : Value} (hm : mg "moving_items" = some (.ref f)) (l : K.lookup f = some ⟨oc, od, .func (PySem.W.fnOf "moving_items" "moving_items" (defArgs d_moving_items.st) (defBody d_moving_items.st) (defScope d_moving_items.st) .none kV dc pm an cd ct), sl⟩) (c : PySem.W.codeIn K cd "moving_items" = true) (kp : PySem.W.keepIn K (.ref f) = true) : DOk K mg "moving_items" d_moving_items :=
  ⟨f, _, hm, fun_mk (st := d_moving_items.st) l c kp, (fun_mk (st := d_moving_items.st) l c kp).binds (ps := d_moving_items.ps) fun _ _ _ _ _ _ us hl => match us, hl with | [_, _], _ => rfl, s_moving_items⟩
theorem s_states_of_proc : FnScope d_states_of_proc.N d_states_of_proc.ps (defScope d_states_of_proc.st) := ⟨rfl, rfl, rfl, by decide +kernel, rfl, by decide +kernel, by decide +kernel⟩
theorem k_states_of_proc {K : PySem.W.Frag} {mg : Str → Option Value} {f : Addr} {od an : Option Addr} {sl : Array (Option Value)} {oc kV dc pm cd ct : Value} (hm : mg "states_of_proc" = some (.ref f)) (l : K.lookup f = some ⟨oc, od, .func (PySem.W.fnOf "states_of_proc" "states_of_proc" (defArgs d_states_of_proc.st) (defBody d_states_of_proc.st) (defScope d_states_of_proc.st) .none kV dc pm an cd ct), sl⟩) (c : PySem.W.codeIn K cd "states_of_proc" = true) (kp : PySem.W.keepIn K (.ref f) = true) : DOk K mg "states_of_proc" d_states_of_proc :=
  ⟨f, _, hm, fun_mk (st := d_states_of_proc.st) l c kp, (fun_mk (st := d_states_of_proc.st) l c kp).binds (ps := d_states_of_proc.ps) fun _ _ _ _ _ _ us hl => match us, hl with | [_, _], _ => rfl, s_states_of_proc⟩
theorem s_states_of : FnScope d_states_of.N d_states_of.ps (defScope d_states_of.st) := ⟨rfl, rfl, rfl, by decide +kernel, rfl, by decide +kernel, by decide +kernel⟩
theorem k_states_of {K : PySem.W.Frag} {mg : Str → Option Value} {f : Addr} {od an : Option Addr} {sl : Array (Option Value)} {oc kV dc pm cd ct : Value} (hm : mg "states_of" = some (.ref f)) (l : K.lookup f = some ⟨oc, od, .func (PySem.W.fnOf "states_of" "states_of" (defArgs d_states_of.st) (defBody d_states_of.st) (defScope d_states_of.st) .none kV dc pm an cd ct), sl⟩) (c : PySem.W.codeIn K cd "states_of" = true) (kp : PySem.W.keepIn K (.ref f) = true) : DOk K mg "states_of" d_states_of :=
  ⟨f, _, hm, fun_mk (st := d_states_of.st) l c kp, (fun_mk (st := d_states_of.st) l c kp).binds (ps := d_states_of.ps) fun _ _ _ _ _ _ us hl => match us, hl with | [_, _], _ => rfl, s_states_of⟩
theorem s_without_doubles : FnScope d_without_doubles.N d_without_doubles.ps (defScope d_without_doubles.st) := ⟨rfl, rfl, rfl, by decide +kernel, rfl, by decide +kernel, by decide +kernel⟩
theorem k_without_doubles {K : PySem.W.Frag} {mg : Str → Option Value} {f : Addr} {od an : Option Addr} {sl : Array (Option Value)} {oc kV dc pm cd ct : Value} (hm : mg "without_doubles" = some (.ref f)) (l : K.lookup f = some ⟨oc, od, .func (PySem.W.fnOf "without_doubles" "without_doubles" (defArgs d_without_doubles.st) (defBody d_without_doubles.st) (defScope d_without_doubles.st) .none kV dc pm an cd ct), sl⟩) (c : PySem.W.codeIn K cd "without_doubles" = true) (kp : PySem.W.keepIn K (.ref f) = true) : DOk K mg "without_doubles" d_without_doubles :=
  ⟨f, _, hm, fun_mk (st := d_without_doubles.st) l c kp, (fun_mk (st := d_without_doubles.st) l c kp).binds (ps := d_without_doubles.ps) fun _ _ _ _ _ _ us hl => match us, hl with | [_], _ => rfl, s_without_doubles⟩
theorem s_comparisons_of : FnScope d_comparisons_of.N d_comparisons_of.ps (defScope d_comparisons_of.st) := ⟨rfl, rfl, rfl, by decide +kernel, rfl, by decide +kernel, by decide +kernel⟩
theorem k_comparisons_of {K : PySem.W.Frag} {mg : Str → Option Value} {f : Addr} {od an : Option Addr} {sl : Array (Option Value)} {oc kV dc pm cd ct : Value} (hm : mg "comparisons_of" = some (.ref f)) (l : K.lookup f = some ⟨oc, od, .func (PySem.W.fnOf "comparisons_of" "comparisons_of" (defArgs d_comparisons_of.st) (defBody d_comparisons_of.st) (defScope d_comparisons_of.st) .none kV dc pm an cd ct), sl⟩) (c : PySem.W.codeIn K cd "comparisons_of" = true) (kp : PySem.W.keepIn K (.ref f) = true) : DOk K mg "comparisons_of" d_comparisons_of :=
  ⟨f, _, hm, fun_mk (st := d_comparisons_of.st) l c kp, (fun_mk (st := d_comparisons_of.st) l c kp).binds (ps := d_comparisons_of.ps) fun _ _ _ _ _ _ us hl => match us, hl with | [_], _ => rfl, s_comparisons_of⟩
theorem s_plain_form : FnScope d_plain_form.N d_plain_form.ps (defScope d_plain_form.st) := ⟨rfl, rfl, rfl, by decide +kernel, rfl, by decide +kernel, by decide +kernel⟩
theorem k_plain_form {K : PySem.W.Frag} {mg : Str → Option Value} {f : Addr} {od an : Option Addr} {sl : Array (Option Value)} {oc kV dc pm cd ct : Value} (hm : mg "plain_form" = some (.ref f)) (l : K.lookup f = some ⟨oc, od, .func (PySem.W.fnOf "plain_form" "plain_form" (defArgs d_plain_form.st) (defBody d_plain_form.st) (defScope d_plain_form.st) .none kV dc pm an cd ct), sl⟩) (c : PySem.W.codeIn K cd "plain_form" = true) (kp : PySem.W.keepIn K (.ref f) = true) : DOk K mg "plain_form" d_plain_form :=
  ⟨f, _, hm, fun_mk (st := d_plain_form.st) l c kp, (fun_mk (st := d_plain_form.st) l c kp).binds (ps := d_plain_form.ps) fun _ _ _ _ _ _ us hl => match us, hl with | [_, _], _ => rfl, s_plain_form⟩
theorem s_comparison_forms : FnScope d_comparison_forms.N d_comparison_forms.ps (defScope d_comparison_forms.st) := ⟨rfl, rfl, rfl, by decide +kernel, rfl, by decide +kernel, by decide +kernel⟩
theorem k_comparison_forms {K : PySem.W.Frag} {mg : Str → Option Value} {f : Addr} {od an : Option Addr} {sl : Array (Option Value)} {oc kV dc pm cd ct : Value} (hm : mg "comparison_forms" = some (.ref f)) (l : K.lookup f = some ⟨oc, od, .func (PySem.W.fnOf "comparison_forms" "comparison_forms" (defArgs d_comparison_forms.st) (defBody d_comparison_forms.st) (defScope d_comparison_forms.st) .none kV dc pm an cd ct), sl⟩) (c : PySem.W.codeIn K cd "comparison_forms" = true) (kp : PySem.W.keepIn K (.ref f) = true) : DOk K mg "comparison_forms" d_comparison_forms :=
  ⟨f, _, hm, fun_mk (st := d_comparison_forms.st) l c kp, (fun_mk (st := d_comparison_forms.st) l c kp).binds (ps := d_comparison_forms.ps) fun _ _ _ _ _ _ us hl => match us, hl with | [_, _], _ => rfl, s_comparison_forms⟩
theorem s_is_steady : FnScope d_is_steady.N d_is_steady.ps (defScope d_is_steady.st) := ⟨rfl, rfl, rfl, by decide +kernel, rfl, by decide +kernel, by decide +kernel⟩
theorem k_is_steady {K : PySem.W.Frag} {mg : Str → Option Value} {f : Addr} {od an : Option Addr} {sl : Array (Option Value)} {oc kV dc pm cd ct : Value} (hm : mg "is_steady" = some (.ref f)) (l : K.lookup f = some ⟨oc, od, .func (PySem.W.fnOf "is_steady" "is_steady" (defArgs d_is_steady.st) (defBody d_is_steady.st) (defScope d_is_steady.st) .none kV dc pm an cd ct), sl⟩) (c : PySem.W.codeIn K cd "is_steady" = true) (kp : PySem.W.keepIn K (.ref f) = true) : DOk K mg "is_steady" d_is_steady :=
  ⟨f, _, hm, fun_mk (st := d_is_steady.st) l c kp, (fun_mk (st := d_is_steady.st) l c kp).binds (ps := d_is_steady.ps) fun _ _ _ _ _ _ us hl => match us, hl with | [_, _], _ => rfl, s_is_steady⟩
theorem s_set_forms : FnScope d_set_forms.N d_set_forms.ps (defScope d_set_forms.st) := ⟨rfl, rfl, rfl, by decide +kernel, rfl, by decide +kernel, by decide +kernel⟩
theorem k_set_forms {K : PySem.W.Frag} {mg : Str → Option Value} {f : Addr} {od an : Option Addr} {sl : Array (Option Value)} {oc kV dc pm cd ct : Value} (hm : mg "set_forms" = some (.ref f)) (l : K.lookup f = some ⟨oc, od, .func (PySem.W.fnOf "set_forms" "set_forms" (defArgs d_set_forms.st) (defBody d_set_forms.st) (defScope d_set_forms.st) .none kV dc pm an cd ct), sl⟩) (c : PySem.W.codeIn K cd "set_forms" = true) (kp : PySem.W.keepIn K (.ref f) = true) : DOk K mg "set_forms" d_set_forms :=
  ⟨f, _, hm, fun_mk (st := d_set_forms.st) l c kp, (fun_mk (st := d_set_forms.st) l c kp).binds (ps := d_set_forms.ps) fun _ _ _ _ _ _ us hl => match us, hl with | [_, _, _], _ => rfl, s_set_forms⟩
theorem s_differences : FnScope d_differences.N d_differences.ps (defScope d_differences.st) := ⟨rfl, rfl, rfl, by decide +kernel, rfl, by decide +kernel, by decide +kernel⟩
theorem k_differences {K : PySem.W.Frag} {mg : Str → Option Value} {f : Addr} {od an : Option Addr} {sl : Array (Option Value)} {oc kV dc pm cd ct : Value} (hm : mg "differences" = some (.ref f)) (l : K.lookup f = some ⟨oc, od, .func (PySem.W.fnOf "differences" "differences" (defArgs d_differences.st) (defBody d_differences.st) (defScope d_differences.st) .none kV dc pm an cd ct), sl⟩) (c : PySem.W.codeIn K cd "differences" = true) (kp : PySem.W.keepIn K (.ref f) = true) : DOk K mg "differences" d_differences :=
  ⟨f, _, hm, fun_mk (st := d_differences.st) l c kp, (fun_mk (st := d_differences.st) l c kp).binds (ps := d_differences.ps) fun _ _ _ _ _ _ us hl => match us, hl with | [_], _ => rfl, s_differences⟩
theorem s_point_candidates : FnScope d_point_candidates.N d_point_candidates.ps (defScope d_point_candidates.st) := ⟨rfl, rfl, rfl, by decide +kernel, rfl, by decide +kernel, by decide +kernel⟩
theorem k_point_candidates {K : PySem.W.Frag} {mg : Str → Option Value} {f : Addr} {od an : Option Addr} {sl : Array (Option Value)} {oc kV dc pm cd ct : Value} (hm : mg "point_candidates" = some (.ref f)) (l : K.lookup f = some ⟨oc, od, .func (PySem.W.fnOf "point_candidates" "point_candidates" (defArgs d_point_candidates.st) (defBody d_point_candidates.st) (defScope d_point_candidates.st) .none kV dc pm an cd ct), sl⟩) (c : PySem.W.codeIn K cd "point_candidates" = true) (kp : PySem.W.keepIn K (.ref f) = true) : DOk K mg "point_candidates" d_point_candidates :=
  ⟨f, _, hm, fun_mk (st := d_point_candidates.st) l c kp, (fun_mk (st := d_point_candidates.st) l c kp).binds (ps := d_point_candidates.ps) fun _ _ _ _ _ _ us hl => match us, hl with | [_, _], _ => rfl, s_point_candidates⟩
theorem s_differences_of : FnScope d_differences_of.N d_differences_of.ps (defScope d_differences_of.st) := ⟨rfl, rfl, rfl, by decide +kernel, rfl, by decide +kernel, by decide +kernel⟩
theorem k_differences_of {K : PySem.W.Frag} {mg : Str → Option Value} {f : Addr} {od an : Option Addr} {sl : Array (Option Value)} {oc kV dc pm cd ct : Value} (hm : mg "differences_of" = some (.ref f)) (l : K.lookup f = some ⟨oc, od, .func (PySem.W.fnOf "differences_of" "differences_of" (defArgs d_differences_of.st) (defBody d_differences_of.st) (defScope d_differences_of.st) .none kV dc pm an cd ct), sl⟩) (c : PySem.W.codeIn K cd "differences_of" = true) (kp : PySem.W.keepIn K (.ref f) = true) : DOk K mg "differences_of" d_differences_of :=
  ⟨f, _, hm, fun_mk (st := d_differences_of.st) l c kp, (fun_mk (st := d_differences_of.st) l c kp).binds (ps := d_differences_of.ps) fun _ _ _ _ _ _ us hl => match us, hl with | [_, _], _ => rfl, s_differences_of⟩
theorem s__law_start : FnScope d__law_start.N d__law_start.ps (defScope d__law_start.st) := ⟨rfl, rfl, rfl, by decide +kernel, rfl, by decide +kernel, by decide +kernel⟩
theorem k__law_start {K : PySem.W.Frag} {mg : Str → Option Value} {f : Addr} {od an : Option Addr} {sl : Array (Option Value)} {oc kV dc pm cd ct : Value} (hm : mg "_law_start" = some (.ref f)) (l : K.lookup f = some ⟨oc, od, .func (PySem.W.fnOf "_law_start" "_law_start" (defArgs d__law_start.st) (defBody d__law_start.st) (defScope d__law_start.st) .none kV dc pm an cd ct), sl⟩) (c : PySem.W.codeIn K cd "_law_start" = true) (kp : PySem.W.keepIn K (.ref f) = true) : DOk K mg "_law_start" d__law_start :=
  ⟨f, _, hm, fun_mk (st := d__law_start.st) l c kp, (fun_mk (st := d__law_start.st) l c kp).binds (ps := d__law_start.ps) fun _ _ _ _ _ _ us hl => match us, hl with | [_], _ => rfl, s__law_start⟩
theorem s__law_draw : FnScope d__law_draw.N d__law_draw.ps (defScope d__law_draw.st) := ⟨rfl, rfl, rfl, by decide +kernel, rfl, by decide +kernel, by decide +kernel⟩
theorem k__law_draw {K : PySem.W.Frag} {mg : Str → Option Value} {f : Addr} {od an : Option Addr} {sl : Array (Option Value)} {oc kV dc pm cd ct : Value} (hm : mg "_law_draw" = some (.ref f)) (l : K.lookup f = some ⟨oc, od, .func (PySem.W.fnOf "_law_draw" "_law_draw" (defArgs d__law_draw.st) (defBody d__law_draw.st) (defScope d__law_draw.st) .none kV dc pm an cd ct), sl⟩) (c : PySem.W.codeIn K cd "_law_draw" = true) (kp : PySem.W.keepIn K (.ref f) = true) : DOk K mg "_law_draw" d__law_draw :=
  ⟨f, _, hm, fun_mk (st := d__law_draw.st) l c kp, (fun_mk (st := d__law_draw.st) l c kp).binds (ps := d__law_draw.ps) fun _ _ _ _ _ _ us hl => match us, hl with | [_, _], _ => rfl, s__law_draw⟩
theorem s__law_one_of : FnScope d__law_one_of.N d__law_one_of.ps (defScope d__law_one_of.st) := ⟨rfl, rfl, rfl, by decide +kernel, rfl, by decide +kernel, by decide +kernel⟩
theorem k__law_one_of {K : PySem.W.Frag} {mg : Str → Option Value} {f : Addr} {od an : Option Addr} {sl : Array (Option Value)} {oc kV dc pm cd ct : Value} (hm : mg "_law_one_of" = some (.ref f)) (l : K.lookup f = some ⟨oc, od, .func (PySem.W.fnOf "_law_one_of" "_law_one_of" (defArgs d__law_one_of.st) (defBody d__law_one_of.st) (defScope d__law_one_of.st) .none kV dc pm an cd ct), sl⟩) (c : PySem.W.codeIn K cd "_law_one_of" = true) (kp : PySem.W.keepIn K (.ref f) = true) : DOk K mg "_law_one_of" d__law_one_of :=
  ⟨f, _, hm, fun_mk (st := d__law_one_of.st) l c kp, (fun_mk (st := d__law_one_of.st) l c kp).binds (ps := d__law_one_of.ps) fun _ _ _ _ _ _ us hl => match us, hl with | [_, _], _ => rfl, s__law_one_of⟩
theorem s__law_shuffled : FnScope d__law_shuffled.N d__law_shuffled.ps (defScope d__law_shuffled.st) := ⟨rfl, rfl, rfl, by decide +kernel, rfl, by decide +kernel, by decide +kernel⟩
theorem k__law_shuffled {K : PySem.W.Frag} {mg : Str → Option Value} {f : Addr} {od an : Option Addr} {sl : Array (Option Value)} {oc kV dc pm cd ct : Value} (hm : mg "_law_shuffled" = some (.ref f)) (l : K.lookup f = some ⟨oc, od, .func (PySem.W.fnOf "_law_shuffled" "_law_shuffled" (defArgs d__law_shuffled.st) (defBody d__law_shuffled.st) (defScope d__law_shuffled.st) .none kV dc pm an cd ct), sl⟩) (c : PySem.W.codeIn K cd "_law_shuffled" = true) (kp : PySem.W.keepIn K (.ref f) = true) : DOk K mg "_law_shuffled" d__law_shuffled :=
  ⟨f, _, hm, fun_mk (st := d__law_shuffled.st) l c kp, (fun_mk (st := d__law_shuffled.st) l c kp).binds (ps := d__law_shuffled.ps) fun _ _ _ _ _ _ us hl => match us, hl with | [_, _], _ => rfl, s__law_shuffled⟩
theorem s__law_words : FnScope d__law_words.N d__law_words.ps (defScope d__law_words.st) := ⟨rfl, rfl, rfl, by decide +kernel, rfl, by decide +kernel, by decide +kernel⟩
theorem k__law_words {K : PySem.W.Frag} {mg : Str → Option Value} {f : Addr} {od an : Option Addr} {sl : Array (Option Value)} {oc kV dc pm cd ct : Value} (hm : mg "_law_words" = some (.ref f)) (l : K.lookup f = some ⟨oc, od, .func (PySem.W.fnOf "_law_words" "_law_words" (defArgs d__law_words.st) (defBody d__law_words.st) (defScope d__law_words.st) .none kV dc pm an cd ct), sl⟩) (c : PySem.W.codeIn K cd "_law_words" = true) (kp : PySem.W.keepIn K (.ref f) = true) : DOk K mg "_law_words" d__law_words :=
  ⟨f, _, hm, fun_mk (st := d__law_words.st) l c kp, (fun_mk (st := d__law_words.st) l c kp).binds (ps := d__law_words.ps) fun _ _ _ _ _ _ us hl => match us, hl with | [_, _], _ => rfl, s__law_words⟩
theorem s__law_is_int : FnScope d__law_is_int.N d__law_is_int.ps (defScope d__law_is_int.st) := ⟨rfl, rfl, rfl, by decide +kernel, rfl, by decide +kernel, by decide +kernel⟩
theorem k__law_is_int {K : PySem.W.Frag} {mg : Str → Option Value} {f : Addr} {od an : Option Addr} {sl : Array (Option Value)} {oc kV dc pm cd ct : Value} (hm : mg "_law_is_int" = some (.ref f)) (l : K.lookup f = some ⟨oc, od, .func (PySem.W.fnOf "_law_is_int" "_law_is_int" (defArgs d__law_is_int.st) (defBody d__law_is_int.st) (defScope d__law_is_int.st) .none kV dc pm an cd ct), sl⟩) (c : PySem.W.codeIn K cd "_law_is_int" = true) (kp : PySem.W.keepIn K (.ref f) = true) : DOk K mg "_law_is_int" d__law_is_int :=
  ⟨f, _, hm, fun_mk (st := d__law_is_int.st) l c kp, (fun_mk (st := d__law_is_int.st) l c kp).binds (ps := d__law_is_int.ps) fun _ _ _ _ _ _ us hl => match us, hl with | [_], _ => rfl, s__law_is_int⟩
theorem s__law_same : FnScope d__law_same.N d__law_same.ps (defScope d__law_same.st) := ⟨rfl, rfl, rfl, by decide +kernel, rfl, by decide +kernel, by decide +kernel⟩
theorem k__law_same {K : PySem.W.Frag} {mg : Str → Option Value} {f : Addr} {od an : Option Addr} {sl : Array (Option Value)} {oc kV dc pm cd ct : Value} (hm : mg "_law_same" = some (.ref f)) (l : K.lookup f = some ⟨oc, od, .func (PySem.W.fnOf "_law_same" "_law_same" (defArgs d__law_same.st) (defBody d__law_same.st) (defScope d__law_same.st) .none kV dc pm an cd ct), sl⟩) (c : PySem.W.codeIn K cd "_law_same" = true) (kp : PySem.W.keepIn K (.ref f) = true) : DOk K mg "_law_same" d__law_same :=
  ⟨f, _, hm, fun_mk (st := d__law_same.st) l c kp, (fun_mk (st := d__law_same.st) l c kp).binds (ps := d__law_same.ps) fun _ _ _ _ _ _ us hl => match us, hl with | [_, _], _ => rfl, s__law_same⟩
theorem s__law_form : FnScope d__law_form.N d__law_form.ps (defScope d__law_form.st) := ⟨rfl, rfl, rfl, by decide +kernel, rfl, by decide +kernel, by decide +kernel⟩
theorem k__law_form {K : PySem.W.Frag} {mg : Str → Option Value} {f : Addr} {od an : Option Addr} {sl : Array (Option Value)} {oc kV dc pm cd ct : Value} (hm : mg "_law_form" = some (.ref f)) (l : K.lookup f = some ⟨oc, od, .func (PySem.W.fnOf "_law_form" "_law_form" (defArgs d__law_form.st) (defBody d__law_form.st) (defScope d__law_form.st) .none kV dc pm an cd ct), sl⟩) (c : PySem.W.codeIn K cd "_law_form" = true) (kp : PySem.W.keepIn K (.ref f) = true) : DOk K mg "_law_form" d__law_form :=
  ⟨f, _, hm, fun_mk (st := d__law_form.st) l c kp, (fun_mk (st := d__law_form.st) l c kp).binds (ps := d__law_form.ps) fun _ _ _ _ _ _ us hl => match us, hl with | [_, _], _ => rfl, s__law_form⟩
theorem s__law_sum : FnScope d__law_sum.N d__law_sum.ps (defScope d__law_sum.st) := ⟨rfl, rfl, rfl, by decide +kernel, rfl, by decide +kernel, by decide +kernel⟩
theorem k__law_sum {K : PySem.W.Frag} {mg : Str → Option Value} {f : Addr} {od an : Option Addr} {sl : Array (Option Value)} {oc kV dc pm cd ct : Value} (hm : mg "_law_sum" = some (.ref f)) (l : K.lookup f = some ⟨oc, od, .func (PySem.W.fnOf "_law_sum" "_law_sum" (defArgs d__law_sum.st) (defBody d__law_sum.st) (defScope d__law_sum.st) .none kV dc pm an cd ct), sl⟩) (c : PySem.W.codeIn K cd "_law_sum" = true) (kp : PySem.W.keepIn K (.ref f) = true) : DOk K mg "_law_sum" d__law_sum :=
  ⟨f, _, hm, fun_mk (st := d__law_sum.st) l c kp, (fun_mk (st := d__law_sum.st) l c kp).binds (ps := d__law_sum.ps) fun _ _ _ _ _ _ us hl => match us, hl with | [_], _ => rfl, s__law_sum⟩
theorem s__law_var : FnScope d__law_var.N d__law_var.ps (defScope d__law_var.st) := ⟨rfl, rfl, rfl, by decide +kernel, rfl, by decide +kernel, by decide +kernel⟩
theorem k__law_var {K : PySem.W.Frag} {mg : Str → Option Value} {f : Addr} {od an : Option Addr} {sl : Array (Option Value)} {oc kV dc pm cd ct : Value} (hm : mg "_law_var" = some (.ref f)) (l : K.lookup f = some ⟨oc, od, .func (PySem.W.fnOf "_law_var" "_law_var" (defArgs d__law_var.st) (defBody d__law_var.st) (defScope d__law_var.st) .none kV dc pm an cd ct), sl⟩) (c : PySem.W.codeIn K cd "_law_var" = true) (kp : PySem.W.keepIn K (.ref f) = true) : DOk K mg "_law_var" d__law_var :=
  ⟨f, _, hm, fun_mk (st := d__law_var.st) l c kp, (fun_mk (st := d__law_var.st) l c kp).binds (ps := d__law_var.ps) fun _ _ _ _ _ _ us hl => match us, hl with | [_], _ => rfl, s__law_var⟩
theorem s__law_names : FnScope d__law_names.N d__law_names.ps (defScope d__law_names.st) := ⟨rfl, rfl, rfl, by decide +kernel, rfl, by decide +kernel, by decide +kernel⟩
theorem k__law_names {K : PySem.W.Frag} {mg : Str → Option Value} {f : Addr} {od an : Option Addr} {sl : Array (Option Value)} {oc kV dc pm cd ct : Value} (hm : mg "_law_names" = some (.ref f)) (l : K.lookup f = some ⟨oc, od, .func (PySem.W.fnOf "_law_names" "_law_names" (defArgs d__law_names.st) (defBody d__law_names.st) (defScope d__law_names.st) .none kV dc pm an cd ct), sl⟩) (c : PySem.W.codeIn K cd "_law_names" = true) (kp : PySem.W.keepIn K (.ref f) = true) : DOk K mg "_law_names" d__law_names :=
  ⟨f, _, hm, fun_mk (st := d__law_names.st) l c kp, (fun_mk (st := d__law_names.st) l c kp).binds (ps := d__law_names.ps) fun _ _ _ _ _ _ us hl => match us, hl with | [_], _ => rfl, s__law_names⟩
theorem s__law_key : FnScope d__law_key.N d__law_key.ps (defScope d__law_key.st) := ⟨rfl, rfl, rfl, by decide +kernel, rfl, by decide +kernel, by decide +kernel⟩
theorem k__law_key {K : PySem.W.Frag} {mg : Str → Option Value} {f : Addr} {od an : Option Addr} {sl : Array (Option Value)} {oc kV dc pm cd ct : Value} (hm : mg "_law_key" = some (.ref f)) (l : K.lookup f = some ⟨oc, od, .func (PySem.W.fnOf "_law_key" "_law_key" (defArgs d__law_key.st) (defBody d__law_key.st) (defScope d__law_key.st) .none kV dc pm an cd ct), sl⟩) (c : PySem.W.codeIn K cd "_law_key" = true) (kp : PySem.W.keepIn K (.ref f) = true) : DOk K mg "_law_key" d__law_key :=
  ⟨f, _, hm, fun_mk (st := d__law_key.st) l c kp, (fun_mk (st := d__law_key.st) l c kp).binds (ps := d__law_key.ps) fun _ _ _ _ _ _ us hl => match us, hl with | [_], _ => rfl, s__law_key⟩
theorem s__law_statements : FnScope d__law_statements.N d__law_statements.ps (defScope d__law_statements.st) := ⟨rfl, rfl, rfl, by decide +kernel, rfl, by decide +kernel, by decide +kernel⟩
theorem k__law_statements {K : PySem.W.Frag} {mg : Str → Option Value} {f : Addr} {od an : Option Addr} {sl : Array (Option Value)} {oc kV dc pm cd ct : Value} (hm : mg "_law_statements" = some (.ref f)) (l : K.lookup f = some ⟨oc, od, .func (PySem.W.fnOf "_law_statements" "_law_statements" (defArgs d__law_statements.st) (defBody d__law_statements.st) (defScope d__law_statements.st) .none kV dc pm an cd ct), sl⟩) (c : PySem.W.codeIn K cd "_law_statements" = true) (kp : PySem.W.keepIn K (.ref f) = true) : DOk K mg "_law_statements" d__law_statements :=
  ⟨f, _, hm, fun_mk (st := d__law_statements.st) l c kp, (fun_mk (st := d__law_statements.st) l c kp).binds (ps := d__law_statements.ps) fun _ _ _ _ _ _ us hl => match us, hl with | [_], _ => rfl, s__law_statements⟩
theorem s__law_moves : FnScope d__law_moves.N d__law_moves.ps (defScope d__law_moves.st) := ⟨rfl, rfl, rfl, by decide +kernel, rfl, by decide +kernel, by decide +kernel⟩
theorem k__law_moves {K : PySem.W.Frag} {mg : Str → Option Value} {f : Addr} {od an : Option Addr} {sl : Array (Option Value)} {oc kV dc pm cd ct : Value} (hm : mg "_law_moves" = some (.ref f)) (l : K.lookup f = some ⟨oc, od, .func (PySem.W.fnOf "_law_moves" "_law_moves" (defArgs d__law_moves.st) (defBody d__law_moves.st) (defScope d__law_moves.st) .none kV dc pm an cd ct), sl⟩) (c : PySem.W.codeIn K cd "_law_moves" = true) (kp : PySem.W.keepIn K (.ref f) = true) : DOk K mg "_law_moves" d__law_moves :=
  ⟨f, _, hm, fun_mk (st := d__law_moves.st) l c kp, (fun_mk (st := d__law_moves.st) l c kp).binds (ps := d__law_moves.ps) fun _ _ _ _ _ _ us hl => match us, hl with | [_], _ => rfl, s__law_moves⟩
theorem s__law_states : FnScope d__law_states.N d__law_states.ps (defScope d__law_states.st) := ⟨rfl, rfl, rfl, by decide +kernel, rfl, by decide +kernel, by decide +kernel⟩
theorem k__law_states {K : PySem.W.Frag} {mg : Str → Option Value} {f : Addr} {od an : Option Addr} {sl : Array (Option Value)} {oc kV dc pm cd ct : Value} (hm : mg "_law_states" = some (.ref f)) (l : K.lookup f = some ⟨oc, od, .func (PySem.W.fnOf "_law_states" "_law_states" (defArgs d__law_states.st) (defBody d__law_states.st) (defScope d__law_states.st) .none kV dc pm an cd ct), sl⟩) (c : PySem.W.codeIn K cd "_law_states" = true) (kp : PySem.W.keepIn K (.ref f) = true) : DOk K mg "_law_states" d__law_states :=
  ⟨f, _, hm, fun_mk (st := d__law_states.st) l c kp, (fun_mk (st := d__law_states.st) l c kp).binds (ps := d__law_states.ps) fun _ _ _ _ _ _ us hl => match us, hl with | [_, _], _ => rfl, s__law_states⟩
theorem s__law_wild_head : FnScope d__law_wild_head.N d__law_wild_head.ps (defScope d__law_wild_head.st) := ⟨rfl, rfl, rfl, by decide +kernel, rfl, by decide +kernel, by decide +kernel⟩
theorem k__law_wild_head {K : PySem.W.Frag} {mg : Str → Option Value} {f : Addr} {od an : Option Addr} {sl : Array (Option Value)} {oc kV dc pm cd ct : Value} (hm : mg "_law_wild_head" = some (.ref f)) (l : K.lookup f = some ⟨oc, od, .func (PySem.W.fnOf "_law_wild_head" "_law_wild_head" (defArgs d__law_wild_head.st) (defBody d__law_wild_head.st) (defScope d__law_wild_head.st) .none kV dc pm an cd ct), sl⟩) (c : PySem.W.codeIn K cd "_law_wild_head" = true) (kp : PySem.W.keepIn K (.ref f) = true) : DOk K mg "_law_wild_head" d__law_wild_head :=
  ⟨f, _, hm, fun_mk (st := d__law_wild_head.st) l c kp, (fun_mk (st := d__law_wild_head.st) l c kp).binds (ps := d__law_wild_head.ps) fun _ _ _ _ _ _ us hl => match us, hl with | [_, _], _ => rfl, s__law_wild_head⟩
theorem s__law_wild_value : FnScope d__law_wild_value.N d__law_wild_value.ps (defScope d__law_wild_value.st) := ⟨rfl, rfl, rfl, by decide +kernel, rfl, by decide +kernel, by decide +kernel⟩
theorem k__law_wild_value {K : PySem.W.Frag} {mg : Str → Option Value} {f : Addr} {od an : Option Addr} {sl : Array (Option Value)} {oc kV dc pm cd ct : Value} (hm : mg "_law_wild_value" = some (.ref f)) (l : K.lookup f = some ⟨oc, od, .func (PySem.W.fnOf "_law_wild_value" "_law_wild_value" (defArgs d__law_wild_value.st) (defBody d__law_wild_value.st) (defScope d__law_wild_value.st) .none kV dc pm an cd ct), sl⟩) (c : PySem.W.codeIn K cd "_law_wild_value" = true) (kp : PySem.W.keepIn K (.ref f) = true) : DOk K mg "_law_wild_value" d__law_wild_value :=
  ⟨f, _, hm, fun_mk (st := d__law_wild_value.st) l c kp, (fun_mk (st := d__law_wild_value.st) l c kp).binds (ps := d__law_wild_value.ps) fun _ _ _ _ _ _ us hl => match us, hl with | [_, _, _, _], _ => rfl, s__law_wild_value⟩
theorem s__law_wild_call : FnScope d__law_wild_call.N d__law_wild_call.ps (defScope d__law_wild_call.st) := ⟨rfl, rfl, rfl, by decide +kernel, rfl, by decide +kernel, by decide +kernel⟩
theorem k__law_wild_call {K : PySem.W.Frag} {mg : Str → Option Value} {f : Addr} {od an : Option Addr} {sl : Array (Option Value)} {oc kV dc pm cd ct : Value} (hm : mg "_law_wild_call" = some (.ref f)) (l : K.lookup f = some ⟨oc, od, .func (PySem.W.fnOf "_law_wild_call" "_law_wild_call" (defArgs d__law_wild_call.st) (defBody d__law_wild_call.st) (defScope d__law_wild_call.st) .none kV dc pm an cd ct), sl⟩) (c : PySem.W.codeIn K cd "_law_wild_call" = true) (kp : PySem.W.keepIn K (.ref f) = true) : DOk K mg "_law_wild_call" d__law_wild_call :=
  ⟨f, _, hm, fun_mk (st := d__law_wild_call.st) l c kp, (fun_mk (st := d__law_wild_call.st) l c kp).binds (ps := d__law_wild_call.ps) fun _ _ _ _ _ _ us hl => match us, hl with | [_, _, _], _ => rfl, s__law_wild_call⟩
theorem s__law_wild_test : FnScope d__law_wild_test.N d__law_wild_test.ps (defScope d__law_wild_test.st) := ⟨rfl, rfl, rfl, by decide +kernel, rfl, by decide +kernel, by decide +kernel⟩
theorem k__law_wild_test {K : PySem.W.Frag} {mg : Str → Option Value} {f : Addr} {od an : Option Addr} {sl : Array (Option Value)} {oc kV dc pm cd ct : Value} (hm : mg "_law_wild_test" = some (.ref f)) (l : K.lookup f = some ⟨oc, od, .func (PySem.W.fnOf "_law_wild_test" "_law_wild_test" (defArgs d__law_wild_test.st) (defBody d__law_wild_test.st) (defScope d__law_wild_test.st) .none kV dc pm an cd ct), sl⟩) (c : PySem.W.codeIn K cd "_law_wild_test" = true) (kp : PySem.W.keepIn K (.ref f) = true) : DOk K mg "_law_wild_test" d__law_wild_test :=
  ⟨f, _, hm, fun_mk (st := d__law_wild_test.st) l c kp, (fun_mk (st := d__law_wild_test.st) l c kp).binds (ps := d__law_wild_test.ps) fun _ _ _ _ _ _ us hl => match us, hl with | [_, _, _, _], _ => rfl, s__law_wild_test⟩
theorem s__law_wild_statement : FnScope d__law_wild_statement.N d__law_wild_statement.ps (defScope d__law_wild_statement.st) := ⟨rfl, rfl, rfl, by decide +kernel, rfl, by decide +kernel, by decide +kernel⟩
theorem k__law_wild_statement {K : PySem.W.Frag} {mg : Str → Option Value} {f : Addr} {od an : Option Addr} {sl : Array (Option Value)} {oc kV dc pm cd ct : Value} (hm : mg "_law_wild_statement" = some (.ref f)) (l : K.lookup f = some ⟨oc, od, .func (PySem.W.fnOf "_law_wild_statement" "_law_wild_statement" (defArgs d__law_wild_statement.st) (defBody d__law_wild_statement.st) (defScope d__law_wild_statement.st) .none kV dc pm an cd ct), sl⟩) (c : PySem.W.codeIn K cd "_law_wild_statement" = true) (kp : PySem.W.keepIn K (.ref f) = true) : DOk K mg "_law_wild_statement" d__law_wild_statement :=
  ⟨f, _, hm, fun_mk (st := d__law_wild_statement.st) l c kp, (fun_mk (st := d__law_wild_statement.st) l c kp).binds (ps := d__law_wild_statement.ps) fun _ _ _ _ _ _ us hl => match us, hl with | [_, _, _, _, _], _ => rfl, s__law_wild_statement⟩
theorem s__law_wild_block : FnScope d__law_wild_block.N d__law_wild_block.ps (defScope d__law_wild_block.st) := ⟨rfl, rfl, rfl, by decide +kernel, rfl, by decide +kernel, by decide +kernel⟩
theorem k__law_wild_block {K : PySem.W.Frag} {mg : Str → Option Value} {f : Addr} {od an : Option Addr} {sl : Array (Option Value)} {oc kV dc pm cd ct : Value} (hm : mg "_law_wild_block" = some (.ref f)) (l : K.lookup f = some ⟨oc, od, .func (PySem.W.fnOf "_law_wild_block" "_law_wild_block" (defArgs d__law_wild_block.st) (defBody d__law_wild_block.st) (defScope d__law_wild_block.st) .none kV dc pm an cd ct), sl⟩) (c : PySem.W.codeIn K cd "_law_wild_block" = true) (kp : PySem.W.keepIn K (.ref f) = true) : DOk K mg "_law_wild_block" d__law_wild_block :=
  ⟨f, _, hm, fun_mk (st := d__law_wild_block.st) l c kp, (fun_mk (st := d__law_wild_block.st) l c kp).binds (ps := d__law_wild_block.ps) fun _ _ _ _ _ _ us hl => match us, hl with | [_, _, _, _, _], _ => rfl, s__law_wild_block⟩
theorem s__law_wild_core : FnScope d__law_wild_core.N d__law_wild_core.ps (defScope d__law_wild_core.st) := ⟨rfl, rfl, rfl, by decide +kernel, rfl, by decide +kernel, by decide +kernel⟩
theorem k__law_wild_core {K : PySem.W.Frag} {mg : Str → Option Value} {f : Addr} {od an : Option Addr} {sl : Array (Option Value)} {oc kV dc pm cd ct : Value} (hm : mg "_law_wild_core" = some (.ref f)) (l : K.lookup f = some ⟨oc, od, .func (PySem.W.fnOf "_law_wild_core" "_law_wild_core" (defArgs d__law_wild_core.st) (defBody d__law_wild_core.st) (defScope d__law_wild_core.st) .none kV dc pm an cd ct), sl⟩) (c : PySem.W.codeIn K cd "_law_wild_core" = true) (kp : PySem.W.keepIn K (.ref f) = true) : DOk K mg "_law_wild_core" d__law_wild_core :=
  ⟨f, _, hm, fun_mk (st := d__law_wild_core.st) l c kp, (fun_mk (st := d__law_wild_core.st) l c kp).binds (ps := d__law_wild_core.ps) fun _ _ _ _ _ _ us hl => match us, hl with | [_], _ => rfl, s__law_wild_core⟩
theorem s__law_plainly : FnScope d__law_plainly.N d__law_plainly.ps (defScope d__law_plainly.st) := ⟨rfl, rfl, rfl, by decide +kernel, rfl, by decide +kernel, by decide +kernel⟩
theorem k__law_plainly {K : PySem.W.Frag} {mg : Str → Option Value} {f : Addr} {od an : Option Addr} {sl : Array (Option Value)} {oc kV dc pm cd ct : Value} (hm : mg "_law_plainly" = some (.ref f)) (l : K.lookup f = some ⟨oc, od, .func (PySem.W.fnOf "_law_plainly" "_law_plainly" (defArgs d__law_plainly.st) (defBody d__law_plainly.st) (defScope d__law_plainly.st) .none kV dc pm an cd ct), sl⟩) (c : PySem.W.codeIn K cd "_law_plainly" = true) (kp : PySem.W.keepIn K (.ref f) = true) : DOk K mg "_law_plainly" d__law_plainly :=
  ⟨f, _, hm, fun_mk (st := d__law_plainly.st) l c kp, (fun_mk (st := d__law_plainly.st) l c kp).binds (ps := d__law_plainly.ps) fun _ _ _ _ _ _ us hl => match us, hl with | [_, _], _ => rfl, s__law_plainly⟩
theorem s__law_comparisons : FnScope d__law_comparisons.N d__law_comparisons.ps (defScope d__law_comparisons.st) := ⟨rfl, rfl, rfl, by decide +kernel, rfl, by decide +kernel, by decide +kernel⟩
theorem k__law_comparisons {K : PySem.W.Frag} {mg : Str → Option Value} {f : Addr} {od an : Option Addr} {sl : Array (Option Value)} {oc kV dc pm cd ct : Value} (hm : mg "_law_comparisons" = some (.ref f)) (l : K.lookup f = some ⟨oc, od, .func (PySem.W.fnOf "_law_comparisons" "_law_comparisons" (defArgs d__law_comparisons.st) (defBody d__law_comparisons.st) (defScope d__law_comparisons.st) .none kV dc pm an cd ct), sl⟩) (c : PySem.W.codeIn K cd "_law_comparisons" = true) (kp : PySem.W.keepIn K (.ref f) = true) : DOk K mg "_law_comparisons" d__law_comparisons :=
  ⟨f, _, hm, fun_mk (st := d__law_comparisons.st) l c kp, (fun_mk (st := d__law_comparisons.st) l c kp).binds (ps := d__law_comparisons.ps) fun _ _ _ _ _ _ us hl => match us, hl with | [_], _ => rfl, s__law_comparisons⟩
theorem s__law_both_ways : FnScope d__law_both_ways.N d__law_both_ways.ps (defScope d__law_both_ways.st) := ⟨rfl, rfl, rfl, by decide +kernel, rfl, by decide +kernel, by decide +kernel⟩
theorem k__law_both_ways {K : PySem.W.Frag} {mg : Str → Option Value} {f : Addr} {od an : Option Addr} {sl : Array (Option Value)} {oc kV dc pm cd ct : Value} (hm : mg "_law_both_ways" = some (.ref f)) (l : K.lookup f = some ⟨oc, od, .func (PySem.W.fnOf "_law_both_ways" "_law_both_ways" (defArgs d__law_both_ways.st) (defBody d__law_both_ways.st) (defScope d__law_both_ways.st) .none kV dc pm an cd ct), sl⟩) (c : PySem.W.codeIn K cd "_law_both_ways" = true) (kp : PySem.W.keepIn K (.ref f) = true) : DOk K mg "_law_both_ways" d__law_both_ways :=
  ⟨f, _, hm, fun_mk (st := d__law_both_ways.st) l c kp, (fun_mk (st := d__law_both_ways.st) l c kp).binds (ps := d__law_both_ways.ps) fun _ _ _ _ _ _ us hl => match us, hl with | [_, _], _ => rfl, s__law_both_ways⟩
theorem s__law_due : FnScope d__law_due.N d__law_due.ps (defScope d__law_due.st) := ⟨rfl, rfl, rfl, by decide +kernel, rfl, by decide +kernel, by decide +kernel⟩
theorem k__law_due {K : PySem.W.Frag} {mg : Str → Option Value} {f : Addr} {od an : Option Addr} {sl : Array (Option Value)} {oc kV dc pm cd ct : Value} (hm : mg "_law_due" = some (.ref f)) (l : K.lookup f = some ⟨oc, od, .func (PySem.W.fnOf "_law_due" "_law_due" (defArgs d__law_due.st) (defBody d__law_due.st) (defScope d__law_due.st) .none kV dc pm an cd ct), sl⟩) (c : PySem.W.codeIn K cd "_law_due" = true) (kp : PySem.W.keepIn K (.ref f) = true) : DOk K mg "_law_due" d__law_due :=
  ⟨f, _, hm, fun_mk (st := d__law_due.st) l c kp, (fun_mk (st := d__law_due.st) l c kp).binds (ps := d__law_due.ps) fun _ _ _ _ _ _ us hl => match us, hl with | [_, _], _ => rfl, s__law_due⟩
theorem s__law_steady : FnScope d__law_steady.N d__law_steady.ps (defScope d__law_steady.st) := ⟨rfl, rfl, rfl, by decide +kernel, rfl, by decide +kernel, by decide +kernel⟩
theorem k__law_steady {K : PySem.W.Frag} {mg : Str → Option Value} {f : Addr} {od an : Option Addr} {sl : Array (Option Value)} {oc kV dc pm cd ct : Value} (hm : mg "_law_steady" = some (.ref f)) (l : K.lookup f = some ⟨oc, od, .func (PySem.W.fnOf "_law_steady" "_law_steady" (defArgs d__law_steady.st) (defBody d__law_steady.st) (defScope d__law_steady.st) .none kV dc pm an cd ct), sl⟩) (c : PySem.W.codeIn K cd "_law_steady" = true) (kp : PySem.W.keepIn K (.ref f) = true) : DOk K mg "_law_steady" d__law_steady :=
  ⟨f, _, hm, fun_mk (st := d__law_steady.st) l c kp, (fun_mk (st := d__law_steady.st) l c kp).binds (ps := d__law_steady.ps) fun _ _ _ _ _ _ us hl => match us, hl with | [_, _], _ => rfl, s__law_steady⟩
theorem s__law_hinted : FnScope d__law_hinted.N d__law_hinted.ps (defScope d__law_hinted.st) := ⟨rfl, rfl, rfl, by decide +kernel, rfl, by decide +kernel, by decide +kernel⟩
theorem k__law_hinted {K : PySem.W.Frag} {mg : Str → Option Value} {f : Addr} {od an : Option Addr} {sl : Array (Option Value)} {oc kV dc pm cd ct : Value} (hm : mg "_law_hinted" = some (.ref f)) (l : K.lookup f = some ⟨oc, od, .func (PySem.W.fnOf "_law_hinted" "_law_hinted" (defArgs d__law_hinted.st) (defBody d__law_hinted.st) (defScope d__law_hinted.st) .none kV dc pm an cd ct), sl⟩) (c : PySem.W.codeIn K cd "_law_hinted" = true) (kp : PySem.W.keepIn K (.ref f) = true) : DOk K mg "_law_hinted" d__law_hinted :=
  ⟨f, _, hm, fun_mk (st := d__law_hinted.st) l c kp, (fun_mk (st := d__law_hinted.st) l c kp).binds (ps := d__law_hinted.ps) fun _ _ _ _ _ _ us hl => match us, hl with | [_, _, _], _ => rfl, s__law_hinted⟩
theorem s_law : FnScope d_law.N d_law.ps (defScope d_law.st) := ⟨rfl, rfl, rfl, by decide +kernel, rfl, by decide +kernel, by decide +kernel⟩
theorem k_law {K : PySem.W.Frag} {mg : Str → Option Value} {f : Addr} {od an : Option Addr} {sl : Array (Option Value)} {oc kV dc pm cd ct : Value} (hm : mg "law" = some (.ref f)) (l : K.lookup f = some ⟨oc, od, .func (PySem.W.fnOf "law" "law" (defArgs d_law.st) (defBody d_law.st) (defScope d_law.st) .none kV dc pm an cd ct), sl⟩) (c : PySem.W.codeIn K cd "law" = true) (kp : PySem.W.keepIn K (.ref f) = true) : DOk K mg "law" d_law :=
  ⟨f, _, hm, fun_mk (st := d_law.st) l c kp, (fun_mk (st := d_law.st) l c kp).binds (ps := d_law.ps) fun _ _ _ _ _ _ us hl => match us, hl with | [_], _ => rfl, s_law⟩
theorem all_mk {K : PySem.W.Frag} {h : Heap} {mg : Str → Option Value} {fa : Addr} (X : K.In h) (G : h.Ns mainGlobals mg) (hfa : mg "law" = some (.ref fa))
    {f0 : Addr} {od0 an0 : Option Addr} {sl0 : Array (Option Value)} {oc0 kV0 dc0 pm0 cd0 ct0 : Value} (a0 : PySem.W.nsIn K mainGlobals "form" = some (some (.ref f0))) (l0 : K.lookup f0 = some ⟨oc0, od0, .func (PySem.W.fnOf "form" "form" (defArgs d_form.st) (defBody d_form.st) (defScope d_form.st) .none kV0 dc0 pm0 an0 cd0 ct0), sl0⟩) (c0 : PySem.W.codeIn K cd0 "form" = true) (k0 : PySem.W.keepIn K (.ref f0) = true)
    {f1 : Addr} {od1 an1 : Option Addr} {sl1 : Array (Option Value)} {oc1 kV1 dc1 pm1 cd1 ct1 : Value} (a1 : PySem.W.nsIn K mainGlobals "variable" = some (some (.ref f1))) (l1 : K.lookup f1 = some ⟨oc1, od1, .func (PySem.W.fnOf "variable" "variable" (defArgs d_variable.st) (defBody d_variable.st) (defScope d_variable.st) .none kV1 dc1 pm1 an1 cd1 ct1), sl1⟩) (c1 : PySem.W.codeIn K cd1 "variable" = true) (k1 : PySem.W.keepIn K (.ref f1) = true)
    {f2 : Addr} {od2 an2 : Option Addr} {sl2 : Array (Option Value)} {oc2 kV2 dc2 pm2 cd2 ct2 : Value} (a2 : PySem.W.nsIn K mainGlobals "plus" = some (some (.ref f2))) (l2 : K.lookup f2 = some ⟨oc2, od2, .func (PySem.W.fnOf "plus" "plus" (defArgs d_plus.st) (defBody d_plus.st) (defScope d_plus.st) .none kV2 dc2 pm2 an2 cd2 ct2), sl2⟩) (c2 : PySem.W.codeIn K cd2 "plus" = true) (k2 : PySem.W.keepIn K (.ref f2) = true)
    {f3 : Addr} {od3 an3 : Option Addr} {sl3 : Array (Option Value)} {oc3 kV3 dc3 pm3 cd3 ct3 : Value} (a3 : PySem.W.nsIn K mainGlobals "times" = some (some (.ref f3))) (l3 : K.lookup f3 = some ⟨oc3, od3, .func (PySem.W.fnOf "times" "times" (defArgs d_times.st) (defBody d_times.st) (defScope d_times.st) .none kV3 dc3 pm3 an3 cd3 ct3), sl3⟩) (c3 : PySem.W.codeIn K cd3 "times" = true) (k3 : PySem.W.keepIn K (.ref f3) = true)
    {f4 : Addr} {od4 an4 : Option Addr} {sl4 : Array (Option Value)} {oc4 kV4 dc4 pm4 cd4 ct4 : Value} (a4 : PySem.W.nsIn K mainGlobals "minus" = some (some (.ref f4))) (l4 : K.lookup f4 = some ⟨oc4, od4, .func (PySem.W.fnOf "minus" "minus" (defArgs d_minus.st) (defBody d_minus.st) (defScope d_minus.st) .none kV4 dc4 pm4 an4 cd4 ct4), sl4⟩) (c4 : PySem.W.codeIn K cd4 "minus" = true) (k4 : PySem.W.keepIn K (.ref f4) = true)
    {f5 : Addr} {od5 an5 : Option Addr} {sl5 : Array (Option Value)} {oc5 kV5 dc5 pm5 cd5 ct5 : Value} (a5 : PySem.W.nsIn K mainGlobals "statements_in" = some (some (.ref f5))) (l5 : K.lookup f5 = some ⟨oc5, od5, .func (PySem.W.fnOf "statements_in" "statements_in" (defArgs d_statements_in.st) (defBody d_statements_in.st) (defScope d_statements_in.st) .none kV5 dc5 pm5 an5 cd5 ct5), sl5⟩) (c5 : PySem.W.codeIn K cd5 "statements_in" = true) (k5 : PySem.W.keepIn K (.ref f5) = true)
    {f6 : Addr} {od6 an6 : Option Addr} {sl6 : Array (Option Value)} {oc6 kV6 dc6 pm6 cd6 ct6 : Value} (a6 : PySem.W.nsIn K mainGlobals "proc_named" = some (some (.ref f6))) (l6 : K.lookup f6 = some ⟨oc6, od6, .func (PySem.W.fnOf "proc_named" "proc_named" (defArgs d_proc_named.st) (defBody d_proc_named.st) (defScope d_proc_named.st) .none kV6 dc6 pm6 an6 cd6 ct6), sl6⟩) (c6 : PySem.W.codeIn K cd6 "proc_named" = true) (k6 : PySem.W.keepIn K (.ref f6) = true)
    {f7 : Addr} {od7 an7 : Option Addr} {sl7 : Array (Option Value)} {oc7 kV7 dc7 pm7 cd7 ct7 : Value} (a7 : PySem.W.nsIn K mainGlobals "assigned_in" = some (some (.ref f7))) (l7 : K.lookup f7 = some ⟨oc7, od7, .func (PySem.W.fnOf "assigned_in" "assigned_in" (defArgs d_assigned_in.st) (defBody d_assigned_in.st) (defScope d_assigned_in.st) .none kV7 dc7 pm7 an7 cd7 ct7), sl7⟩) (c7 : PySem.W.codeIn K cd7 "assigned_in" = true) (k7 : PySem.W.keepIn K (.ref f7) = true)
    {f8 : Addr} {od8 an8 : Option Addr} {sl8 : Array (Option Value)} {oc8 kV8 dc8 pm8 cd8 ct8 : Value} (a8 : PySem.W.nsIn K mainGlobals "passed_on" = some (some (.ref f8))) (l8 : K.lookup f8 = some ⟨oc8, od8, .func (PySem.W.fnOf "passed_on" "passed_on" (defArgs d_passed_on.st) (defBody d_passed_on.st) (defScope d_passed_on.st) .none kV8 dc8 pm8 an8 cd8 ct8), sl8⟩) (c8 : PySem.W.codeIn K cd8 "passed_on" = true) (k8 : PySem.W.keepIn K (.ref f8) = true)
    {f9 : Addr} {od9 an9 : Option Addr} {sl9 : Array (Option Value)} {oc9 kV9 dc9 pm9 cd9 ct9 : Value} (a9 : PySem.W.nsIn K mainGlobals "moving_table" = some (some (.ref f9))) (l9 : K.lookup f9 = some ⟨oc9, od9, .func (PySem.W.fnOf "moving_table" "moving_table" (defArgs d_moving_table.st) (defBody d_moving_table.st) (defScope d_moving_table.st) .none kV9 dc9 pm9 an9 cd9 ct9), sl9⟩) (c9 : PySem.W.codeIn K cd9 "moving_table" = true) (k9 : PySem.W.keepIn K (.ref f9) = true)
    {f10 : Addr} {od10 an10 : Option Addr} {sl10 : Array (Option Value)} {oc10 kV10 dc10 pm10 cd10 ct10 : Value} (a10 : PySem.W.nsIn K mainGlobals "variable_of" = some (some (.ref f10))) (l10 : K.lookup f10 = some ⟨oc10, od10, .func (PySem.W.fnOf "variable_of" "variable_of" (defArgs d_variable_of.st) (defBody d_variable_of.st) (defScope d_variable_of.st) .none kV10 dc10 pm10 an10 cd10 ct10), sl10⟩) (c10 : PySem.W.codeIn K cd10 "variable_of" = true) (k10 : PySem.W.keepIn K (.ref f10) = true)
    {f11 : Addr} {od11 an11 : Option Addr} {sl11 : Array (Option Value)} {oc11 kV11 dc11 pm11 cd11 ct11 : Value} (a11 : PySem.W.nsIn K mainGlobals "moving_items" = some (some (.ref f11))) (l11 : K.lookup f11 = some ⟨oc11, od11, .func (PySem.W.fnOf "moving_items" "moving_items" (defArgs d_moving_items.st) (defBody d_moving_items.st) (defScope d_moving_items.st) .none kV11 dc11 pm11 an11 cd11 ct11), sl11⟩) (c11 : PySem.W.codeIn K cd11 "moving_items" = true) (k11 : PySem.W.keepIn K (.ref f11) = true)
    {f12 : Addr} {od12 an12 : Option Addr} {sl12 : Array (Option Value)} {oc12 kV12 dc12 pm12 cd12 ct12 : Value} (a12 : PySem.W.nsIn K mainGlobals "states_of_proc" = some (some (.ref f12))) (l12 : K.lookup f12 = some ⟨oc12, od12, .func (PySem.W.fnOf "states_of_proc" "states_of_proc" (defArgs d_states_of_proc.st) (defBody d_states_of_proc.st) (defScope d_states_of_proc.st) .none kV12 dc12 pm12 an12 cd12 ct12), sl12⟩) (c12 : PySem.W.codeIn K cd12 "states_of_proc" = true) (k12 : PySem.W.keepIn K (.ref f12) = true)
    {f13 : Addr} {od13 an13 : Option Addr} {sl13 : Array (Option Value)} {oc13 kV13 dc13 pm13 cd13 ct13 : Value} (a13 : PySem.W.nsIn K mainGlobals "states_of" = some (some (.ref f13))) (l13 : K.lookup f13 = some ⟨oc13, od13, .func (PySem.W.fnOf "states_of" "states_of" (defArgs d_states_of.st) (defBody d_states_of.st) (defScope d_states_of.st) .none kV13 dc13 pm13 an13 cd13 ct13), sl13⟩) (c13 : PySem.W.codeIn K cd13 "states_of" = true) (k13 : PySem.W.keepIn K (.ref f13) = true)
    {f14 : Addr} {od14 an14 : Option Addr} {sl14 : Array (Option Value)} {oc14 kV14 dc14 pm14 cd14 ct14 : Value} (a14 : PySem.W.nsIn K mainGlobals "without_doubles" = some (some (.ref f14))) (l14 : K.lookup f14 = some ⟨oc14, od14, .func (PySem.W.fnOf "without_doubles" "without_doubles" (defArgs d_without_doubles.st) (defBody d_without_doubles.st) (defScope d_without_doubles.st) .none kV14 dc14 pm14 an14 cd14 ct14), sl14⟩) (c14 : PySem.W.codeIn K cd14 "without_doubles" = true) (k14 : PySem.W.keepIn K (.ref f14) = true)
    {f15 : Addr} {od15 an15 : Option Addr} {sl15 : Array (Option Value)} {oc15 kV15 dc15 pm15 cd15 ct15 : Value} (a15 : PySem.W.nsIn K mainGlobals "comparisons_of" = some (some (.ref f15))) (l15 : K.lookup f15 = some ⟨oc15, od15, .func (PySem.W.fnOf "comparisons_of" "comparisons_of" (defArgs d_comparisons_of.st) (defBody d_comparisons_of.st) (defScope d_comparisons_of.st) .none kV15 dc15 pm15 an15 cd15 ct15), sl15⟩) (c15 : PySem.W.codeIn K cd15 "comparisons_of" = true) (k15 : PySem.W.keepIn K (.ref f15) = true)
    {f16 : Addr} {od16 an16 : Option Addr} {sl16 : Array (Option Value)} {oc16 kV16 dc16 pm16 cd16 ct16 : Value} (a16 : PySem.W.nsIn K mainGlobals "plain_form" = some (some (.ref f16))) (l16 : K.lookup f16 = some ⟨oc16, od16, .func (PySem.W.fnOf "plain_form" "plain_form" (defArgs d_plain_form.st) (defBody d_plain_form.st) (defScope d_plain_form.st) .none kV16 dc16 pm16 an16 cd16 ct16), sl16⟩) (c16 : PySem.W.codeIn K cd16 "plain_form" = true) (k16 : PySem.W.keepIn K (.ref f16) = true)
    {f17 : Addr} {od17 an17 : Option Addr} {sl17 : Array (Option Value)} {oc17 kV17 dc17 pm17 cd17 ct17 : Value} (a17 : PySem.W.nsIn K mainGlobals "comparison_forms" = some (some (.ref f17))) (l17 : K.lookup f17 = some ⟨oc17, od17, .func (PySem.W.fnOf "comparison_forms" "comparison_forms" (defArgs d_comparison_forms.st) (defBody d_comparison_forms.st) (defScope d_comparison_forms.st) .none kV17 dc17 pm17 an17 cd17 ct17), sl17⟩) (c17 : PySem.W.codeIn K cd17 "comparison_forms" = true) (k17 : PySem.W.keepIn K (.ref f17) = true)
    {f18 : Addr} {od18 an18 : Option Addr} {sl18 : Array (Option Value)} {oc18 kV18 dc18 pm18 cd18 ct18 : Value} (a18 : PySem.W.nsIn K mainGlobals "is_steady" = some (some (.ref f18))) (l18 : K.lookup f18 = some ⟨oc18, od18, .func (PySem.W.fnOf "is_steady" "is_steady" (defArgs d_is_steady.st) (defBody d_is_steady.st) (defScope d_is_steady.st) .none kV18 dc18 pm18 an18 cd18 ct18), sl18⟩) (c18 : PySem.W.codeIn K cd18 "is_steady" = true) (k18 : PySem.W.keepIn K (.ref f18) = true)
    {f19 : Addr} {od19 an19 : Option Addr} {sl19 : Array (Option Value)} {oc19 kV19 dc19 pm19 cd19 ct19 : Value} (a19 : PySem.W.nsIn K mainGlobals "set_forms" = some (some (.ref f19))) (l19 : K.lookup f19 = some ⟨oc19, od19, .func (PySem.W.fnOf "set_forms" "set_forms" (defArgs d_set_forms.st) (defBody d_set_forms.st) (defScope d_set_forms.st) .none kV19 dc19 pm19 an19 cd19 ct19), sl19⟩) (c19 : PySem.W.codeIn K cd19 "set_forms" = true) (k19 : PySem.W.keepIn K (.ref f19) = true)
    {f20 : Addr} {od20 an20 : Option Addr} {sl20 : Array (Option Value)} {oc20 kV20 dc20 pm20 cd20 ct20 : Value} (a20 : PySem.W.nsIn K mainGlobals "differences" = some (some (.ref f20))) (l20 : K.lookup f20 = some ⟨oc20, od20, .func (PySem.W.fnOf "differences" "differences" (defArgs d_differences.st) (defBody d_differences.st) (defScope d_differences.st) .none kV20 dc20 pm20 an20 cd20 ct20), sl20⟩) (c20 : PySem.W.codeIn K cd20 "differences" = true) (k20 : PySem.W.keepIn K (.ref f20) = true)
    {f21 : Addr} {od21 an21 : Option Addr} {sl21 : Array (Option Value)} {oc21 kV21 dc21 pm21 cd21 ct21 : Value} (a21 : PySem.W.nsIn K mainGlobals "point_candidates" = some (some (.ref f21))) (l21 : K.lookup f21 = some ⟨oc21, od21, .func (PySem.W.fnOf "point_candidates" "point_candidates" (defArgs d_point_candidates.st) (defBody d_point_candidates.st) (defScope d_point_candidates.st) .none kV21 dc21 pm21 an21 cd21 ct21), sl21⟩) (c21 : PySem.W.codeIn K cd21 "point_candidates" = true) (k21 : PySem.W.keepIn K (.ref f21) = true)
    {f22 : Addr} {od22 an22 : Option Addr} {sl22 : Array (Option Value)} {oc22 kV22 dc22 pm22 cd22 ct22 : Value} (a22 : PySem.W.nsIn K mainGlobals "differences_of" = some (some (.ref f22))) (l22 : K.lookup f22 = some ⟨oc22, od22, .func (PySem.W.fnOf "differences_of" "differences_of" (defArgs d_differences_of.st) (defBody d_differences_of.st) (defScope d_differences_of.st) .none kV22 dc22 pm22 an22 cd22 ct22), sl22⟩) (c22 : PySem.W.codeIn K cd22 "differences_of" = true) (k22 : PySem.W.keepIn K (.ref f22) = true)
    {f23 : Addr} {od23 an23 : Option Addr} {sl23 : Array (Option Value)} {oc23 kV23 dc23 pm23 cd23 ct23 : Value} (a23 : PySem.W.nsIn K mainGlobals "_law_start" = some (some (.ref f23))) (l23 : K.lookup f23 = some ⟨oc23, od23, .func (PySem.W.fnOf "_law_start" "_law_start" (defArgs d__law_start.st) (defBody d__law_start.st) (defScope d__law_start.st) .none kV23 dc23 pm23 an23 cd23 ct23), sl23⟩) (c23 : PySem.W.codeIn K cd23 "_law_start" = true) (k23 : PySem.W.keepIn K (.ref f23) = true)
    {f24 : Addr} {od24 an24 : Option Addr} {sl24 : Array (Option Value)} {oc24 kV24 dc24 pm24 cd24 ct24 : Value} (a24 : PySem.W.nsIn K mainGlobals "_law_draw" = some (some (.ref f24))) (l24 : K.lookup f24 = some ⟨oc24, od24, .func (PySem.W.fnOf "_law_draw" "_law_draw" (defArgs d__law_draw.st) (defBody d__law_draw.st) (defScope d__law_draw.st) .none kV24 dc24 pm24 an24 cd24 ct24), sl24⟩) (c24 : PySem.W.codeIn K cd24 "_law_draw" = true) (k24 : PySem.W.keepIn K (.ref f24) = true)
    {f25 : Addr} {od25 an25 : Option Addr} {sl25 : Array (Option Value)} {oc25 kV25 dc25 pm25 cd25 ct25 : Value} (a25 : PySem.W.nsIn K mainGlobals "_law_one_of" = some (some (.ref f25))) (l25 : K.lookup f25 = some ⟨oc25, od25, .func (PySem.W.fnOf "_law_one_of" "_law_one_of" (defArgs d__law_one_of.st) (defBody d__law_one_of.st) (defScope d__law_one_of.st) .none kV25 dc25 pm25 an25 cd25 ct25), sl25⟩) (c25 : PySem.W.codeIn K cd25 "_law_one_of" = true) (k25 : PySem.W.keepIn K (.ref f25) = true)
    {f26 : Addr} {od26 an26 : Option Addr} {sl26 : Array (Option Value)} {oc26 kV26 dc26 pm26 cd26 ct26 : Value} (a26 : PySem.W.nsIn K mainGlobals "_law_shuffled" = some (some (.ref f26))) (l26 : K.lookup f26 = some ⟨oc26, od26, .func (PySem.W.fnOf "_law_shuffled" "_law_shuffled" (defArgs d__law_shuffled.st) (defBody d__law_shuffled.st) (defScope d__law_shuffled.st) .none kV26 dc26 pm26 an26 cd26 ct26), sl26⟩) (c26 : PySem.W.codeIn K cd26 "_law_shuffled" = true) (k26 : PySem.W.keepIn K (.ref f26) = true)
    {f27 : Addr} {od27 an27 : Option Addr} {sl27 : Array (Option Value)} {oc27 kV27 dc27 pm27 cd27 ct27 : Value} (a27 : PySem.W.nsIn K mainGlobals "_law_words" = some (some (.ref f27))) (l27 : K.lookup f27 = some ⟨oc27, od27, .func (PySem.W.fnOf "_law_words" "_law_words" (defArgs d__law_words.st) (defBody d__law_words.st) (defScope d__law_words.st) .none kV27 dc27 pm27 an27 cd27 ct27), sl27⟩) (c27 : PySem.W.codeIn K cd27 "_law_words" = true) (k27 : PySem.W.keepIn K (.ref f27) = true)
    {f28 : Addr} {od28 an28 : Option Addr} {sl28 : Array (Option Value)} {oc28 kV28 dc28 pm28 cd28 ct28 : Value} (a28 : PySem.W.nsIn K mainGlobals "_law_is_int" = some (some (.ref f28))) (l28 : K.lookup f28 = some ⟨oc28, od28, .func (PySem.W.fnOf "_law_is_int" "_law_is_int" (defArgs d__law_is_int.st) (defBody d__law_is_int.st) (defScope d__law_is_int.st) .none kV28 dc28 pm28 an28 cd28 ct28), sl28⟩) (c28 : PySem.W.codeIn K cd28 "_law_is_int" = true) (k28 : PySem.W.keepIn K (.ref f28) = true)
    {f29 : Addr} {od29 an29 : Option Addr} {sl29 : Array (Option Value)} {oc29 kV29 dc29 pm29 cd29 ct29 : Value} (a29 : PySem.W.nsIn K mainGlobals "_law_same" = some (some (.ref f29))) (l29 : K.lookup f29 = some ⟨oc29, od29, .func (PySem.W.fnOf "_law_same" "_law_same" (defArgs d__law_same.st) (defBody d__law_same.st) (defScope d__law_same.st) .none kV29 dc29 pm29 an29 cd29 ct29), sl29⟩) (c29 : PySem.W.codeIn K cd29 "_law_same" = true) (k29 : PySem.W.keepIn K (.ref f29) = true)
    {f30 : Addr} {od30 an30 : Option Addr} {sl30 : Array (Option Value)} {oc30 kV30 dc30 pm30 cd30 ct30 : Value} (a30 : PySem.W.nsIn K mainGlobals "_law_form" = some (some (.ref f30))) (l30 : K.lookup f30 = some ⟨oc30, od30, .func (PySem.W.fnOf "_law_form" "_law_form" (defArgs d__law_form.st) (defBody d__law_form.st) (defScope d__law_form.st) .none kV30 dc30 pm30 an30 cd30 ct30), sl30⟩) (c30 : PySem.W.codeIn K cd30 "_law_form" = true) (k30 : PySem.W.keepIn K (.ref f30) = true)
    {f31 : Addr} {od31 an31 : Option Addr} {sl31 : Array (Option Value)} {oc31 kV31 dc31 pm31 cd31 ct31 : Value} (a31 : PySem.W.nsIn K mainGlobals "_law_sum" = some (some (.ref f31))) (l31 : K.lookup f31 = some ⟨oc31, od31, .func (PySem.W.fnOf "_law_sum" "_law_sum" (defArgs d__law_sum.st) (defBody d__law_sum.st) (defScope d__law_sum.st) .none kV31 dc31 pm31 an31 cd31 ct31), sl31⟩) (c31 : PySem.W.codeIn K cd31 "_law_sum" = true) (k31 : PySem.W.keepIn K (.ref f31) = true)
    {f32 : Addr} {od32 an32 : Option Addr} {sl32 : Array (Option Value)} {oc32 kV32 dc32 pm32 cd32 ct32 : Value} (a32 : PySem.W.nsIn K mainGlobals "_law_var" = some (some (.ref f32))) (l32 : K.lookup f32 = some ⟨oc32, od32, .func (PySem.W.fnOf "_law_var" "_law_var" (defArgs d__law_var.st) (defBody d__law_var.st) (defScope d__law_var.st) .none kV32 dc32 pm32 an32 cd32 ct32), sl32⟩) (c32 : PySem.W.codeIn K cd32 "_law_var" = true) (k32 : PySem.W.keepIn K (.ref f32) = true)
    {f33 : Addr} {od33 an33 : Option Addr} {sl33 : Array (Option Value)} {oc33 kV33 dc33 pm33 cd33 ct33 : Value} (a33 : PySem.W.nsIn K mainGlobals "_law_names" = some (some (.ref f33))) (l33 : K.lookup f33 = some ⟨oc33, od33, .func (PySem.W.fnOf "_law_names" "_law_names" (defArgs d__law_names.st) (defBody d__law_names.st) (defScope d__law_names.st) .none kV33 dc33 pm33 an33 cd33 ct33), sl33⟩) (c33 : PySem.W.codeIn K cd33 "_law_names" = true) (k33 : PySem.W.keepIn K (.ref f33) = true)
    {f34 : Addr} {od34 an34 : Option Addr} {sl34 : Array (Option Value)} {oc34 kV34 dc34 pm34 cd34 ct34 : Value} (a34 : PySem.W.nsIn K mainGlobals "_law_key" = some (some (.ref f34))) (l34 : K.lookup f34 = some ⟨oc34, od34, .func (PySem.W.fnOf "_law_key" "_law_key" (defArgs d__law_key.st) (defBody d__law_key.st) (defScope d__law_key.st) .none kV34 dc34 pm34 an34 cd34 ct34), sl34⟩) (c34 : PySem.W.codeIn K cd34 "_law_key" = true) (k34 : PySem.W.keepIn K (.ref f34) = true)
    {f35 : Addr} {od35 an35 : Option Addr} {sl35 : Array (Option Value)} {oc35 kV35 dc35 pm35 cd35 ct35 : Value} (a35 : PySem.W.nsIn K mainGlobals "_law_statements" = some (some (.ref f35))) (l35 : K.lookup f35 = some ⟨oc35, od35, .func (PySem.W.fnOf "_law_statements" "_law_statements" (defArgs d__law_statements.st) (defBody d__law_statements.st) (defScope d__law_statements.st) .none kV35 dc35 pm35 an35 cd35 ct35), sl35⟩) (c35 : PySem.W.codeIn K cd35 "_law_statements" = true) (k35 : PySem.W.keepIn K (.ref f35) = true)
    {f36 : Addr} {od36 an36 : Option Addr} {sl36 : Array (Option Value)} {oc36 kV36 dc36 pm36 cd36 ct36 : Value} (a36 : PySem.W.nsIn K mainGlobals "_law_moves" = some (some (.ref f36))) (l36 : K.lookup f36 = some ⟨oc36, od36, .func (PySem.W.fnOf "_law_moves" "_law_moves" (defArgs d__law_moves.st) (defBody d__law_moves.st) (defScope d__law_moves.st) .none kV36 dc36 pm36 an36 cd36 ct36), sl36⟩) (c36 : PySem.W.codeIn K cd36 "_law_moves" = true) (k36 : PySem.W.keepIn K (.ref f36) = true)
    {f37 : Addr} {od37 an37 : Option Addr} {sl37 : Array (Option Value)} {oc37 kV37 dc37 pm37 cd37 ct37 : Value} (a37 : PySem.W.nsIn K mainGlobals "_law_states" = some (some (.ref f37))) (l37 : K.lookup f37 = some ⟨oc37, od37, .func (PySem.W.fnOf "_law_states" "_law_states" (defArgs d__law_states.st) (defBody d__law_states.st) (defScope d__law_states.st) .none kV37 dc37 pm37 an37 cd37 ct37), sl37⟩) (c37 : PySem.W.codeIn K cd37 "_law_states" = true) (k37 : PySem.W.keepIn K (.ref f37) = true)
    {f38 : Addr} {od38 an38 : Option Addr} {sl38 : Array (Option Value)} {oc38 kV38 dc38 pm38 cd38 ct38 : Value} (a38 : PySem.W.nsIn K mainGlobals "_law_wild_head" = some (some (.ref f38))) (l38 : K.lookup f38 = some ⟨oc38, od38, .func (PySem.W.fnOf "_law_wild_head" "_law_wild_head" (defArgs d__law_wild_head.st) (defBody d__law_wild_head.st) (defScope d__law_wild_head.st) .none kV38 dc38 pm38 an38 cd38 ct38), sl38⟩) (c38 : PySem.W.codeIn K cd38 "_law_wild_head" = true) (k38 : PySem.W.keepIn K (.ref f38) = true)
    {f39 : Addr} {od39 an39 : Option Addr} {sl39 : Array (Option Value)} {oc39 kV39 dc39 pm39 cd39 ct39 : Value} (a39 : PySem.W.nsIn K mainGlobals "_law_wild_value" = some (some (.ref f39))) (l39 : K.lookup f39 = some ⟨oc39, od39, .func (PySem.W.fnOf "_law_wild_value" "_law_wild_value" (defArgs d__law_wild_value.st) (defBody d__law_wild_value.st) (defScope d__law_wild_value.st) .none kV39 dc39 pm39 an39 cd39 ct39), sl39⟩) (c39 : PySem.W.codeIn K cd39 "_law_wild_value" = true) (k39 : PySem.W.keepIn K (.ref f39) = true)
    {f40 : Addr} {od40 an40 : Option Addr} {sl40 : Array (Option Value)} {oc40 kV40 dc40 pm40 cd40 ct40 : Value} (a40 : PySem.W.nsIn K mainGlobals "_law_wild_call" = some (some (.ref f40))) (l40 : K.lookup f40 = some ⟨oc40, od40, .func (PySem.W.fnOf "_law_wild_call" "_law_wild_call" (defArgs d__law_wild_call.st) (defBody d__law_wild_call.st) (defScope d__law_wild_call.st) .none kV40 dc40 pm40 an40 cd40 ct40), sl40⟩) (c40 : PySem.W.codeIn K cd40 "_law_wild_call" = true) (k40 : PySem.W.keepIn K (.ref f40) = true)
    {f41 : Addr} {od41 an41 : Option Addr} {sl41 : Array (Option Value)} {oc41 kV41 dc41 pm41 cd41 ct41 : Value} (a41 : PySem.W.nsIn K mainGlobals "_law_wild_test" = some (some (.ref f41))) (l41 : K.lookup f41 = some ⟨oc41, od41, .func (PySem.W.fnOf "_law_wild_test" "_law_wild_test" (defArgs d__law_wild_test.st) (defBody d__law_wild_test.st) (defScope d__law_wild_test.st) .none kV41 dc41 pm41 an41 cd41 ct41), sl41⟩) (c41 : PySem.W.codeIn K cd41 "_law_wild_test" = true) (k41 : PySem.W.keepIn K (.ref f41) = true)
    {f42 : Addr} {od42 an42 : Option Addr} {sl42 : Array (Option Value)} {oc42 kV42 dc42 pm42 cd42 ct42 : Value} (a42 : PySem.W.nsIn K mainGlobals "_law_wild_statement" = some (some (.ref f42))) (l42 : K.lookup f42 = some ⟨oc42, od42, .func (PySem.W.fnOf "_law_wild_statement" "_law_wild_statement" (defArgs d__law_wild_statement.st) (defBody d__law_wild_statement.st) (defScope d__law_wild_statement.st) .none kV42 dc42 pm42 an42 cd42 ct42), sl42⟩) (c42 : PySem.W.codeIn K cd42 "_law_wild_statement" = true) (k42 : PySem.W.keepIn K (.ref f42) = true)
    {f43 : Addr} {od43 an43 : Option Addr} {sl43 : Array (Option Value)} {oc43 kV43 dc43 pm43 cd43 ct43 : Value} (a43 : PySem.W.nsIn K mainGlobals "_law_wild_block" = some (some (.ref f43))) (l43 : K.lookup f43 = some ⟨oc43, od43, .func (PySem.W.fnOf "_law_wild_block" "_law_wild_block" (defArgs d__law_wild_block.st) (defBody d__law_wild_block.st) (defScope d__law_wild_block.st) .none kV43 dc43 pm43 an43 cd43 ct43), sl43⟩) (c43 : PySem.W.codeIn K cd43 "_law_wild_block" = true) (k43 : PySem.W.keepIn K (.ref f43) = true)
    {f44 : Addr} {od44 an44 : Option Addr} {sl44 : Array (Option Value)} {oc44 kV44 dc44 pm44 cd44 ct44 : Value} (a44 : PySem.W.nsIn K mainGlobals "_law_wild_core" = some (some (.ref f44))) (l44 : K.lookup f44 = some ⟨oc44, od44, .func (PySem.W.fnOf "_law_wild_core" "_law_wild_core" (defArgs d__law_wild_core.st) (defBody d__law_wild_core.st) (defScope d__law_wild_core.st) .none kV44 dc44 pm44 an44 cd44 ct44), sl44⟩) (c44 : PySem.W.codeIn K cd44 "_law_wild_core" = true) (k44 : PySem.W.keepIn K (.ref f44) = true)
    {f45 : Addr} {od45 an45 : Option Addr} {sl45 : Array (Option Value)} {oc45 kV45 dc45 pm45 cd45 ct45 : Value} (a45 : PySem.W.nsIn K mainGlobals "_law_plainly" = some (some (.ref f45))) (l45 : K.lookup f45 = some ⟨oc45, od45, .func (PySem.W.fnOf "_law_plainly" "_law_plainly" (defArgs d__law_plainly.st) (defBody d__law_plainly.st) (defScope d__law_plainly.st) .none kV45 dc45 pm45 an45 cd45 ct45), sl45⟩) (c45 : PySem.W.codeIn K cd45 "_law_plainly" = true) (k45 : PySem.W.keepIn K (.ref f45) = true)
    {f46 : Addr} {od46 an46 : Option Addr} {sl46 : Array (Option Value)} {oc46 kV46 dc46 pm46 cd46 ct46 : Value} (a46 : PySem.W.nsIn K mainGlobals "_law_comparisons" = some (some (.ref f46))) (l46 : K.lookup f46 = some ⟨oc46, od46, .func (PySem.W.fnOf "_law_comparisons" "_law_comparisons" (defArgs d__law_comparisons.st) (defBody d__law_comparisons.st) (defScope d__law_comparisons.st) .none kV46 dc46 pm46 an46 cd46 ct46), sl46⟩) (c46 : PySem.W.codeIn K cd46 "_law_comparisons" = true) (k46 : PySem.W.keepIn K (.ref f46) = true)
    {f47 : Addr} {od47 an47 : Option Addr} {sl47 : Array (Option Value)} {oc47 kV47 dc47 pm47 cd47 ct47 : Value} (a47 : PySem.W.nsIn K mainGlobals "_law_both_ways" = some (some (.ref f47))) (l47 : K.lookup f47 = some ⟨oc47, od47, .func (PySem.W.fnOf "_law_both_ways" "_law_both_ways" (defArgs d__law_both_ways.st) (defBody d__law_both_ways.st) (defScope d__law_both_ways.st) .none kV47 dc47 pm47 an47 cd47 ct47), sl47⟩) (c47 : PySem.W.codeIn K cd47 "_law_both_ways" = true) (k47 : PySem.W.keepIn K (.ref f47) = true)
    {f48 : Addr} {od48 an48 : Option Addr} {sl48 : Array (Option Value)} {oc48 kV48 dc48 pm48 cd48 ct48 : Value} (a48 : PySem.W.nsIn K mainGlobals "_law_due" = some (some (.ref f48))) (l48 : K.lookup f48 = some ⟨oc48, od48, .func (PySem.W.fnOf "_law_due" "_law_due" (defArgs d__law_due.st) (defBody d__law_due.st) (defScope d__law_due.st) .none kV48 dc48 pm48 an48 cd48 ct48), sl48⟩) (c48 : PySem.W.codeIn K cd48 "_law_due" = true) (k48 : PySem.W.keepIn K (.ref f48) = true)
    {f49 : Addr} {od49 an49 : Option Addr} {sl49 : Array (Option Value)} {oc49 kV49 dc49 pm49 cd49 ct49 : Value} (a49 : PySem.W.nsIn K mainGlobals "_law_steady" = some (some (.ref f49))) (l49 : K.lookup f49 = some ⟨oc49, od49, .func (PySem.W.fnOf "_law_steady" "_law_steady" (defArgs d__law_steady.st) (defBody d__law_steady.st) (defScope d__law_steady.st) .none kV49 dc49 pm49 an49 cd49 ct49), sl49⟩) (c49 : PySem.W.codeIn K cd49 "_law_steady" = true) (k49 : PySem.W.keepIn K (.ref f49) = true)
    {f50 : Addr} {od50 an50 : Option Addr} {sl50 : Array (Option Value)} {oc50 kV50 dc50 pm50 cd50 ct50 : Value} (a50 : PySem.W.nsIn K mainGlobals "_law_hinted" = some (some (.ref f50))) (l50 : K.lookup f50 = some ⟨oc50, od50, .func (PySem.W.fnOf "_law_hinted" "_law_hinted" (defArgs d__law_hinted.st) (defBody d__law_hinted.st) (defScope d__law_hinted.st) .none kV50 dc50 pm50 an50 cd50 ct50), sl50⟩) (c50 : PySem.W.codeIn K cd50 "_law_hinted" = true) (k50 : PySem.W.keepIn K (.ref f50) = true)
    {f51 : Addr} {od51 an51 : Option Addr} {sl51 : Array (Option Value)} {oc51 kV51 dc51 pm51 cd51 ct51 : Value} (a51 : PySem.W.nsIn K mainGlobals "law" = some (some (.ref f51))) (l51 : K.lookup f51 = some ⟨oc51, od51, .func (PySem.W.fnOf "law" "law" (defArgs d_law.st) (defBody d_law.st) (defScope d_law.st) .none kV51 dc51 pm51 an51 cd51 ct51), sl51⟩) (c51 : PySem.W.codeIn K cd51 "law" = true) (k51 : PySem.W.keepIn K (.ref f51) = true)
    {z0 : Addr} (n0 : PySem.W.nsIn K mainGlobals "ZERO" = some (some (.ref z0)))
    {t0_0_0 : Tok}
    {w0_0_1 : Addr}
    {o0_0 : Option Addr} {m0_0 : Nat} {s0_0 : Array (Option Value)} (v0_0 : K.lookup z0 = some ⟨.type "tuple", o0_0, .seq #[.int (0) t0_0_0, .ref w0_0_1] m0_0, s0_0⟩)
    {o0_1 : Option Addr} {m0_1 : Nat} {s0_1 : Array (Option Value)} (v0_1 : K.lookup w0_0_1 = some ⟨.type "tuple", o0_1, .seq #[] m0_1, s0_1⟩)
    {z1 : Addr} (n1 : PySem.W.nsIn K mainGlobals "MINUS_ONE" = some (some (.ref z1)))
    {t1_0_0 : Tok}
    {w1_0_1 : Addr}
    {o1_0 : Option Addr} {m1_0 : Nat} {s1_0 : Array (Option Value)} (v1_0 : K.lookup z1 = some ⟨.type "tuple", o1_0, .seq #[.int (-1) t1_0_0, .ref w1_0_1] m1_0, s1_0⟩)
    {o1_1 : Option Addr} {m1_1 : Nat} {s1_1 : Array (Option Value)} (v1_1 : K.lookup w1_0_1 = some ⟨.type "tuple", o1_1, .seq #[] m1_1, s1_1⟩)
    (b0 : PySem.W.nsIn K mainGlobals "abs" = some none)
    (b1 : PySem.W.nsIn K mainGlobals "all" = some none)
    (b2 : PySem.W.nsIn K mainGlobals "bool" = some none)
    (b3 : PySem.W.nsIn K mainGlobals "int" = some none)
    (b4 : PySem.W.nsIn K mainGlobals "isinstance" = some none)
    (b5 : PySem.W.nsIn K mainGlobals "len" = some none)
    (b6 : PySem.W.nsIn K mainGlobals "list" = some none)
    (b7 : PySem.W.nsIn K mainGlobals "range" = some none)
    (b8 : PySem.W.nsIn K mainGlobals "sorted" = some none)
    (b9 : PySem.W.nsIn K mainGlobals "str" = some none)
    (b10 : PySem.W.nsIn K mainGlobals "tuple" = some none)
    (b11 : PySem.W.nsIn K mainGlobals "zip" = some none) :
    ∃ fd : FuncData, (∀ (s : Shared) (u : Value), BindsTo s fd ⟨[u], []⟩ [("script", u)]) ∧ PgOk pg K mg ∧ Fun K "law" "law" d_law.st fa fd ∧ FnScope d_law.N d_law.ps (defScope d_law.st) := by
  have e := hfa.symm.trans (PySem.W.mg_of X G a51)
  cases e
  have hb : ∀ x ∈ bls, mg x = none := (List.forall_mem_cons.mpr ⟨PySem.W.mg_none_of X G b0, (List.forall_mem_cons.mpr ⟨PySem.W.mg_none_of X G b1, (List.forall_mem_cons.mpr ⟨PySem.W.mg_none_of X G b2, (List.forall_mem_cons.mpr ⟨PySem.W.mg_none_of X G b3, (List.forall_mem_cons.mpr ⟨PySem.W.mg_none_of X G b4, (List.forall_mem_cons.mpr ⟨PySem.W.mg_none_of X G b5, (List.forall_mem_cons.mpr ⟨PySem.W.mg_none_of X G b6, (List.forall_mem_cons.mpr ⟨PySem.W.mg_none_of X G b7, (List.forall_mem_cons.mpr ⟨PySem.W.mg_none_of X G b8, (List.forall_mem_cons.mpr ⟨PySem.W.mg_none_of X G b9, (List.forall_mem_cons.mpr ⟨PySem.W.mg_none_of X G b10, (List.forall_mem_cons.mpr ⟨PySem.W.mg_none_of X G b11, (by intro _ h; cases h)⟩)⟩)⟩)⟩)⟩)⟩)⟩)⟩)⟩)⟩)⟩)⟩)
  have hc : ∀ p ∈ csts, COk K mg p.1 p.2 := (List.forall_mem_cons.mpr ⟨cok_of (PySem.W.mg_of X G n0) (vok_tup v0_0 (Nat.le_of_ble_eq_true rfl) ⟨vok_int, ⟨(vok_tup v0_1 (Nat.le_of_ble_eq_true rfl) trivial), trivial⟩⟩), (List.forall_mem_cons.mpr ⟨cok_of (PySem.W.mg_of X G n1) (vok_tup v1_0 (Nat.le_of_ble_eq_true rfl) ⟨vok_int, ⟨(vok_tup v1_1 (Nat.le_of_ble_eq_true rfl) trivial), trivial⟩⟩), (by intro _ h; cases h)⟩)⟩)
  have hd : ∀ p ∈ tbl, DOk K mg p.1 p.2 := (List.forall_mem_cons.mpr ⟨k_form (PySem.W.mg_of X G a0) l0 c0 k0, (List.forall_mem_cons.mpr ⟨k_variable (PySem.W.mg_of X G a1) l1 c1 k1, (List.forall_mem_cons.mpr ⟨k_plus (PySem.W.mg_of X G a2) l2 c2 k2, (List.forall_mem_cons.mpr ⟨k_times (PySem.W.mg_of X G a3) l3 c3 k3, (List.forall_mem_cons.mpr ⟨k_minus (PySem.W.mg_of X G a4) l4 c4 k4, (List.forall_mem_cons.mpr ⟨k_statements_in (PySem.W.mg_of X G a5) l5 c5 k5, (List.forall_mem_cons.mpr ⟨k_proc_named (PySem.W.mg_of X G a6) l6 c6 k6, (List.forall_mem_cons.mpr ⟨k_assigned_in (PySem.W.mg_of X G a7) l7 c7 k7, (List.forall_mem_cons.mpr ⟨k_passed_on (PySem.W.mg_of X G a8) l8 c8 k8, (List.forall_mem_cons.mpr ⟨k_moving_table (PySem.W.mg_of X G a9) l9 c9 k9, (List.forall_mem_cons.mpr ⟨k_variable_of (PySem.W.mg_of X G a10) l10 c10 k10, (List.forall_mem_cons.mpr ⟨k_moving_items (PySem.W.mg_of X G a11) l11 c11 k11, (List.forall_mem_cons.mpr ⟨k_states_of_proc (PySem.W.mg_of X G a12) l12 c12 k12, (List.forall_mem_cons.mpr ⟨k_states_of (PySem.W.mg_of X G a13) l13 c13 k13, (List.forall_mem_cons.mpr ⟨k_without_doubles (PySem.W.mg_of X G a14) l14 c14 k14, (List.forall_mem_cons.mpr ⟨k_comparisons_of (PySem.W.mg_of X G a15) l15 c15 k15, (List.forall_mem_cons.mpr ⟨k_plain_form (PySem.W.mg_of X G a16) l16 c16 k16, (List.forall_mem_cons.mpr ⟨k_comparison_forms (PySem.W.mg_of X G a17) l17 c17 k17, (List.forall_mem_cons.mpr ⟨k_is_steady (PySem.W.mg_of X G a18) l18 c18 k18, (List.forall_mem_cons.mpr ⟨k_set_forms (PySem.W.mg_of X G a19) l19 c19 k19, (List.forall_mem_cons.mpr ⟨k_differences (PySem.W.mg_of X G a20) l20 c20 k20, (List.forall_mem_cons.mpr ⟨k_point_candidates (PySem.W.mg_of X G a21) l21 c21 k21, (List.forall_mem_cons.mpr ⟨k_differences_of (PySem.W.mg_of X G a22) l22 c22 k22, (List.forall_mem_cons.mpr ⟨k__law_start (PySem.W.mg_of X G a23) l23 c23 k23, (List.forall_mem_cons.mpr ⟨k__law_draw (PySem.W.mg_of X G a24) l24 c24 k24, (List.forall_mem_cons.mpr ⟨k__law_one_of (PySem.W.mg_of X G a25) l25 c25 k25, (List.forall_mem_cons.mpr ⟨k__law_shuffled (PySem.W.mg_of X G a26) l26 c26 k26, (List.forall_mem_cons.mpr ⟨k__law_words (PySem.W.mg_of X G a27) l27 c27 k27, (List.forall_mem_cons.mpr ⟨k__law_is_int (PySem.W.mg_of X G a28) l28 c28 k28, (List.forall_mem_cons.mpr ⟨k__law_same (PySem.W.mg_of X G a29) l29 c29 k29, (List.forall_mem_cons.mpr ⟨k__law_form (PySem.W.mg_of X G a30) l30 c30 k30, (List.forall_mem_cons.mpr ⟨k__law_sum (PySem.W.mg_of X G a31) l31 c31 k31, (List.forall_mem_cons.mpr ⟨k__law_var (PySem.W.mg_of X G a32) l32 c32 k32, (List.forall_mem_cons.mpr ⟨k__law_names (PySem.W.mg_of X G a33) l33 c33 k33, (List.forall_mem_cons.mpr ⟨k__law_key (PySem.W.mg_of X G a34) l34 c34 k34, (List.forall_mem_cons.mpr ⟨k__law_statements (PySem.W.mg_of X G a35) l35 c35 k35, (List.forall_mem_cons.mpr ⟨k__law_moves (PySem.W.mg_of X G a36) l36 c36 k36, (List.forall_mem_cons.mpr ⟨k__law_states (PySem.W.mg_of X G a37) l37 c37 k37, (List.forall_mem_cons.mpr ⟨k__law_wild_head (PySem.W.mg_of X G a38) l38 c38 k38, (List.forall_mem_cons.mpr ⟨k__law_wild_value (PySem.W.mg_of X G a39) l39 c39 k39, (List.forall_mem_cons.mpr ⟨k__law_wild_call (PySem.W.mg_of X G a40) l40 c40 k40, (List.forall_mem_cons.mpr ⟨k__law_wild_test (PySem.W.mg_of X G a41) l41 c41 k41, (List.forall_mem_cons.mpr ⟨k__law_wild_statement (PySem.W.mg_of X G a42) l42 c42 k42, (List.forall_mem_cons.mpr ⟨k__law_wild_block (PySem.W.mg_of X G a43) l43 c43 k43, (List.forall_mem_cons.mpr ⟨k__law_wild_core (PySem.W.mg_of X G a44) l44 c44 k44, (List.forall_mem_cons.mpr ⟨k__law_plainly (PySem.W.mg_of X G a45) l45 c45 k45, (List.forall_mem_cons.mpr ⟨k__law_comparisons (PySem.W.mg_of X G a46) l46 c46 k46, (List.forall_mem_cons.mpr ⟨k__law_both_ways (PySem.W.mg_of X G a47) l47 c47 k47, (List.forall_mem_cons.mpr ⟨k__law_due (PySem.W.mg_of X G a48) l48 c48 k48, (List.forall_mem_cons.mpr ⟨k__law_steady (PySem.W.mg_of X G a49) l49 c49 k49, (List.forall_mem_cons.mpr ⟨k__law_hinted (PySem.W.mg_of X G a50) l50 c50 k50, (List.forall_mem_cons.mpr ⟨k_law (PySem.W.mg_of X G a51) l51 c51 k51, (by intro _ h; cases h)⟩)⟩)⟩)⟩)⟩)⟩)⟩)⟩)⟩)⟩)⟩)⟩)⟩)⟩)⟩)⟩)⟩)⟩)⟩)⟩)⟩)⟩)⟩)⟩)⟩)⟩)⟩)⟩)⟩)⟩)⟩)⟩)⟩)⟩)⟩)⟩)⟩)⟩)⟩)⟩)⟩)⟩)⟩)⟩)⟩)⟩)⟩)⟩)⟩)⟩)⟩)⟩)
  exact ⟨PySem.W.fnOf "law" "law" (defArgs d_law.st) (defBody d_law.st) (defScope d_law.st) .none kV51 dc51 pm51 an51 cd51 ct51, fun s v => .of_eq rfl, pg_mk hb hc hd, fun_mk l51 c51 k51, s_law⟩
end K69

set_option Elab.async false
set_option linter.all false
set_option maxRecDepth 100000
set_option maxHeartbeats 4000000
namespace K69
open PySem L2 Y
theorem hlp : Hlp pg := ⟨fun k a s => c__law_start, fun k a b s => c__law_draw, fun k a s => c__law_is_int, fun k a b s => c__law_same⟩
theorem oneOf : OneOf pg := fun k a b s => c__law_one_of
theorem shuf : Shuf pg := fun k a b s => c__law_shuffled
theorem fl : FormLib pg := ⟨c_form, c_plus, c_times, c_minus⟩
theorem lf : LForm pg := c__law_form
inductive Ex where
  | num (n : Int)
  | nm (x : Str)
  | len (a : Str)
  | item (a : Str) (e : Ex)
  | quo (r : Bool) (e : Ex) (n : Int)
  | scl (k : Int) (e : Ex)
  | bin (p : Bool) (e f : Ex)
def Ex.d : Ex → D
  | .num n => .tup [.str "number", .int n]
  | .nm x => .tup [.str "name", .str x]
  | .len a => .tup [.str "length", .str a]
  | .item a e => .tup [.str "item", .str a, e.d]
  | .quo r e n => .tup [.str (if r = true then "remainder" else "quotient"), e.d, .int n]
  | .scl k e => .tup [.str "scale", .int k, e.d]
  | .bin p e f => .tup [.str (if p = true then "plus" else "minus"), e.d, f.d]
inductive Cd where
  | cmp (q : Bool) (e f : Ex)
  | nt (c : Cd)
  | bo (o : Bool) (c d : Cd)
def Cd.d : Cd → D
  | .cmp q e f => .tup [.str (if q = true then "same" else "less"), e.d, f.d]
  | .nt c => .tup [.str "not", c.d]
  | .bo o c e => .tup [.str (if o = true then "or" else "and"), c.d, e.d]
inductive Ag where
  | arr (x : Str)
  | val (e : Ex)
def Ag.d : Ag → D
  | .arr x => .tup [.str "array", .str x]
  | .val e => e.d
inductive Sm where
  | push (e : Ex) (a : Str)
  | store (a : Str) (e f : Ex)
  | pop (x a : Str)
  | pause
  | call (p : Str) (as : List Ag) (ts : List Str)
  | whl (c : Cd) (b : List Sm)
  | ite (c : Cd) (b1 b2 : List Sm)
  | set (l : List (Str × Ex))
  | give (es : List Ex)
def setD (l : List (Str × Ex)) : List D := l.map fun p => .tup [.str p.1, p.2.d]
mutual
def Sm.d : Sm → D
  | .push e a => .tup [.str "push", e.d, .str a]
  | .store a e f => .tup [.str "store", .str a, e.d, f.d]
  | .pop x a => .tup [.str "pop", .str x, .str a]
  | .pause => .tup [.str "pause"]
  | .call p as ts => .tup [.str "call", .str p, .tup (as.map Ag.d), .tup (ts.map D.str)]
  | .whl c b => .tup [.str "while", c.d, .tup (Sm.dl b)]
  | .ite c b1 b2 => .tup [.str "if", c.d, .tup (Sm.dl b1), .tup (Sm.dl b2)]
  | .set l => .tup [.str "set", .tup (setD l)]
  | .give es => .tup [.str "give", .tup (es.map Ex.d)]
def Sm.dl : List Sm → List D
  | [] => []
  | s :: r => s.d :: Sm.dl r
end
theorem dl_map : ∀ b : List Sm, Sm.dl b = b.map Sm.d
  | [] => by simp [Sm.dl]
  | s :: r => by simp [Sm.dl, dl_map r]
mutual
/-- all statements, outer ones first -/
def Sm.all : Sm → List Sm
  | .whl c b => .whl c b :: Sm.allL b
  | .ite c b1 b2 => .ite c b1 b2 :: (Sm.allL b1 ++ Sm.allL b2)
  | s => [s]
def Sm.allL : List Sm → List Sm
  | [] => []
  | s :: r => s.all ++ Sm.allL r
end
theorem allL_append {a b : List Sm} : Sm.allL (a ++ b) = Sm.allL a ++ Sm.allL b := by
  induction a with
  | nil => simp [Sm.allL]
  | cons s r ih => simp [Sm.allL, ih]
mutual
def Sm.dep : Sm → Nat
  | .whl _ b => Sm.depL b + 1
  | .ite _ b1 b2 => max (Sm.depL b1) (Sm.depL b2) + 1
  | _ => 0
def Sm.depL : List Sm → Nat
  | [] => 0
  | s :: r => max s.dep (Sm.depL r)
end
theorem dep_mem : ∀ {b : List Sm} {s : Sm}, s ∈ b → s.dep ≤ Sm.depL b
  | s' :: r, s, h => by
    simp only [Sm.depL]
    rcases List.mem_cons.mp h with rfl | h
    · omega
    · have := dep_mem h; omega
theorem sz {n : Nat} (h : n < 100000) : n < sizeLine := by rw [szEq]; omega
theorem sz' {n : Nat} (h : n < 100000) : n ≤ sizeLine := Nat.le_of_lt (sz h)
theorem all_len : ∀ s : Sm, 1 ≤ s.all.length := fun s => by cases s <;> simp [Sm.all]
theorem allL_take {b : List Sm} {n : Nat} {s : Sm} (h : b[n]? = some s) : Sm.allL (b.take (n + 1)) = Sm.allL (b.take n) ++ s.all := by
  rw [List.take_add_one, h, allL_append]
  simp [Sm.allL]
theorem allL_len_take {b : List Sm} {n : Nat} : (Sm.allL (b.take n)).length ≤ (Sm.allL b).length := by
  have : Sm.allL b = Sm.allL (b.take n) ++ Sm.allL (b.drop n) := by rw [← allL_append, List.take_append_drop]
  rw [this, List.length_append]; omega
theorem len_allL : ∀ b : List Sm, b.length ≤ (Sm.allL b).length
  | [] => by simp
  | s :: r => by
    have := len_allL r
    have := all_len s
    simp only [Sm.allL, List.length_append, List.length_cons]
    omega
theorem stmts_ok : ∀ (n k : Nat) (b : List Sm) (s : Sto), Sm.depL b < n → (Sm.allL b).length < 10000 → (callP pg (n + k) "statements_in" [.tup (b.map Sm.d)] s).to (FL s ((Sm.allL b).map Sm.d)) NoX := by
  intro n
  induction n with
  | zero => intro k b s hd; omega
  | succ n ih =>
    intro k b s hd hl
    rw [show n + 1 + k = (n + k) + 1 by omega, c_statements_in]
    apply gc_to
    have z0 : 0 ≤ sizeLine := Nat.zero_le _
    have z2 : 2 ≤ sizeLine := sz' (by decide)
    have lb := len_allL b
    unfold m_statements_in
    simp [z0]
    refine forFix (fun i E s1 => ∃ (o1 o2 : Option D) (t : Sto), E = [some (.tup (b.map Sm.d)), some (.loc s.length), o1, o2] ∧ s1 = s ++ .lst ((Sm.allL (b.take i)).map Sm.d) :: t) ?_ ?_ ?_
    · exact ⟨none, none, [], rfl, by simp [Sm.allL]⟩
    · rintro i d E s1 hd2 ⟨o1, o2, t, rfl, rfl⟩
      obtain ⟨st, hst, rfl⟩ : ∃ st, b[i]? = some st ∧ d = st.d := by
        rw [List.getElem?_map] at hd2
        cases e : b[i]? with
        | none => rw [e] at hd2; cases hd2
        | some x => rw [e] at hd2; cases hd2; exact ⟨x, rfl, rfl⟩
      have hlt := allL_len_take (b := b) (n := i)
      have hlt2 := allL_len_take (b := b) (n := i + 1)
      rw [allL_take hst] at hlt2 ⊢
      have hds := dep_mem (List.mem_of_getElem? hst)
      generalize Sm.allL (b.take i) = A at hlt hlt2 ⊢
      rw [List.length_append] at hlt2
      simp [meth_append (xs := A.map Sm.d), mAppend_ap (xs := A.map Sm.d), sz (show A.length < 100000 by omega)]
      cases st with
      | pause => simp [Sm.d, z2, pIn_tup2, ofString_inj, Sm.all]
      | push e a => simp [Sm.d, z2, pIn_tup2, ofString_inj, Sm.all]
      | store a e f => simp [Sm.d, z2, pIn_tup2, ofString_inj, Sm.all]
      | pop x a => simp [Sm.d, z2, pIn_tup2, ofString_inj, Sm.all]
      | call p as ts => simp [Sm.d, z2, pIn_tup2, ofString_inj, Sm.all]
      | set l => simp [Sm.d, z2, pIn_tup2, ofString_inj, Sm.all]
      | give es => simp [Sm.d, z2, pIn_tup2, ofString_inj, Sm.all]
      | whl c bb =>
        simp only [Sm.all, List.length_cons] at hlt2
        simp only [Sm.dep] at hds
        simp [Sm.d, z2, pIn_tup2, ofString_inj, Sm.all, dl_map, for_cons, for_nil, meth_extend (xs := A.map Sm.d ++ [.tup [.str "while", c.d, .tup (bb.map Sm.d)]])]
        refine Res.to_imp (ih k bb _ (by omega) (by omega)) fun d s' h => ?_
        obtain ⟨t', e⟩ := mExt_FL h (sz' (by simp; omega))
        simp [e]
      | ite c b1 b2 =>
        simp only [Sm.all, List.length_cons, List.length_append] at hlt2
        simp only [Sm.dep] at hds
        simp [Sm.d, z2, pIn_tup2, ofString_inj, Sm.all, dl_map, for_cons, for_nil, meth_extend (xs := A.map Sm.d ++ [.tup [.str "if", c.d, .tup (b1.map Sm.d), .tup (b2.map Sm.d)]])]
        refine Res.to_imp (ih k b1 _ (by omega) (by omega)) fun d s' h => ?_
        obtain ⟨t', e⟩ := mExt_FL h (sz' (by simp; omega))
        simp [e, meth_extend (xs := A.map Sm.d ++ [.tup [.str "if", c.d, .tup (b1.map Sm.d), .tup (b2.map Sm.d)]] ++ (Sm.allL b1).map Sm.d)]
        refine Res.to_imp (ih k b2 _ (by omega) (by omega)) fun d s' h => ?_
        obtain ⟨t', e⟩ := mExt_FL h (sz' (by simp; omega))
        simp [e]
    · rintro E s1 ⟨o1, o2, t, rfl, rfl⟩
      simp
      refine FL.gc ⟨_, s.length, rfl, rfl, Nat.le_refl _, ?_⟩
      simp
theorem lstmts_ok : ∀ (n k : Nat) (b : List Sm) (s : Sto), Sm.depL b < n → (Sm.allL b).length < 10000 → (callP pg (n + k) "_law_statements" [.tup (b.map Sm.d)] s).to (FL s ((Sm.allL b).map Sm.d)) NoX := by
  intro n
  induction n with
  | zero => intro k b s hd; omega
  | succ n ih =>
    intro k b s hd hl
    rw [show n + 1 + k = (n + k) + 1 by omega, c__law_statements]
    apply gc_to
    have z0 : 0 ≤ sizeLine := Nat.zero_le _
    unfold m__law_statements
    simp [z0]
    refine forFix (fun i E s1 => ∃ (o2 : Option D) (l : Nat) (t : Sto), E = [some (.tup (b.map Sm.d)), some (.loc l), o2] ∧ s1 = s ++ t ∧ s.length ≤ l ∧ s1[l]? = some (.lst ((Sm.allL (b.take i)).map Sm.d))) ?_ ?_ ?_
    · exact ⟨none, s.length, [.lst []], rfl, rfl, Nat.le_refl _, by simp [Sm.allL]⟩
    · rintro i d E s1 hd2 ⟨o2, l, t, rfl, e1, hll, hg⟩
      obtain ⟨st, hst, rfl⟩ : ∃ st, b[i]? = some st ∧ d = st.d := by
        rw [List.getElem?_map] at hd2
        cases e : b[i]? with
        | none => rw [e] at hd2; cases hd2
        | some x => rw [e] at hd2; cases hd2; exact ⟨x, rfl, rfl⟩
      have hlt := allL_len_take (b := b) (n := i)
      have hlt2 := allL_len_take (b := b) (n := i + 1)
      rw [allL_take hst] at hlt2 ⊢
      have hds := dep_mem (List.mem_of_getElem? hst)
      generalize Sm.allL (b.take i) = A at hlt hlt2 hg ⊢
      rw [List.length_append] at hlt2
      have l1 := (List.getElem?_eq_some_iff.mp hg).1
      simp [meth_append hg, mAppend_ap hg, sz (show A.length < 100000 by omega)]
      have hg2 : (s1.set l (.lst (A.map Sm.d ++ [st.d])))[l]? = some (.lst (A.map Sm.d ++ [st.d])) := List.getElem?_set_self l1
      have e2 : ∃ t2, s1.set l (.lst (A.map Sm.d ++ [st.d])) = s ++ t2 := by
        subst e1
        refine ⟨t.set (l - s.length) (.lst (A.map Sm.d ++ [st.d])), ?_⟩
        rw [List.set_append_right _ _ hll]
      generalize s1.set l (.lst (A.map Sm.d ++ [st.d])) = s2 at hg2 e2 ⊢
      obtain ⟨t2, rfl⟩ := e2
      cases st with
      | whl c bb =>
        simp only [Sm.all, List.length_cons] at hlt2
        simp only [Sm.dep] at hds
        simp [Sm.d, ofString_inj, Sm.all, dl_map]
        refine Res.to_imp (ih k bb _ (by omega) (by omega)) fun d s' h => ?_
        obtain ⟨t', e, rfl⟩ := pAdd_FL hg2 h (sz' (by simp; omega))
        rw [List.append_assoc] at e
        simp [e]
        exact ⟨_, _, ⟨rfl, rfl⟩, by omega, by simp [Sm.d, dl_map]⟩
      | ite c b1 b2 =>
        simp only [Sm.all, List.length_cons, List.length_append] at hlt2
        simp only [Sm.dep] at hds
        simp [Sm.d, ofString_inj, Sm.all, dl_map]
        refine Res.to_imp (ih k b1 _ (by omega) (by omega)) fun d s' h => ?_
        obtain ⟨t', e, rfl⟩ := pAdd_FL hg2 h (sz' (by simp; omega))
        have hg3 : (s ++ t2 ++ t' ++ [O.lst (A.map Sm.d ++ [(Sm.ite c b1 b2).d] ++ (Sm.allL b1).map Sm.d)])[(s ++ t2 ++ t').length]? = some (.lst (A.map Sm.d ++ [(Sm.ite c b1 b2).d] ++ (Sm.allL b1).map Sm.d)) := by rw [get_len]; rfl
        rw [List.append_assoc] at e
        simp [e]
        refine Res.to_imp (ih k b2 _ (by omega) (by omega)) fun d s' h => ?_
        simp only [List.append_assoc] at hg3
        obtain ⟨t3, e3, rfl⟩ := pAdd_FL hg3 h (sz' (by simp; omega))
        simp at e3
        simp [e3]
        exact ⟨_, _, ⟨rfl, rfl⟩, by omega, by simp [Sm.d, dl_map]⟩
      | pause => simp [Sm.d, ofString_inj, Sm.all]; exact ⟨_, l, ⟨rfl, rfl⟩, hll, by simpa [Sm.d] using hg2⟩
      | push e a => simp [Sm.d, ofString_inj, Sm.all]; exact ⟨_, l, ⟨rfl, rfl⟩, hll, by simpa [Sm.d] using hg2⟩
      | store a e f => simp [Sm.d, ofString_inj, Sm.all]; exact ⟨_, l, ⟨rfl, rfl⟩, hll, by simpa [Sm.d] using hg2⟩
      | pop x a => simp [Sm.d, ofString_inj, Sm.all]; exact ⟨_, l, ⟨rfl, rfl⟩, hll, by simpa [Sm.d] using hg2⟩
      | call p as ts => simp [Sm.d, ofString_inj, Sm.all]; exact ⟨_, l, ⟨rfl, rfl⟩, hll, by simpa [Sm.d] using hg2⟩
      | set q => simp [Sm.d, ofString_inj, Sm.all]; exact ⟨_, l, ⟨rfl, rfl⟩, hll, by simpa [Sm.d] using hg2⟩
      | give es => simp [Sm.d, ofString_inj, Sm.all]; exact ⟨_, l, ⟨rfl, rfl⟩, hll, by simpa [Sm.d] using hg2⟩
    · rintro E s1 ⟨o2, l, t, rfl, rfl, hll, hg⟩
      simp
      rw [List.length_map, List.take_length] at hg
      exact FL.gc ⟨t, l, rfl, rfl, hll, hg⟩
end K69

set_option Elab.async false
set_option linter.all false
set_option maxRecDepth 100000
set_option maxHeartbeats 4000000
namespace K69
open PySem L2 Y
theorem ls : LSum pg := c__law_sum
def varF (x : Str) : Fm := (0, [(x, 1)])
theorem canon1 (x : Str) (n : Int) (hn : n ≠ 0) : formL [(x, n)] = [(x, n)] := by
  refine canon_uniq (formL_canon _) ⟨by simp, fun y m => ?_⟩
  simp only [List.mem_singleton, Prod.mk.injEq, co_cons, co_nil, Int.add_zero]
  constructor
  · rintro ⟨rfl, rfl⟩; exact ⟨by simp, hn⟩
  · rintro ⟨h1, h2⟩
    by_cases e : x = y
    · subst e; simp at h1; exact ⟨rfl, h1⟩
    · simp [e] at h1; exact absurd h1 h2
theorem varF_g {NM : List Str} {x : Str} (h : x ∈ NM) : GF NM 6 (varF x) :=
  ⟨canon1 x 1 (by decide), (by decide : (0 : Int).natAbs ≤ 6), fun p hp => by rw [List.mem_singleton.mp hp]; exact h, fun p hp => by rw [List.mem_singleton.mp hp]; exact (by decide : (1 : Int).natAbs ≤ 6)⟩
def nameF (st : List Str) (x : Str) : Fm := varF (if x ∈ st then x else ("@" : Str) ++ x)
def plainF (st : List Str) : Ex → Option Fm
  | .num n => some (n, [])
  | .nm x => some (nameF st x)
  | .len a => some (nameF st (("#" : Str) ++ a))
  | .scl k e => (plainF st e).map fun f => lsum [(k, f)]
  | .bin p e f => match plainF st e, plainF st f with
    | some a, some b => some (lsum [(1, a), (if p = true then 1 else -1, b)])
    | _, _ => none
  | _ => none
def Ex.ok (NM : List Str) : Ex → Prop
  | .num n => n.natAbs ≤ 6
  | .nm x => x.length ≤ 30 ∧ x ∈ NM ∧ ("@" : Str) ++ x ∈ NM
  | .len a => a.length ≤ 30 ∧ ("#" : Str) ++ a ∈ NM ∧ ("@" : Str) ++ (("#" : Str) ++ a) ∈ NM
  | .item _ e => e.ok NM
  | .quo _ e _ => e.ok NM
  | .scl k e => (k ≠ 0 ∧ k.natAbs ≤ 2) ∧ e.ok NM
  | .bin _ e f => e.ok NM ∧ f.ok NM
def Ex.dep : Ex → Nat
  | .item _ e => e.dep + 1
  | .quo _ e _ => e.dep + 1
  | .scl _ e => e.dep + 1
  | .bin _ e f => max e.dep f.dep + 1
  | _ => 0
theorem plainF_g {NM st : List Str} : ∀ (e : Ex) {f : Fm}, e.ok NM → plainF st e = some f → GF NM (6 * 4 ^ e.dep) f
  | .num n, f, h, e => by
    cases e
    exact ⟨(by simp [formL, sumsP, srtS] : formL [] = []), (by simp only [Ex.dep]; exact h), fun p hp => (by cases hp), fun p hp => (by cases hp)⟩
  | .nm x, f, h, e => by
    cases e
    unfold nameF
    simp only [Ex.dep, Nat.pow_zero, Nat.mul_one]
    split
    · exact varF_g h.2.1
    · exact varF_g h.2.2
  | .len x, f, h, e => by
    cases e
    unfold nameF
    simp only [Ex.dep, Nat.pow_zero, Nat.mul_one]
    split
    · exact varF_g h.2.1
    · exact varF_g h.2.2
  | .scl k e, f, h, q => by
    unfold plainF at q
    cases z : plainF st e with
    | none => rw [z] at q; cases q
    | some g =>
      rw [z] at q; cases q
      have := lsum1 (plainF_g e h.2 z) h.1.2
      have e2 : 4 * (6 * 4 ^ e.dep) = 6 * 4 ^ (e.dep + 1) := by rw [Nat.pow_succ]; omega
      rw [e2] at this
      exact this
  | .bin p a b, f, h, q => by
    unfold plainF at q
    cases z : plainF st a with
    | none => rw [z] at q; cases q
    | some g =>
      cases z2 : plainF st b with
      | none => rw [z, z2] at q; cases q
      | some g2 =>
        rw [z, z2] at q; cases q
        have m1 : 4 ^ a.dep ≤ 4 ^ max a.dep b.dep := Nat.pow_le_pow_right (by decide) (Nat.le_max_left _ _)
        have m2 : 4 ^ b.dep ≤ 4 ^ max a.dep b.dep := Nat.pow_le_pow_right (by decide) (Nat.le_max_right _ _)
        have := lsum2 (b := if p = true then 1 else -1) ((plainF_g a h.1 z).mono (Nat.mul_le_mul_left 6 m1)) ((plainF_g b h.2 z2).mono (Nat.mul_le_mul_left 6 m2)) (a := 1) (by decide) (by split <;> decide)
        have e2 : 4 * (6 * 4 ^ max a.dep b.dep) = 6 * 4 ^ (max a.dep b.dep + 1) := by rw [Nat.pow_succ]; omega
        rw [e2] at this
        exact this
  | .item _ _, f, h, q => by cases q
  | .quo _ _ _, f, h, q => by cases q
def oD : Option Fm → D
  | some f => f.d
  | none => .non
theorem oD_cl {n : Nat} {o : Option Fm} : D.cl n (oD o) = true := by
  cases o with
  | none => rfl
  | some f => exact fD_cl
theorem pow_bd {d : Nat} (h : d ≤ 20) : 6 * 4 ^ d < 10 ^ 100 :=
  Nat.lt_of_le_of_lt (Nat.mul_le_mul_left 6 (Nat.pow_le_pow_right (by decide) h)) (by decide +kernel)
theorem var_ok {k : Nat} {x : Str} {s : Sto} : callP pg (k + 1) "variable" [.str x] s = .ok (varF x).d s := by
  rw [c_variable]
  refine gc_pure fD_cl ?_
  have z1 : 1 ≤ sizeLine := sz' (by decide)
  have z2 : 2 ≤ sizeLine := sz' (by decide)
  unfold m_variable
  simp [z1, z2, varF, Fm.d, fD, pD]
theorem lvar_ok {k : Nat} {x : Str} {s : Sto} : callP pg (k + 1) "_law_var" [.str x] s = .ok (varF x).d s := by
  rw [c__law_var]
  refine gc_pure fD_cl ?_
  have z1 : 1 ≤ sizeLine := sz' (by decide)
  have z2 : 2 ≤ sizeLine := sz' (by decide)
  unfold m__law_var
  simp [z1, z2, varF, Fm.d, fD, pD]
theorem pIs_f {f : Fm} {s : Sto} : pIs f.d .non s = some (.bl false, s) := rfl
theorem pIs_n {s : Sto} : pIs .non .non s = some (.bl true, s) := rfl
theorem l1 : (Str.ofString "@").length = 1 := by decide +kernel
theorem l2 : (Str.ofString "#").length = 1 := by decide +kernel
theorem lapp {x y : Str} : (x ++ y).length = x.length + y.length := by
  show (x.cps ++ y.cps).size = _
  rw [Array.size_append]; rfl
theorem plain_ok {NM st : List Str} (hM : NM.length < 60) : ∀ (n : Nat) (e : Ex) (k : Nat) (s : Sto), e.dep < n → n ≤ 20 → e.ok NM → callP pg (n + k + 3) "plain_form" [e.d, .tup (st.map D.str)] s = .ok (oD (plainF st e)) s := by
  intro n
  induction n with
  | zero => intro e k s h; omega
  | succ n ih =>
    intro e k s hd hn ho
    rw [show n + 1 + k + 3 = (n + k + 3) + 1 by omega, c_plain_form]
    refine gc_pure oD_cl ?_
    have z0 : 0 ≤ sizeLine := Nat.zero_le _
    have z2 : 2 ≤ sizeLine := sz' (by decide)
    unfold m_plain_form
    cases e with
    | num m => simp [Ex.d, ofString_inj, z0, z2, plainF, oD, Fm.d, fD]
    | nm x =>
      have hx : (Str.ofString "@").length + x.length ≤ sizeLine := sz' (by have := ho.1; rw [l1]; omega)
      simp [Ex.d, ofString_inj, plainF, oD, nameF, pIn_tupS, var_ok]
      exact ⟨fun h => by rw [if_pos h], fun h => ⟨hx, by rw [if_neg h]⟩⟩
    | len x =>
      have hx : (Str.ofString "#").length + x.length ≤ sizeLine := sz' (by have := ho.1; rw [l2]; omega)
      have hx2 : (Str.ofString "@").length + (Str.ofString "#" ++ x).length ≤ sizeLine := sz' (by have := ho.1; rw [l1, lapp, l2]; omega)
      simp [Ex.d, ofString_inj, plainF, oD, nameF, pIn_tupS, var_ok, hx]
      exact ⟨fun h => by rw [if_pos h], fun h => ⟨hx2, by rw [if_neg h]⟩⟩
    | item a e => simp [Ex.d, ofString_inj, plainF, oD]
    | quo r e m => cases r <;> simp [Ex.d, ofString_inj, plainF, oD]
    | scl c e =>
      simp only [Ex.dep] at hd
      have h1 := ih e k s (by omega) (by omega) ho.2
      have hg : ∀ f, plainF st e = some f → GF NM (6 * 4 ^ e.dep) f := fun f z => plainF_g e ho.2 z
      have hb := pow_bd (d := e.dep) (by omega)
      simp [Ex.d, ofString_inj, plainF, h1]
      cases z : plainF st e with
      | none => simp [oD, pIs_n]
      | some f =>
        simp [oD, pIs_f]
        rw [show n + k + 3 = (n + k + 2) + 1 by omega, times_l fl (hg f z) ho.1.2 ho.1.1 hb hM]
        simp
    | bin p a b =>
      simp only [Ex.dep] at hd
      have h1 := ih a k s (by omega) (by omega) ho.1
      have h2 := ih b k s (by omega) (by omega) ho.2
      have hb := pow_bd (d := max a.dep b.dep) (by omega)
      have m1 : 4 ^ a.dep ≤ 4 ^ max a.dep b.dep := Nat.pow_le_pow_right (by decide) (Nat.le_max_left _ _)
      have m2 : 4 ^ b.dep ≤ 4 ^ max a.dep b.dep := Nat.pow_le_pow_right (by decide) (Nat.le_max_right _ _)
      have g1 : ∀ f, plainF st a = some f → GF NM (6 * 4 ^ max a.dep b.dep) f := fun f z => (plainF_g a ho.1 z).mono (Nat.mul_le_mul_left 6 m1)
      have g2 : ∀ f, plainF st b = some f → GF NM (6 * 4 ^ max a.dep b.dep) f := fun f z => (plainF_g b ho.2 z).mono (Nat.mul_le_mul_left 6 m2)
      cases p
      all_goals
        simp [Ex.d, ofString_inj, plainF, h1, h2]
        cases z1 : plainF st a with
        | none =>
          cases z2 : plainF st b <;> simp [oD, pIs_n, pIs_f]
        | some f =>
          cases z2 : plainF st b with
          | none => simp [oD, pIs_n, pIs_f]
          | some g =>
            simp [oD, pIs_f]
            first
            | (rw [minus_l fl (g1 f z1) (g2 g z2) hb hM]; simp)
            | (rw [show n + k + 3 = (n + k + 1) + 2 by omega, plus_l fl (g1 f z1) (g2 g z2) hM]; simp)
@[simp] theorem pMul_str {x : Str} {j : Int} {s : Sto} : pMul (.str x) (.int j) s = if fitI j = true ∧ x.length * j.toNat ≤ sizeLine then some (.str (repS x j), s) else none := rfl
theorem rep0 {x : Str} : repS x 0 = Str.empty := by unfold repS; rw [if_pos (by decide)]
theorem rep1 {x : Str} : repS x 1 = x := by unfold repS; rw [if_neg (by decide), if_pos (by simp)]
theorem emp_app {x : Str} : Str.empty ++ x = x := by
  show (⟨#[] ++ x.cps⟩ : Str) = x
  simp
theorem plainly_ok {NM st : List Str} (hM : NM.length < 60) : ∀ (n : Nat) (e : Ex) (k l : Nat) (s : Sto), e.dep < n → n ≤ 20 → e.ok NM → s[l]? = some (.lst (st.map D.str)) → callP pg (n + k + 2) "_law_plainly" [e.d, .loc l] s = .ok (oD (plainF st e)) s := by
  intro n
  induction n with
  | zero => intro e k l s h; omega
  | succ n ih =>
    intro e k l s hd hn ho hs
    rw [show n + 1 + k + 2 = (n + k + 2) + 1 by omega, c__law_plainly]
    refine gc_pure oD_cl ?_
    have z0 : 0 ≤ sizeLine := Nat.zero_le _
    have z1 : 1 ≤ sizeLine := sz' (by decide)
    have z2 : 2 ≤ sizeLine := sz' (by decide)
    have hlt := (List.getElem?_eq_some_iff.mp hs).1
    unfold m__law_plainly
    cases e with
    | num m => simp [Ex.d, ofString_inj, z0, z2, plainF, oD, Fm.d, fD]
    | nm x =>
      have hx : (Str.ofString "@").length + x.length ≤ sizeLine := sz' (by have := ho.1; rw [l1]; omega)
      have hx3 : x.length ≤ sizeLine := sz' (by have := ho.1; omega)
      have e0 : (Str.empty).length = 0 := rfl
      simp [Ex.d, ofString_inj, plainF, oD, nameF, z2, pIn_lst2 (a := "name") (b := "length"), rep0, emp_app, e0, hx3, pIn_locS (s := s ++ [O.lst [D.str (Str.ofString "name"), D.str (Str.ofString "length")]]) (k := l) (l := st) (by rw [get_lt hlt]; exact hs), lvar_ok]
      exact ⟨fun h => by rw [if_pos h], fun h => ⟨hx, by rw [if_neg h]⟩⟩
    | len x =>
      have hx : (Str.ofString "#").length + x.length ≤ sizeLine := sz' (by have := ho.1; rw [l2]; omega)
      have hx2 : (Str.ofString "@").length + (Str.ofString "#" ++ x).length ≤ sizeLine := sz' (by have := ho.1; rw [l1, lapp, l2]; omega)
      have hx3 : (Str.ofString "#").length ≤ sizeLine := sz' (by rw [l2]; decide)
      simp [Ex.d, ofString_inj, plainF, oD, nameF, z2, pIn_lst2 (a := "name") (b := "length"), rep1, hx, hx3, pIn_locS (s := s ++ [O.lst [D.str (Str.ofString "name"), D.str (Str.ofString "length")]]) (k := l) (l := st) (by rw [get_lt hlt]; exact hs), lvar_ok]
      exact ⟨fun h => by rw [if_pos h], fun h => ⟨hx2, by rw [if_neg h]⟩⟩
    | item a e => simp [Ex.d, ofString_inj, plainF, oD, z2, pIn_lst2 (a := "name") (b := "length"), pNotIn_lst2 (a := "plus") (b := "minus")]
    | quo r e m => cases r <;> simp [Ex.d, ofString_inj, plainF, oD, z2, pIn_lst2 (a := "name") (b := "length"), pNotIn_lst2 (a := "plus") (b := "minus")]
    | scl c e =>
      simp only [Ex.dep] at hd
      have h1 := fun (t : Sto) => ih e k l (s ++ t) (by omega) (by omega) ho.2 (by rw [get_lt hlt]; exact hs)
      have hg : ∀ f, plainF st e = some f → GF NM (6 * 4 ^ e.dep) f := fun f z => plainF_g e ho.2 z
      have hb := pow_bd (d := e.dep) (by omega)
      simp [Ex.d, ofString_inj, plainF, h1, z2, pIn_lst2 (a := "name") (b := "length")]
      cases z : plainF st e with
      | none => simp [oD, pIs_n]
      | some f =>
        simp [oD, pIs_f, z1]
        have q := fun (st2 : Sto) (a : Nat) (ha : st2[a]? = some (.lst [partD (c, f)])) => sum1_l ls lf (k := n + k) (d := .loc a) (s := st2) (a := c) (by rw [seq_loc, ha]; rfl) (hg f z) ho.1.2 hb hM
        rw [q _ _ (by simp [partD, Fm.d])]
        simp
    | bin p a b =>
      simp only [Ex.dep] at hd
      have h1 := fun (t : Sto) => ih a k l (s ++ t) (by omega) (by omega) ho.1 (by rw [get_lt hlt]; exact hs)
      have h2 := fun (t : Sto) => ih b k l (s ++ t) (by omega) (by omega) ho.2 (by rw [get_lt hlt]; exact hs)
      have hb := pow_bd (d := max a.dep b.dep) (by omega)
      have m1 : 4 ^ a.dep ≤ 4 ^ max a.dep b.dep := Nat.pow_le_pow_right (by decide) (Nat.le_max_left _ _)
      have m2 : 4 ^ b.dep ≤ 4 ^ max a.dep b.dep := Nat.pow_le_pow_right (by decide) (Nat.le_max_right _ _)
      have g1 : ∀ f, plainF st a = some f → GF NM (6 * 4 ^ max a.dep b.dep) f := fun f z => (plainF_g a ho.1 z).mono (Nat.mul_le_mul_left 6 m1)
      have g2 : ∀ f, plainF st b = some f → GF NM (6 * 4 ^ max a.dep b.dep) f := fun f z => (plainF_g b ho.2 z).mono (Nat.mul_le_mul_left 6 m2)
      cases p
      all_goals
        simp [Ex.d, ofString_inj, plainF, h1, h2, z2, pIn_lst2 (a := "name") (b := "length"), pNotIn_lst2 (a := "plus") (b := "minus")]
        cases z1' : plainF st a with
        | none =>
          cases z2' : plainF st b <;> simp [oD, pIs_n, pIs_f]
        | some f =>
          cases z2' : plainF st b with
          | none => simp [oD, pIs_n, pIs_f]
          | some g =>
            simp [oD, pIs_f, z2]
            have q := fun (j : Int) (hj : j.natAbs ≤ 2) (st2 : Sto) (a : Nat) (ha : st2[a]? = some (.lst [partD (1, f), partD (j, g)])) => sum2_l ls lf (k := n + k) (d := .loc a) (s := st2) (a := 1) (b := j) (by rw [seq_loc, ha]; rfl) (g1 f z1') (g2 g z2') (by decide) hj hb hM
            first
            | (rw [q 1 (by decide) _ _ (by rw [show s.length + 2 + 1 = s.length + 3 from rfl, get_len_add]; rfl)]; simp; done)
            | (rw [q (-1) (by decide) _ _ (by rw [show s.length + 2 + 1 = s.length + 3 from rfl, get_len_add]; rfl)]; simp; done)
end K69

set_option Elab.async false
set_option linter.all false
set_option maxRecDepth 100000
set_option maxHeartbeats 4000000
namespace K69
open PySem L2 Y
def steadyF (st : List Str) : Ex → Bool
  | .num _ => true
  | .nm x => !decide (x ∈ st)
  | .len a => !decide (("#" : Str) ++ a ∈ st)
  | .scl _ e => steadyF st e
  | .bin _ e f => steadyF st e && steadyF st f
  | _ => false
theorem steady_ok {NM st : List Str} : ∀ (n : Nat) (e : Ex) (k : Nat) (s : Sto), e.dep < n → e.ok NM → callP pg (n + k) "is_steady" [e.d, .tup (st.map D.str)] s = .ok (.bl (steadyF st e)) s := by
  intro n
  induction n with
  | zero => intro e k s h; omega
  | succ n ih =>
    intro e k s hd ho
    rw [show n + 1 + k = (n + k) + 1 by omega, c_is_steady]
    refine gc_pure rfl ?_
    unfold m_is_steady
    cases e with
    | num m => simp [Ex.d, ofString_inj, steadyF]
    | nm x => simp [Ex.d, ofString_inj, steadyF, pNotIn_tupS]
    | len x =>
      have hx : (Str.ofString "#").length + x.length ≤ sizeLine := sz' (by have := ho.1; rw [l2]; omega)
      simp [Ex.d, ofString_inj, steadyF, pNotIn_tupS, hx]
    | item a e => simp [Ex.d, ofString_inj, steadyF]
    | quo r e m => cases r <;> simp [Ex.d, ofString_inj, steadyF]
    | scl c e =>
      simp only [Ex.dep] at hd
      have h1 := ih e k s (by omega) ho.2
      simp [Ex.d, ofString_inj, steadyF, h1]
    | bin p a b =>
      simp only [Ex.dep] at hd
      have h1 := ih a k s (by omega) ho.1
      have h2 := ih b k s (by omega) ho.2
      cases p
      all_goals
        simp [Ex.d, ofString_inj, steadyF, h1, h2]
        cases steadyF st a <;> simp [h2]
theorem lsteady_ok {NM st : List Str} : ∀ (n : Nat) (e : Ex) (k l : Nat) (s : Sto), e.dep < n → e.ok NM → s[l]? = some (.lst (st.map D.str)) → callP pg (n + k) "_law_steady" [e.d, .loc l] s = .ok (.bl (steadyF st e)) s := by
  intro n
  induction n with
  | zero => intro e k l s h; omega
  | succ n ih =>
    intro e k l s hd ho hs
    rw [show n + 1 + k = (n + k) + 1 by omega, c__law_steady]
    refine gc_pure rfl ?_
    have hlt := (List.getElem?_eq_some_iff.mp hs).1
    have z2 : 2 ≤ sizeLine := sz' (by decide)
    unfold m__law_steady
    cases e with
    | num m => simp [Ex.d, ofString_inj, steadyF, z2, pIn_lst2 (a := "plus") (b := "minus")]
    | nm x => simp [Ex.d, ofString_inj, steadyF, pNotIn_locS hs]
    | len x =>
      have hx : (Str.ofString "#").length + x.length ≤ sizeLine := sz' (by have := ho.1; rw [l2]; omega)
      simp [Ex.d, ofString_inj, steadyF, pNotIn_locS hs, hx]
    | item a e => simp [Ex.d, ofString_inj, steadyF, z2, pIn_lst2 (a := "plus") (b := "minus")]
    | quo r e m => cases r <;> simp [Ex.d, ofString_inj, steadyF, z2, pIn_lst2 (a := "plus") (b := "minus")]
    | scl c e =>
      simp only [Ex.dep] at hd
      have h1 := ih e k l s (by omega) ho.2 hs
      simp [Ex.d, ofString_inj, steadyF, h1]
    | bin p a b =>
      simp only [Ex.dep] at hd
      have h1 := fun (t : Sto) => ih a k l (s ++ t) (by omega) ho.1 (by rw [get_lt hlt]; exact hs)
      have h2 := fun (t : Sto) => ih b k l (s ++ t) (by omega) ho.2 (by rw [get_lt hlt]; exact hs)
      cases p
      all_goals
        simp [Ex.d, ofString_inj, steadyF, h1, h2, z2, pIn_lst2 (a := "plus") (b := "minus")]
        cases steadyF st a <;> simp [h2]
/-- a steady expression has a form -/
theorem steady_some {st : List Str} : ∀ (e : Ex), steadyF st e = true → ∃ f, plainF st e = some f
  | .num m, _ => ⟨_, rfl⟩
  | .nm x, _ => ⟨_, rfl⟩
  | .len x, _ => ⟨_, rfl⟩
  | .item _ _, h => by cases h
  | .quo _ _ _, h => by cases h
  | .scl c e, h => by
    obtain ⟨f, q⟩ := steady_some e h
    exact ⟨_, by unfold plainF; rw [q]; rfl⟩
  | .bin p a b, h => by
    simp only [steadyF, Bool.and_eq_true] at h
    obtain ⟨f, q⟩ := steady_some a h.1
    obtain ⟨g, q2⟩ := steady_some b h.2
    exact ⟨_, by unfold plainF; rw [q, q2]⟩
end K69

set_option Elab.async false
set_option linter.all false
set_option maxRecDepth 100000
set_option maxHeartbeats 4000000
namespace K69
open PySem L2 Y
abbrev Cmp := Bool × Ex × Ex
def cmpD (c : Cmp) : D := (Cd.cmp c.1 c.2.1 c.2.2).d
def Cd.comps : Cd → List Cmp
  | .cmp q e f => [(q, e, f)]
  | .nt c => c.comps
  | .bo _ c d => c.comps ++ d.comps
def Cd.dep : Cd → Nat
  | .cmp _ _ _ => 0
  | .nt c => c.dep + 1
  | .bo _ c d => max c.dep d.dep + 1
theorem comps_ok : ∀ (n : Nat) (c : Cd) (k : Nat) (s : Sto), c.dep < n → c.comps.length < 1000 → (callP pg (n + k) "comparisons_of" [c.d] s).to (FL s (c.comps.map cmpD)) NoX := by
  intro n
  induction n with
  | zero => intro c k s h; omega
  | succ n ih =>
    intro c k s hd hl
    rw [show n + 1 + k = (n + k) + 1 by omega, c_comparisons_of]
    apply gc_to
    have z0 : 0 ≤ sizeLine := Nat.zero_le _
    have z1 : 1 ≤ sizeLine := sz' (by decide)
    have z2 : 2 ≤ sizeLine := sz' (by decide)
    unfold m_comparisons_of
    cases c with
    | cmp q e f =>
      cases q
      all_goals
        simp [Cd.d, ofString_inj, pIn_tup2, z1, z2]
        exact FL.gc ⟨_, s.length, rfl, rfl, Nat.le_refl _, by simp [Cd.comps, cmpD, Cd.d]⟩
    | nt c =>
      simp only [Cd.dep] at hd
      simp only [Cd.comps] at hl
      simp [Cd.d, ofString_inj, pIn_tup2, z0, z2, for_cons, for_nil, meth_extend (xs := [])]
      refine Res.to_imp (ih c k _ (by omega) hl) fun d s' h => ?_
      obtain ⟨t', e⟩ := mExt_FL (X := []) h (sz' (by simp; omega))
      simp [e]
      exact FL.gc ⟨_, s.length, rfl, rfl, Nat.le_refl _, by simp [Cd.comps]⟩
    | bo o c1 c2 =>
      simp only [Cd.dep] at hd
      simp only [Cd.comps, List.length_append] at hl
      cases o
      all_goals
        simp [Cd.d, ofString_inj, pIn_tup2, z0, z2, for_cons, for_nil, meth_extend (xs := [])]
        refine Res.to_imp (ih c1 k _ (by omega) (by omega)) fun d s' h => ?_
        obtain ⟨t', e⟩ := mExt_FL (X := []) h (sz' (by simp; omega))
        simp [e, meth_extend (xs := c1.comps.map cmpD)]
        refine Res.to_imp (ih c2 k _ (by omega) (by omega)) fun d s' h => ?_
        obtain ⟨t', e⟩ := mExt_FL h (sz' (by simp; omega))
        simp [e]
        exact FL.gc ⟨_, s.length, rfl, rfl, Nat.le_refl _, by simp [Cd.comps]⟩
theorem lcomps_ok : ∀ (n : Nat) (c : Cd) (k : Nat) (s : Sto), c.dep < n → c.comps.length < 1000 → (callP pg (n + k) "_law_comparisons" [c.d] s).to (FL s (c.comps.map cmpD)) NoX := by
  intro n
  induction n with
  | zero => intro c k s h; omega
  | succ n ih =>
    intro c k s hd hl
    rw [show n + 1 + k = (n + k) + 1 by omega, c__law_comparisons]
    apply gc_to
    have z0 : 0 ≤ sizeLine := Nat.zero_le _
    have z1 : 1 ≤ sizeLine := sz' (by decide)
    have z2 : 2 ≤ sizeLine := sz' (by decide)
    unfold m__law_comparisons
    cases c with
    | cmp q e f =>
      cases q
      all_goals
        simp [Cd.d, ofString_inj, pIn_lst2 (a := "less") (b := "same"), z1, z2]
        exact FL.gc ⟨_, s.length + 1, rfl, rfl, by omega, by rw [get_len_add]; simp [Cd.comps, cmpD, Cd.d]⟩
    | nt c =>
      simp only [Cd.dep] at hd
      simp only [Cd.comps] at hl
      simp [Cd.d, ofString_inj, pIn_lst2 (a := "less") (b := "same"), z0, z2, for_cons, for_nil]
      refine Res.to_imp (ih c k _ (by omega) hl) fun d s' h => ?_
      obtain ⟨t', e, rfl⟩ := pAdd_FL (i := s.length + 1) (X := []) (by rw [get_len_add]; rfl) h (sz' (by simp; omega))
      simp at e
      simp [e]
      exact FL.gc ⟨_, _, rfl, rfl, by omega, by simp [Cd.comps]⟩
    | bo o c1 c2 =>
      simp only [Cd.dep] at hd
      simp only [Cd.comps, List.length_append] at hl
      cases o
      all_goals
        simp [Cd.d, ofString_inj, pIn_lst2 (a := "less") (b := "same"), z0, z2, for_cons, for_nil]
        refine Res.to_imp (ih c1 k _ (by omega) (by omega)) fun d s' h => ?_
        obtain ⟨t', e, rfl⟩ := pAdd_FL (i := s.length + 1) (X := []) (by rw [get_len_add]; rfl) h (sz' (by simp; omega))
        simp at e
        simp [e]
        refine Res.to_imp (ih c2 k _ (by omega) (by omega)) fun d s' h => ?_
        obtain ⟨t2, e2, rfl⟩ := pAdd_FL (i := s.length + (t'.length + 1 + 1)) (X := c1.comps.map cmpD) (by simp) h (sz' (by simp; omega))
        simp at e2
        simp [e2]
        exact FL.gc ⟨_, _, rfl, rfl, by omega, by simp [Cd.comps]⟩
end K69

set_option Elab.async false
set_option linter.all false
set_option maxRecDepth 100000
set_option maxHeartbeats 4000000
namespace K69
open PySem L2 Y
def mOne : Fm := (-1, [])
theorem mOne_g {NM : List Str} {B : Nat} (h : 1 ≤ B) : GF NM B mOne := ⟨(by simp [mOne, formL, sumsP, srtS] : formL [] = []), h, fun p hp => (by cases hp), fun p hp => (by cases hp)⟩
def pairF (f g : Fm) : List Fm := [lsum [(1, f), (-1, g)], lsum [(1, g), (-1, f)]]
def cmpF (st : List Str) (c : Cmp) : List Fm := match plainF st c.2.1, plainF st c.2.2 with
  | some a, some b => pairF a b ++ (pairF a b).map fun g => lsum [(1, g), (1, mOne)]
  | _, _ => []
theorem cforms_ok {NM st : List Str} (hM : NM.length < 60) {n k : Nat} {c : Cmp} {s : Sto} (h1 : c.2.1.ok NM) (h2 : c.2.2.ok NM) (d1 : c.2.1.dep < n) (d2 : c.2.2.dep < n) (hn : n ≤ 18) :
    (callP pg (n + k + 4) "comparison_forms" [cmpD c, .tup (st.map D.str)] s).to (FL s ((cmpF st c).map Fm.d)) NoX := by
  obtain ⟨q, a, b⟩ := c
  simp only at h1 h2 d1 d2
  rw [show n + k + 4 = (n + k + 3) + 1 by omega, c_comparison_forms]
  apply gc_to
  have z0 : 0 ≤ sizeLine := Nat.zero_le _
  have z4 : 4 ≤ sizeLine := sz' (by decide)
  have e1 := plain_ok (st := st) hM n a k s d1 (by omega) h1
  have e2 := plain_ok (st := st) hM n b k s d2 (by omega) h2
  have hb := pow_bd (d := n + 2) (by omega)
  have m1 : 6 * 4 ^ a.dep ≤ 6 * 4 ^ n := Nat.mul_le_mul_left 6 (Nat.pow_le_pow_right (by decide) (by omega))
  have m2 : 6 * 4 ^ b.dep ≤ 6 * 4 ^ n := Nat.mul_le_mul_left 6 (Nat.pow_le_pow_right (by decide) (by omega))
  have p1 : 4 * (6 * 4 ^ n) = 6 * 4 ^ (n + 1) := by rw [Nat.pow_succ]; omega
  have b0 : 6 * 4 ^ n < 10 ^ 100 := pow_bd (by omega)
  have b1 : 6 * 4 ^ (n + 1) < 10 ^ 100 := pow_bd (by omega)
  have pos : 1 ≤ 6 * 4 ^ (n + 1) := Nat.mul_pos (by decide) (Nat.pow_pos (by decide))
  unfold m_comparison_forms
  simp [cmpD, Cd.d, e1, e2]
  cases y1 : plainF st a with
  | none =>
    cases y2 : plainF st b
    all_goals
      simp [oD, pIs_n, pIs_f, z0]
      exact FL.gc ⟨_, s.length, rfl, rfl, Nat.le_refl _, by simp [cmpF, y1]⟩
  | some f =>
    cases y2 : plainF st b with
    | none =>
      simp [oD, pIs_n, pIs_f, z0]
      exact FL.gc ⟨_, s.length, rfl, rfl, Nat.le_refl _, by simp [cmpF, y1, y2]⟩
    | some g =>
      have g1 := (plainF_g a h1 y1).mono m1
      have g2 := (plainF_g b h2 y2).mono m2
      have g3 := lsum2 (a := 1) (b := -1) g1 g2 (by decide) (by decide)
      have g4 := lsum2 (a := 1) (b := -1) g2 g1 (by decide) (by decide)
      rw [p1] at g3 g4
      simp [oD, pIs_f]
      rw [minus_l fl g1 g2 b0 hM]
      simp
      rw [minus_l fl g2 g1 b0 hM]
      simp
      have q1 : ∀ st2, callP pg (n + k + 3) "plus" [(lsum [(1, f), (-1, g)]).d, c_MINUS_ONE] st2 = .ok (lsum [(1, lsum [(1, f), (-1, g)]), (1, mOne)]).d st2 := fun st2 => plus_l fl (k := n + k + 1) g3 (mOne_g pos) hM
      have q2 : ∀ st2, callP pg (n + k + 3) "plus" [(lsum [(1, g), (-1, f)]).d, c_MINUS_ONE] st2 = .ok (lsum [(1, lsum [(1, g), (-1, f)]), (1, mOne)]).d st2 := fun st2 => plus_l fl (k := n + k + 1) g4 (mOne_g pos) hM
      rw [q1]
      simp
      rw [q2]
      simp [z4]
      exact FL.gc ⟨_, s.length, rfl, rfl, Nat.le_refl _, by simp [cmpF, y1, y2, pairF]⟩
theorem pairs_ok {NM : List Str} {B k : Nat} {f g : Fm} {s : Sto} (hM : NM.length < 60) (hf : GF NM B f) (hg : GF NM B g) (hB : B < 10 ^ 100) : (callP pg (k + 4) "differences_of" [f.d, g.d] s).to (FL s ((pairF f g).map Fm.d)) NoX := by
  rw [c_differences_of]
  apply gc_to
  have z2 : 2 ≤ sizeLine := sz' (by decide)
  unfold m_differences_of
  simp
  rw [minus_l fl hf hg hB hM]
  simp
  rw [minus_l fl hg hf hB hM]
  simp [z2]
  exact FL.gc ⟨_, s.length, rfl, rfl, Nat.le_refl _, by simp [pairF]⟩
theorem both_ok {NM : List Str} {B k : Nat} {f g : Fm} {s : Sto} (hM : NM.length < 60) (hf : GF NM B f) (hg : GF NM B g) (hB : B < 10 ^ 100) : (callP pg (k + 3) "_law_both_ways" [f.d, g.d] s).to (FL s ((pairF f g).map Fm.d)) NoX := by
  rw [c__law_both_ways]
  apply gc_to
  have z2 : 2 ≤ sizeLine := sz' (by decide)
  unfold m__law_both_ways
  have q := fun (u v : Fm) (hu : GF NM B u) (hv : GF NM B v) (st2 : Sto) (a : Nat) (ha : st2[a]? = some (.lst [partD (1, u), partD (-1, v)])) => sum2_l ls lf (k := k) (d := .loc a) (s := st2) (a := 1) (b := -1) (by rw [seq_loc, ha]; rfl) hu hv (by decide) (by decide) hB hM
  simp [z2]
  rw [q f g hf hg _ _ (by rw [get_len]; rfl)]
  simp [z2]
  rw [q g f hg hf _ _ (by rw [get_len_add]; rfl)]
  simp [z2]
  exact FL.gc ⟨_, s.length + 2, rfl, rfl, by omega, by rw [get_len_add]; simp [pairF]⟩
def setF (st : List Str) (p : Str × Ex) : List Fm := if steadyF st p.2 = true then match plainF st p.2 with
    | some f => pairF (varF p.1) f
    | none => []
  else []
theorem setf_ok {NM st : List Str} (hM : NM.length < 60) {n k : Nat} {p : Str × Ex} {s : Sto} (hx : p.1 ∈ NM) (ho : p.2.ok NM) (hd : p.2.dep < n) (hn : n ≤ 18) :
    (callP pg (n + k + 5) "set_forms" [.str p.1, p.2.d, .tup (st.map D.str)] s).to (FL s ((setF st p).map Fm.d)) NoX := by
  obtain ⟨x, e⟩ := p
  simp only at hx ho hd
  rw [show n + k + 5 = (n + k + 4) + 1 by omega, c_set_forms]
  apply gc_to
  have z0 : 0 ≤ sizeLine := Nat.zero_le _
  have e1 := plain_ok (st := st) hM n e (k + 1) s hd (by omega) ho
  rw [show n + (k + 1) + 3 = n + k + 4 by omega] at e1
  have e2 := steady_ok (st := st) n e (k + 4) s hd ho
  rw [show n + (k + 4) = n + k + 4 by omega] at e2
  have e3 : callP pg (n + k + 4) "variable" [.str x] s = .ok (varF x).d s := var_ok
  unfold m_set_forms
  simp [e2]
  refine ⟨fun h => ?_, fun h => ?_⟩
  · first | simp [z0] | skip
    exact FL.gc ⟨_, s.length, rfl, rfl, Nat.le_refl _, by simp [setF, h]⟩
  · obtain ⟨f, hf⟩ := steady_some e h
    have m1 : 6 * 4 ^ e.dep ≤ 6 * 4 ^ n := Nat.mul_le_mul_left 6 (Nat.pow_le_pow_right (by decide) (by omega))
    have m2 : 6 ≤ 6 * 4 ^ n := Nat.le_mul_of_pos_right 6 (Nat.pow_pos (by decide))
    rw [e3]
    simp [e1, hf, oD]
    refine Res.to_imp (pairs_ok (k := n + k) hM ((varF_g hx).mono m2) ((plainF_g e ho hf).mono m1) (pow_bd (by omega))) fun d s' q => ?_
    have : setF st (x, e) = pairF (varF x) f := by simp [setF, h, hf]
    rw [this]
    exact FL.gc q
end K69

set_option Elab.async false
set_option linter.all false
set_option maxRecDepth 100000
set_option maxHeartbeats 4000000
namespace K69
open PySem L2 Y
/-- an item of a head: an array or a number, its name -/
abbrev It := Bool × Str
def itD (i : It) : D := .tup [.str (if i.1 = true then "array" else "int"), .str i.2]
def keyF (i : It) : Str := if i.1 = true then ("#" : Str) ++ i.2 else i.2
theorem key_len {i : It} (h : i.2.length ≤ 30) : (keyF i).length ≤ 31 := by
  unfold keyF
  split
  · rw [lapp, l2]; omega
  · omega
theorem varof_ok {k : Nat} {i : It} {s : Sto} (h : i.2.length ≤ 30) : callP pg (k + 1) "variable_of" [itD i] s = .ok (.str (keyF i)) s := by
  rw [c_variable_of]
  refine gc_pure rfl ?_
  have hx : (Str.ofString "#").length + i.2.length ≤ sizeLine := sz' (by rw [l2]; omega)
  obtain ⟨a, x⟩ := i
  unfold m_variable_of
  cases a <;> simp [itD, keyF, ofString_inj, hx]
theorem lkey_ok {k : Nat} {i : It} {s : Sto} (h : i.2.length ≤ 30) : callP pg (k + 1) "_law_key" [itD i] s = .ok (.str (keyF i)) s := by
  rw [c__law_key]
  refine gc_pure rfl ?_
  have hx : (Str.ofString "#").length + i.2.length ≤ sizeLine := sz' (by rw [l2]; omega)
  obtain ⟨a, x⟩ := i
  unfold m__law_key
  cases a <;> simp [itD, keyF, ofString_inj, hx]
structure Pr where
  name : Str
  items : List It
  res : List Str
  places : List It
  hints : List Fm
  body : List Sm
def Pr.d (p : Pr) : D := .tup [.str p.name, .tup (p.items.map itD), .tup (p.res.map D.str), .tup (p.places.map itD), .tup [], .tup (p.hints.map Fm.d), .tup [], .tup [], .tup (p.body.map Sm.d)]
theorem compFix_on {α : Type} {g : GM} {t : EM Bool} {e : EM D} {E0 : Ev} {s : Sto} {F : α → D} {f : α → Option D} {l : List α} (hl : l.length ≤ sizeLine) (h : ∀ a ∈ l, turnC g t e E0 (F a) s = .ok (f a) s) : compS g t e E0 (.fix (l.map F)) s = .ok (l.filterMap f) s := by
  unfold compS
  simp only [List.length_map, if_pos hl]
  clear hl
  induction l with
  | nil => rfl
  | cons d ds ih =>
    rw [List.map_cons]
    unfold compL
    rw [h d (by simp), Res.bind_ok, ih (fun d hd => h d (by simp [hd])), Res.bind_ok, List.filterMap_cons]
    cases f d <;> rfl
theorem filterMap_if {α : Type} (f : α → D) (c : α → Bool) : ∀ l : List α, l.filterMap (fun a => if c a = true then some (f a) else none) = (l.filter c).map f
  | [] => rfl
  | a :: l => by
    rw [List.filterMap_cons, List.filter_cons, filterMap_if f c l]
    cases c a <;> simp
theorem mitems_ok {k m lm : Nat} {p : Pr} {dct : List (Key × D)} {Tn : List Str} {s : Sto} (hi : ∀ i ∈ p.items, i.2.length ≤ 30) (hl : p.items.length < 1000) (hm : s[m]? = some (.dic dct)) (hg : getA dct (.inr p.name) = some (.loc lm)) (ht : s[lm]? = some (.lst (Tn.map D.str))) :
    (callP pg (k + 2) "moving_items" [p.d, .loc m] s).to (FL s ((p.items.filter fun i => decide (keyF i ∈ Tn)).map itD)) NoX := by
  rw [c_moving_items]
  apply gc_to
  unfold m_moving_items
  simp [Pr.d]
  rw [compFix_on (F := itD) (f := fun i => if decide (keyF i ∈ Tn) = true then some (itD i) else none) (sz' (by omega))]
  · simp only [to_ok]
    refine FL.gc ⟨_, s.length, rfl, rfl, Nat.le_refl _, ?_⟩
    rw [get_len, filterMap_if]
    rfl
  · intro i h1
    have hv := varof_ok (k := k) (s := s) (hi i h1)
    unfold turnC
    simp [hv, hm, hg, noX, Res.ofO, pIn_locS ht]
    by_cases h : keyF i ∈ Tn <;> simp [h]
def statesF (p : Pr) (Tn : List Str) : List Str := ((p.items.filter fun i => decide (keyF i ∈ Tn)) ++ p.places).map keyF
theorem clL_map {α : Type} {n : Nat} (f : α → D) (h : ∀ a, D.cl n (f a) = true) : ∀ l : List α, D.clL n (l.map f) = true
  | [] => rfl
  | a :: r => by rw [List.map_cons]; simp only [D.clL, h a, clL_map f h r]; rfl
theorem ex_cl {n : Nat} : ∀ e : Ex, D.cl n e.d = true
  | .num _ => rfl
  | .nm _ => rfl
  | .len _ => rfl
  | .item _ e => by simp [Ex.d, D.cl, D.clL, ex_cl e]
  | .quo _ e _ => by simp [Ex.d, D.cl, D.clL, ex_cl e]
  | .scl _ e => by simp [Ex.d, D.cl, D.clL, ex_cl e]
  | .bin _ e f => by simp [Ex.d, D.cl, D.clL, ex_cl e, ex_cl f]
theorem cd_cl {n : Nat} : ∀ c : Cd, D.cl n c.d = true
  | .cmp _ e f => by simp [Cd.d, D.cl, D.clL, ex_cl]
  | .nt c => by simp [Cd.d, D.cl, D.clL, cd_cl c]
  | .bo _ c e => by simp [Cd.d, D.cl, D.clL, cd_cl c, cd_cl e]
theorem ag_cl {n : Nat} : ∀ a : Ag, D.cl n a.d = true
  | .arr _ => rfl
  | .val e => ex_cl e
mutual
theorem sm_cl {n : Nat} : ∀ s : Sm, D.cl n s.d = true
  | .push e a => by simp [Sm.d, D.cl, D.clL, ex_cl]
  | .store a e f => by simp [Sm.d, D.cl, D.clL, ex_cl]
  | .pop x a => by simp [Sm.d, D.cl, D.clL]
  | .pause => by simp [Sm.d, D.cl, D.clL]
  | .call p as ts => by simp [Sm.d, D.cl, D.clL, clL_map Ag.d ag_cl, clL_map D.str (fun _ => rfl)]
  | .whl c b => by simp [Sm.d, D.cl, D.clL, cd_cl, sml_cl b]
  | .ite c b1 b2 => by simp [Sm.d, D.cl, D.clL, cd_cl, sml_cl b1, sml_cl b2]
  | .set l => by
    have := clL_map (n := n) (fun p : Str × Ex => D.tup [.str p.1, p.2.d]) (fun p => by simp [D.cl, D.clL, ex_cl]) l
    simp only [Sm.d, D.cl, D.clL, setD, this]; rfl
  | .give es => by simp [Sm.d, D.cl, D.clL, clL_map Ex.d ex_cl]
theorem sml_cl {n : Nat} : ∀ b : List Sm, D.clL n (Sm.dl b) = true
  | [] => by simp [Sm.dl, D.clL]
  | s :: r => by simp [Sm.dl, D.clL, sm_cl s, sml_cl r]
end
theorem pr_cl {n : Nat} (p : Pr) : D.cl n p.d = true := by
  simp [Pr.d, D.cl, D.clL, clL_map itD (fun _ => rfl), clL_map D.str (fun _ => rfl), clL_map Fm.d (fun f => fD_cl), clL_map Sm.d sm_cl]
theorem pnamed_ok {k : Nat} {ps : List Pr} {x : Str} {p : Pr} {s : Sto} (hl : ps.length < 1000) (hp : (ps.filter fun q => decide (q.name = x))[0]? = some p) : callP pg (k + 1) "proc_named" [.tup (ps.map Pr.d), .str x] s = .ok p.d s := by
  rw [c_proc_named]
  refine gc_pure (pr_cl p) ?_
  unfold m_proc_named
  simp
  rw [compFix_on (F := Pr.d) (f := fun q => if decide (q.name = x) = true then some q.d else none) (sz' (by omega))]
  · rw [filterMap_if]
    simp
    exact ⟨p, hp, rfl⟩
  · intro q h1
    unfold turnC
    simp [noX, Res.ofO, Pr.d]
    by_cases h : q.name = x <;> simp [h]
end K69

set_option Elab.async false
set_option linter.all false
set_option maxRecDepth 100000
set_option maxHeartbeats 4000000
namespace K69
open PySem L2 Y
theorem compLst_on {α : Type} {g : GM} {t : EM Bool} {e : EM D} {E0 : Ev} {s : Sto} {F : α → D} {f : α → D} {l : List α} {k : Nat} (hk : s[k]? = some (.lst (l.map F))) (hl : l.length < sizeLine) (h : ∀ a ∈ l, turnC g t e E0 (F a) s = .ok (some (f a)) s) : compS g t e E0 (.lst k) s = .ok (l.map f) s := by
  have key : ∀ (n i : Nat), l.length < i + n → i ≤ l.length → compK g t e E0 k n i s = .ok ((l.drop i).map f) s := by
    intro n
    induction n with
    | zero => intro i h1 h2; omega
    | succ n ih =>
      intro i h1 h2
      unfold compK
      rw [hk]
      simp only
      cases e' : (l.map F)[i]? with
      | none =>
        have := List.getElem?_eq_none_iff.mp e'
        rw [List.length_map] at this
        have : i = l.length := by omega
        subst this; simp
      | some d =>
        rw [List.getElem?_map] at e'
        cases e2 : l[i]? with
        | none => rw [e2] at e'; cases e'
        | some a =>
          rw [e2] at e'; cases e'
          obtain ⟨hi, ea⟩ := List.getElem?_eq_some_iff.mp e2
          simp only
          rw [h a (by rw [← ea]; exact List.getElem_mem hi), Res.bind_ok, ih (i + 1) (by omega) (by omega), Res.bind_ok, List.drop_eq_getElem_cons hi, List.map_cons, ea]
          rfl
  unfold compS
  have := key sizeLine 0 (by omega) (Nat.zero_le _)
  rw [List.drop_zero] at this
  exact this
theorem states_ok {k m lm : Nat} {p : Pr} {dct : List (Key × D)} {Tn : List Str} {s : Sto} (hi : ∀ i ∈ p.items ++ p.places, i.2.length ≤ 30) (hl : p.items.length < 1000) (hl2 : p.places.length < 1000) (hm : s[m]? = some (.dic dct)) (hg : getA dct (.inr p.name) = some (.loc lm)) (ht : s[lm]? = some (.lst (Tn.map D.str))) :
    callP pg (k + 3) "states_of_proc" [p.d, .loc m] s = .ok (.tup ((statesF p Tn).map D.str)) s := by
  rw [c_states_of_proc]
  refine gc_pure (by simp only [D.cl]; exact clL_map D.str (fun _ => rfl) _) ?_
  unfold m_states_of_proc
  simp
  refine Res.to_imp (mitems_ok (fun i hi' => hi i (List.mem_append_left _ hi')) hl hm hg ht) fun d s' h => ?_
  have hlen : (p.items.filter fun i => decide (keyF i ∈ Tn)).length ≤ p.items.length := List.length_filter_le _ _
  obtain ⟨t, l, rfl, rfl, h1, h2⟩ := h
  have l2' := (List.getElem?_eq_some_iff.mp h2).1
  simp [Pr.d]
  rw [pAdd_loc (xs := (p.items.filter fun i => decide (keyF i ∈ Tn)).map itD) (ys := p.places.map itD) (by rw [← List.append_assoc, get_lt l2']; exact h2) (by simp) (sz' (by simp; omega))]
  simp
  rw [compLst_on (F := itD) (f := fun i => .str (keyF i)) (l := (p.items.filter fun i => decide (keyF i ∈ Tn)) ++ p.places) (by simp) (sz (by simp; omega))]
  · simp [statesF]; rfl
  · intro i h1
    have h30 : i.2.length ≤ 30 := by
      rcases List.mem_append.mp h1 with h | h
      · exact hi i (List.mem_append_left _ (List.mem_filter.mp h).1)
      · exact hi i (List.mem_append_right _ h)
    unfold turnC
    simp [noX, Res.ofO, varof_ok (k := k + 1) h30]
theorem lstates_ok {k lm : Nat} {p : Pr} {Tn : List Str} {s : Sto} (hi : ∀ i ∈ p.items ++ p.places, i.2.length ≤ 30) (hl : p.items.length < 1000) (hl2 : p.places.length < 1000) (ht : s[lm]? = some (.lst (Tn.map D.str))) :
    (callP pg (k + 2) "_law_states" [p.d, .loc lm] s).to (FL s ((statesF p Tn).map D.str)) NoX := by
  rw [c__law_states]
  apply gc_to
  have hlen : (p.items.filter fun i => decide (keyF i ∈ Tn)).length ≤ p.items.length := List.length_filter_le _ _
  unfold m__law_states
  simp [Pr.d]
  rw [compFix_on (F := itD) (f := fun i => if decide (keyF i ∈ Tn) = true then some (.str (keyF i)) else none) (sz' (by omega))]
  · rw [filterMap_if (fun i => .str (keyF i))]
    simp
    rw [compFix_on (F := itD) (f := fun i => some (.str (keyF i))) (sz' (by omega))]
    · simp
      rw [pAdd_loc (xs := (p.items.filter fun i => decide (keyF i ∈ Tn)).map fun i => .str (keyF i)) (ys := p.places.map fun i => .str (keyF i)) (by simp) (by rw [get_len_add]; simp) (sz' (by simp; omega))]
      simp
      exact FL.gc ⟨_, s.length + 2, rfl, rfl, by omega, by rw [get_len_add]; simp [statesF]; rfl⟩
    · intro i h1
      have hv := fun (st : Sto) => lkey_ok (k := k) (s := st) (hi i (List.mem_append_right _ h1))
      unfold turnC
      simp [noX, Res.ofO, hv]
  · intro i h1
    have hv := fun (st : Sto) => lkey_ok (k := k) (s := st) (hi i (List.mem_append_left _ h1))
    unfold turnC
    simp [hv, noX, Res.ofO, pIn_locS ht]
    by_cases h : keyF i ∈ Tn <;> simp [h]
end K69

set_option Elab.async false
set_option linter.all false
set_option maxRecDepth 100000
set_option maxHeartbeats 4000000
namespace K69
open PySem L2 Y
def diffF (i : It) : List Fm := pairF (varF (keyF i)) (varF (("@" : Str) ++ keyF i))
theorem diffs_ok {NM : List Str} (hM : NM.length < 60) {k l : Nat} {is : List It} {s : Sto} (hi : ∀ i ∈ is, i.2.length ≤ 30 ∧ keyF i ∈ NM ∧ ("@" : Str) ++ keyF i ∈ NM) (hl : is.length < 1000) (hs : s[l]? = some (.lst (is.map itD))) :
    (callP pg (k + 4) "differences" [.loc l] s).to (FL s ((is.flatMap diffF).map Fm.d)) NoX := by
  rw [c_differences]
  apply gc_to
  have z0 : 0 ≤ sizeLine := Nat.zero_le _
  have z2 : 2 ≤ sizeLine := sz' (by decide)
  have lt := (List.getElem?_eq_some_iff.mp hs).1
  unfold m_differences
  simp [z0, get_lt lt, hs]
  refine forLst (xs := is.map itD) (fun n E s1 => ∃ (o2 o3 o4 : Option D) (t : Sto), E = [some (.loc l), some (.loc s.length), o2, o3, o4] ∧ s1 = s ++ .lst (((is.take n).flatMap diffF).map Fm.d) :: t) (by rw [List.length_map]; unfold fuelMax; omega) ?_ ?_ ?_ ?_
  · rintro n E s1 ⟨o2, o3, o4, t, rfl, rfl⟩
    rw [get_lt lt]; exact hs
  · exact ⟨none, none, none, [], rfl, by simp⟩
  · rintro n d E s1 hd ⟨o2, o3, o4, t, rfl, rfl⟩
    obtain ⟨i, hin, rfl⟩ : ∃ i, is[n]? = some i ∧ d = itD i := by
      rw [List.getElem?_map] at hd
      cases e : is[n]? with
      | none => rw [e] at hd; cases hd
      | some x => rw [e] at hd; cases hd; exact ⟨x, rfl, rfl⟩
    obtain ⟨h30, n1, n2⟩ := hi i (List.mem_of_getElem? hin)
    have hn : n < is.length := (List.getElem?_eq_some_iff.mp hin).1
    have hk := key_len h30
    have hx : (Str.ofString "@").length + (keyF i).length ≤ sizeLine := sz' (by rw [l1]; omega)
    have hv := fun (st : Sto) => varof_ok (k := k + 2) (s := st) h30
    have hvar := fun (x : Str) (st : Sto) => var_ok (k := k + 2) (x := x) (s := st)
    have hst : (is.take (n + 1)).flatMap diffF = (is.take n).flatMap diffF ++ diffF i := by rw [List.take_add_one, hin]; simp
    have hlen : ((is.take n).flatMap diffF).length ≤ 2 * n := by
      have : ∀ l : List It, (l.flatMap diffF).length = 2 * l.length := fun l => by
        induction l with
        | nil => rfl
        | cons a r ih => rw [List.flatMap_cons, List.length_append, ih]; simp [diffF, pairF]; omega
      rw [this, List.length_take]; omega
    rw [hst]
    generalize (is.take n).flatMap diffF = A at hlen ⊢
    have q1 := fun (st : Sto) => minus_l fl (k := k) (s := st) (varF_g n1) (varF_g n2) (by decide +kernel) hM
    have q2 := fun (st : Sto) => minus_l fl (k := k) (s := st) (varF_g n2) (varF_g n1) (by decide +kernel) hM
    simp [hv, hvar, hx, meth_extend (xs := A.map Fm.d), q1, q2, z2]
    rw [mExtend_ap (xs := A.map Fm.d) (ys := (diffF i).map Fm.d) (by simp) (by simp [diffF, pairF])]
    simp [sz' (show A.length + (diffF i).length < 100000 by simp [diffF, pairF]; omega)]
  · rintro E s1 ⟨o2, o3, o4, t, rfl, rfl⟩
    simp
    exact FL.gc ⟨_, s.length, rfl, rfl, Nat.le_refl _, by simp⟩
end K69

set_option Elab.async false
set_option linter.all false
set_option maxRecDepth 100000
set_option maxHeartbeats 4000000
namespace K69
open PySem L2 Y
theorem pD_inj : ∀ {a b : Ps}, a.map pD = b.map pD → a = b
  | [], [], _ => rfl
  | [], _ :: _, h => by simp at h
  | _ :: _, [], h => by simp at h
  | (x, n) :: a, (y, m) :: b, h => by
    simp only [List.map_cons, List.cons.injEq, pD, D.tup.injEq, D.str.injEq, D.int.injEq, and_true] at h
    rw [h.1.1, h.1.2, pD_inj h.2]
theorem fm_inj {f g : Fm} (h : f.d = g.d) : f = g := by
  unfold Fm.d fD at h
  simp only [D.tup.injEq, List.cons.injEq, D.int.injEq, and_true] at h
  exact Prod.ext h.1 (pD_inj h.2)
theorem fm_dat {f : Fm} (h : ∀ p ∈ f.2, sOk p.1 = true) : datS 3 f.d = true := by
  unfold Fm.d fD
  simp only [datS, datSL, Bool.true_and, Bool.and_true]
  rw [datSL_iff]
  intro x hx
  obtain ⟨p, hp, rfl⟩ := List.mem_map.mp hx
  simp [pD, datS, datSL, h p hp]
def addF (acc : List Fm) (f : Fm) : List Fm := if f.2 = [] ∨ f ∈ acc then acc else acc ++ [f]
theorem mem_fmD {f : Fm} {A : List Fm} : (A.map Fm.d).any (fun y => D.beq y f.d) = decide (f ∈ A) := by
  rw [Bool.eq_iff_iff, any_beq, decide_eq_true_eq, List.mem_map]
  exact ⟨fun ⟨g, hg, e⟩ => fm_inj e ▸ hg, fun h => ⟨f, h, rfl⟩⟩
theorem tru_fm {f : Fm} {s : Sto} : truD (.tup (f.2.map pD)) s = some (!f.2.isEmpty) := by
  cases h : f.2 <;> rfl
theorem addF_len {f : Fm} {A : List Fm} : (addF A f).length ≤ A.length + 1 := by
  unfold addF; split <;> simp
theorem addF_sub {f : Fm} {A : List Fm} : ∀ g ∈ addF A f, g ∈ A ∨ g = f := fun g h => by
  unfold addF at h
  split at h
  · exact .inl h
  · simpa using h
theorem fold_addF : ∀ (l A : List Fm), ((l.foldl addF A).length ≤ A.length + l.length) ∧ ∀ g ∈ l.foldl addF A, g ∈ A ∨ g ∈ l
  | [], A => ⟨by simp, fun g h => .inl h⟩
  | f :: l, A => by
    obtain ⟨h1, h2⟩ := fold_addF l (addF A f)
    have h3 := addF_len (f := f) (A := A)
    refine ⟨by rw [List.foldl_cons, List.length_cons]; omega, fun g hg => ?_⟩
    rcases h2 g hg with h | h
    · rcases addF_sub g h with q | q
      · exact .inl q
      · exact .inr (by rw [q]; exact List.mem_cons_self)
    · exact .inr (List.mem_cons_of_mem _ h)
theorem wd_ok {k l : Nat} {f0 : Fm} {fs : List Fm} {s : Sto} (hl : fs.length < 10000) (hd : ∀ f ∈ f0 :: fs, ∀ p ∈ f.2, sOk p.1 = true) (hs : s[l]? = some (.lst ((f0 :: fs).map Fm.d))) :
    callP pg (k + 1) "without_doubles" [.loc l] s = .ok (.tup ((fs.foldl addF [f0]).map Fm.d)) s := by
  rw [c_without_doubles]
  refine gc_pure (by simp only [D.cl]; exact clL_map Fm.d (fun f => fD_cl) _) ?_
  have z1 : 1 ≤ sizeLine := sz' (by decide)
  have lt := (List.getElem?_eq_some_iff.mp hs).1
  rw [List.map_cons] at hs
  unfold m_without_doubles
  simp [hs, z1, pSl_loc (s := s ++ [O.lst [f0.d]]) (k := l) (xs := f0.d :: fs.map Fm.d) (by rw [get_lt lt]; exact hs)]
  refine forLst (xs := fs.map Fm.d) (fun n E s1 => ∃ (o2 : Option D), E = [some (.loc l), some (.loc s.length), o2] ∧ s1 = s ++ [.lst (((fs.take n).foldl addF [f0]).map Fm.d), .lst (fs.map Fm.d)]) (by rw [List.length_map]; unfold fuelMax; omega) ?_ ?_ ?_ ?_
  · rintro n E s1 ⟨o2, rfl, rfl⟩
    rw [get_len_add]; rfl
  · exact ⟨none, rfl, by simp⟩
  · rintro n d E s1 hd2 ⟨o2, rfl, rfl⟩
    obtain ⟨f, hf, rfl⟩ : ∃ f, fs[n]? = some f ∧ d = f.d := by
      rw [List.getElem?_map] at hd2
      cases e : fs[n]? with
      | none => rw [e] at hd2; cases hd2
      | some x => rw [e] at hd2; cases hd2; exact ⟨x, rfl, rfl⟩
    have hst : (fs.take (n + 1)).foldl addF [f0] = addF ((fs.take n).foldl addF [f0]) f := by rw [List.take_add_one, hf, List.foldl_append]; rfl
    obtain ⟨a1, a2⟩ := fold_addF (fs.take n) [f0]
    have hA : ∀ g ∈ (fs.take n).foldl addF [f0], ∀ p ∈ g.2, sOk p.1 = true := fun g hg => by
      rcases a2 g hg with h | h
      · rw [List.mem_singleton.mp h]; exact hd f0 List.mem_cons_self
      · exact hd g (List.mem_cons_of_mem _ (List.mem_of_mem_take h))
    have hfd := fm_dat (hd f (List.mem_cons_of_mem _ (List.mem_of_getElem? hf)))
    rw [hst]
    rw [List.length_take] at a1
    generalize (fs.take n).foldl addF [f0] = A at a1 hA ⊢
    have hAd : datSL 3 (A.map Fm.d) = true := datSL_iff.mpr fun x hx => by
      obtain ⟨g, hg, rfl⟩ := List.mem_map.mp hx
      exact fm_dat (hA g hg)
    have hz : A.length < sizeLine := sz (by simp at a1; omega)
    have hin := pNotIn_data (s := s ++ [O.lst (A.map Fm.d), O.lst (fs.map Fm.d)]) (k := s.length) (ys := A.map Fm.d) (x := f.d) (by simp) hfd hAd (by decide) rfl
    rw [mem_fmD] at hin
    have hpx : f.d = .tup [.int f.1, .tup (f.2.map pD)] := rfl
    simp [hpx, tru_fm]
    rw [← hpx, hin]
    unfold addF
    by_cases h0 : f.2 = []
    · simp [h0]
    · by_cases h1 : f ∈ A
      · simp [h0, h1]
      · simp [h0, h1, meth_append (xs := A.map Fm.d), mAppend_ap (xs := A.map Fm.d), hz]
  · rintro E s1 ⟨o2, rfl, rfl⟩
    simp
end K69

set_option Elab.async false
set_option linter.all false
set_option maxRecDepth 100000
set_option maxHeartbeats 4000000
namespace K69
open PySem L2 Y
@[simp] theorem atI_7 {α : Type} {xs : List α} : atI xs 7 = xs[7]? := atI_nat (n := 7)
@[simp] theorem atI_8 {α : Type} {xs : List α} : atI xs 8 = xs[8]? := atI_nat (n := 8)
/-- the keys that a statement assigns -/
def Sm.keys : Sm → List Str
  | .set l => l.map (·.1)
  | .pop x a => [x, ("#" : Str) ++ a]
  | .push _ a => [("#" : Str) ++ a]
  | .call _ _ ts => ts
  | _ => []
def assigned (p : Pr) : List Str := (Sm.allL p.body).flatMap Sm.keys
def Sm.short : Sm → Prop
  | .pop _ a => a.length ≤ 30
  | .push _ a => a.length ≤ 30
  | _ => True
theorem assigned_ok {n k : Nat} {p : Pr} {s : Sto} (hd : Sm.depL p.body < n) (hl : (Sm.allL p.body).length < 10000) (ha : (assigned p).length < 10000) (hs : ∀ q ∈ Sm.allL p.body, q.short) :
    (callP pg (n + k + 1) "assigned_in" [p.d] s).to (FL s ((assigned p).map D.str)) NoX := by
  rw [c_assigned_in]
  apply gc_to
  have z0 : 0 ≤ sizeLine := Nat.zero_le _
  have z2 : 2 ≤ sizeLine := sz' (by decide)
  unfold m_assigned_in
  simp [z0, Pr.d]
  refine Res.to_imp (stmts_ok n k p.body _ hd hl) fun d s' h => ?_
  obtain ⟨t0, l, rfl, rfl, h1, h2⟩ := h
  simp at h1 h2
  simp [h2]
  have hgl : ∀ (A : List D) (t1 : Sto), (s ++ .lst A :: (t0 ++ t1))[l]? = some (.lst ((Sm.allL p.body).map Sm.d)) := fun A t1 => by
    obtain ⟨j, rfl⟩ : ∃ j, l = s.length + (j + 1) := ⟨l - s.length - 1, by omega⟩
    rw [get_len_add] at h2 ⊢
    rw [List.getElem?_cons_succ] at h2 ⊢
    rw [get_lt (List.getElem?_eq_some_iff.mp h2).1]
    exact h2
  refine forLst (xs := (Sm.allL p.body).map Sm.d) (fun i E s1 => ∃ (o2 o3 o4 : Option D) (t1 : Sto), E = [some p.d, some (.loc s.length), o2, o3, o4] ∧ s1 = s ++ .lst ((((Sm.allL p.body).take i).flatMap Sm.keys).map D.str) :: (t0 ++ t1)) (by rw [List.length_map]; unfold fuelMax; omega) ?_ ?_ ?_ ?_
  · rintro i E s1 ⟨o2, o3, o4, t1, rfl, rfl⟩
    exact hgl _ t1
  · exact ⟨none, none, none, [], rfl, by simp⟩
  · rintro i d E s1 hd2 ⟨o2, o3, o4, t1, rfl, rfl⟩
    obtain ⟨st, hst, rfl⟩ : ∃ st, (Sm.allL p.body)[i]? = some st ∧ d = st.d := by
      rw [List.getElem?_map] at hd2
      cases e : (Sm.allL p.body)[i]? with
      | none => rw [e] at hd2; cases hd2
      | some x => rw [e] at hd2; cases hd2; exact ⟨x, rfl, rfl⟩
    have hsh := hs st (List.mem_of_getElem? hst)
    have hcut : ((Sm.allL p.body).take (i + 1)).flatMap Sm.keys = ((Sm.allL p.body).take i).flatMap Sm.keys ++ st.keys := by rw [List.take_add_one, hst]; simp
    have hlt : (((Sm.allL p.body).take (i + 1)).flatMap Sm.keys).length ≤ (assigned p).length := by
      unfold assigned
      have : (Sm.allL p.body).flatMap Sm.keys = ((Sm.allL p.body).take (i + 1)).flatMap Sm.keys ++ ((Sm.allL p.body).drop (i + 1)).flatMap Sm.keys := by rw [← List.flatMap_append, List.take_append_drop]
      rw [this, List.length_append]; omega
    rw [hcut] at hlt ⊢
    rw [List.length_append] at hlt
    generalize ((Sm.allL p.body).take i).flatMap Sm.keys = A at hlt ⊢
    cases st with
    | pause => simp [Sm.d, ofString_inj, Sm.keys]
    | store a e f => simp [Sm.d, ofString_inj, Sm.keys]
    | whl c b => simp [Sm.d, ofString_inj, Sm.keys]
    | ite c b1 b2 => simp [Sm.d, ofString_inj, Sm.keys]
    | give es => simp [Sm.d, ofString_inj, Sm.keys]
    | push e a =>
      have hx : (Str.ofString "#").length + a.length ≤ sizeLine := sz' (by have : a.length ≤ 30 := hsh; rw [l2]; omega)
      simp [Sm.d, ofString_inj, Sm.keys, meth_append (xs := A.map D.str), mAppend_ap (xs := A.map D.str), hx, sz (show A.length < 100000 by omega)]
    | call q as ts =>
      simp [Sm.keys] at hlt
      simp [Sm.d, ofString_inj, Sm.keys, meth_extend (xs := A.map D.str), mExtend, sz' (show A.length + ts.length < 100000 by omega)]
    | pop x a =>
      have hx : (Str.ofString "#").length + a.length ≤ sizeLine := sz' (by have : a.length ≤ 30 := hsh; rw [l2]; omega)
      simp [Sm.keys] at hlt
      simp [Sm.d, ofString_inj, Sm.keys, meth_extend (xs := A.map D.str), hx, z2]
      rw [mExtend_ap (xs := A.map D.str) (ys := [.str x, .str (("#" : Str) ++ a)]) (by simp) (by simp)]
      simp [sz' (show A.length + 2 < 100000 by omega)]
    | set q =>
      simp [Sm.keys] at hlt
      simp [Sm.d, ofString_inj, Sm.keys, meth_extend (xs := A.map D.str), setD]
      rw [compFix_on (F := fun p : Str × Ex => .tup [.str p.1, p.2.d]) (f := fun p => some (.str p.1)) (sz' (by omega))]
      · simp
        rw [mExtend_ap (xs := A.map D.str) (ys := q.map fun p => .str p.1) (by simp) (by simp)]
        simp [sz' (show A.length + q.length < 100000 by omega)]
      · intro r hr
        unfold turnC
        simp [noX, Res.ofO]
  · rintro E s1 ⟨o2, o3, o4, t1, rfl, rfl⟩
    simp
    exact FL.gc ⟨_, s.length, rfl, rfl, Nat.le_refl _, by simp [assigned]⟩
end K69

set_option Elab.async false
set_option linter.all false
set_option maxRecDepth 100000
set_option maxHeartbeats 4000000
namespace K69
open PySem L2 Y
abbrev Row := Str → List Str
def upR (R : Row) (x : Str) (l : List Str) : Row := fun y => if y = x then l else R y
@[simp] theorem upR_same {R : Row} {x : Str} {l : List Str} : upR R x l x = l := by simp [upR]
theorem upR_ne {R : Row} {x y : Str} {l : List Str} (h : y ≠ x) : upR R x l y = R y := by simp [upR, h]
/-- what a call hands on -/
def handed (R : Row) (callee : Str) (ps : List It) (as : List Ag) : List Str :=
  (ps.zip as).filterMap fun q => match q.2 with
    | .arr y => if q.1.1 = true ∧ keyF q.1 ∈ R callee then some (("#" : Str) ++ y) else none
    | .val _ => none
def firstP (core : List Pr) (x : Str) : Option Pr := (core.filter fun q => decide (q.name = x))[0]?
theorem firstP_mem {core : List Pr} {x : Str} {p : Pr} (h : firstP core x = some p) : p ∈ core ∧ p.name = x := by
  have := List.mem_filter.mp (List.mem_of_getElem? h)
  exact ⟨this.1, by simpa using this.2⟩
theorem firstP_of {core : List Pr} (nd : (core.map Pr.name).Nodup) {p : Pr} (h : p ∈ core) : firstP core p.name = some p := by
  unfold firstP
  induction core with
  | nil => cases h
  | cons q r ih =>
    rw [List.map_cons, List.nodup_cons] at nd
    rw [List.filter_cons]
    rcases List.mem_cons.mp h with rfl | h
    · simp
    · have : q.name ≠ p.name := fun e => nd.1 (e ▸ List.mem_map.mpr ⟨p, h, rfl⟩)
      simp only [this, decide_false, Bool.false_eq_true, if_false]
      exact ih nd.2 h
def passS (core : List Pr) (R : Row) : Sm → List Str
  | .call f as _ => match firstP core f with
    | some q => handed R f q.items as
    | none => []
  | _ => []
def passF (core : List Pr) (R : Row) (p : Pr) : List Str := (Sm.allL p.body).flatMap (passS core R)
/-- one table is within another -/
def LeR (core : List Pr) (R R' : Row) : Prop := ∀ p ∈ core, ∀ y ∈ R p.name, y ∈ R' p.name
theorem LeR.refl {core : List Pr} {R : Row} : LeR core R R := fun _ _ _ h => h
theorem LeR.trans {core : List Pr} {R R' R'' : Row} (a : LeR core R R') (b : LeR core R' R'') : LeR core R R'' := fun p hp y h => b p hp y (a p hp y h)
theorem handed_mono {core : List Pr} {R R' : Row} (h : LeR core R R') {q : Pr} (hq : q ∈ core) {as : List Ag} {y : Str} (hy : y ∈ handed R q.name q.items as) : y ∈ handed R' q.name q.items as := by
  unfold handed at hy ⊢
  rw [List.mem_filterMap] at hy ⊢
  obtain ⟨z, hz, e⟩ := hy
  refine ⟨z, hz, ?_⟩
  split at e
  · rename_i y' hy'
    split at e
    · rename_i c
      rw [if_pos ⟨c.1, h q hq _ c.2⟩]; exact e
    · cases e
  · cases e
theorem passS_mono {core : List Pr} {R R' : Row} (h : LeR core R R') {st : Sm} {y : Str} (hy : y ∈ passS core R st) : y ∈ passS core R' st := by
  cases st with
  | call f as ts =>
    simp only [passS] at hy ⊢
    cases e : firstP core f with
    | none => rw [e] at hy; cases hy
    | some q =>
      rw [e] at hy
      obtain ⟨h1, rfl⟩ := firstP_mem e
      exact handed_mono h h1 hy
  | _ => cases hy
theorem passF_mono {core : List Pr} {R R' : Row} (h : LeR core R R') {p : Pr} {y : Str} (hy : y ∈ passF core R p) : y ∈ passF core R' p := by
  unfold passF at hy ⊢
  obtain ⟨st, h1, h2⟩ := List.mem_flatMap.mp hy
  exact List.mem_flatMap.mpr ⟨st, h1, passS_mono h h2⟩
def Clo (core : List Pr) (R : Row) : Prop := ∀ p ∈ core, ∀ y ∈ passF core R p, y ∈ R p.name
/-- R holds what is assigned, and nothing that a closed table need not hold -/
structure Lst (core : List Pr) (R : Row) : Prop where
  has : ∀ p ∈ core, ∀ y ∈ assigned p, y ∈ R p.name
  least : ∀ R' : Row, (∀ p ∈ core, ∀ y ∈ assigned p, y ∈ R' p.name) → Clo core R' → LeR core R R'
theorem least_same {core : List Pr} {R R' : Row} (h : Lst core R) (c : Clo core R) (h' : Lst core R') (c' : Clo core R') : ∀ p ∈ core, ∀ y, y ∈ R p.name ↔ y ∈ R' p.name :=
  fun p hp y => ⟨h.least R' h'.has c' p hp y, h'.least R h.has c p hp y⟩
theorem Lst.grow {core : List Pr} {R : Row} (h : Lst core R) {p : Pr} (hp : p ∈ core) {l : List Str} (hl : ∀ y ∈ l, y ∈ passF core R p) : Lst core (upR R p.name (R p.name ++ l)) := by
  refine ⟨fun q hq y hy => ?_, fun R' h1 h2 q hq y hy => ?_⟩
  · have := h.has q hq y hy
    by_cases e : q.name = p.name
    · rw [e, upR_same]; rw [e] at this; exact List.mem_append_left _ this
    · rw [upR_ne e]; exact this
  · by_cases e : q.name = p.name
    · rw [e, upR_same] at hy
      have z := h.least R' h1 h2
      rcases List.mem_append.mp hy with hy | hy
      · rw [e]; exact z p hp y hy
      · rw [e]; exact h2 p hp y (passF_mono z (hl y hy))
    · rw [upR_ne e] at hy; exact h.least R' h1 h2 q hq y hy
theorem LeR.grow {core : List Pr} {R : Row} {x : Str} {l : List Str} : LeR core R (upR R x (R x ++ l)) := fun q hq y hy => by
  by_cases e : q.name = x
  · rw [e, upR_same]; rw [e] at hy; exact List.mem_append_left _ hy
  · rw [upR_ne e]; exact hy
/-- how many of the candidates lack -/
def miss (C : Pr → List Str) (core : List Pr) (R : Row) : Nat := (core.map fun p => (C p).countP fun c => !decide (c ∈ R p.name)).sum
theorem countP_le {α : Type} {f g : α → Bool} : ∀ {l : List α}, (∀ x ∈ l, f x = true → g x = true) → l.countP f ≤ l.countP g
  | [], _ => by simp
  | a :: l, h => by
    have ih := countP_le (f := f) (g := g) (l := l) fun x hx => h x (List.mem_cons_of_mem _ hx)
    have := h a List.mem_cons_self
    rw [List.countP_cons, List.countP_cons]
    cases e : f a <;> cases e2 : g a <;> simp [e, e2] at this ⊢ <;> omega
theorem countP_lt {α : Type} {f g : α → Bool} : ∀ {l : List α}, (∀ x ∈ l, f x = true → g x = true) → (∃ x ∈ l, f x = false ∧ g x = true) → l.countP f < l.countP g
  | [], _, h => by obtain ⟨x, h, _⟩ := h; cases h
  | a :: l, h, ⟨x, hx, h1, h2⟩ => by
    have ih := countP_le (f := f) (g := g) (l := l) fun x hx => h x (List.mem_cons_of_mem _ hx)
    have ha := h a List.mem_cons_self
    rw [List.countP_cons, List.countP_cons]
    rcases List.mem_cons.mp hx with rfl | hx
    · rw [h1, h2]; simp; omega
    · have := countP_lt (f := f) (g := g) (l := l) (fun x hx => h x (List.mem_cons_of_mem _ hx)) ⟨x, hx, h1, h2⟩
      cases e : f a <;> cases e2 : g a <;> simp [e, e2] at ha ⊢ <;> omega
theorem sum_le {α : Type} {f g : α → Nat} : ∀ {l : List α}, (∀ x ∈ l, f x ≤ g x) → (l.map f).sum ≤ (l.map g).sum
  | [], _ => by simp
  | a :: l, h => by
    have := sum_le (l := l) fun x hx => h x (List.mem_cons_of_mem _ hx)
    have := h a List.mem_cons_self
    simp only [List.map_cons, List.sum_cons]; omega
theorem sum_lt {α : Type} {f g : α → Nat} : ∀ {l : List α}, (∀ x ∈ l, f x ≤ g x) → (∃ x ∈ l, f x < g x) → (l.map f).sum < (l.map g).sum
  | [], _, h => by obtain ⟨x, h, _⟩ := h; cases h
  | a :: l, h, ⟨x, hx, h1⟩ => by
    have h2 := sum_le (l := l) fun x hx => h x (List.mem_cons_of_mem _ hx)
    have h3 := h a List.mem_cons_self
    simp only [List.map_cons, List.sum_cons]
    rcases List.mem_cons.mp hx with rfl | hx
    · omega
    · have := sum_lt (l := l) (fun x hx => h x (List.mem_cons_of_mem _ hx)) ⟨x, hx, h1⟩; omega
theorem miss_le {C : Pr → List Str} {core : List Pr} {R R' : Row} (h : LeR core R R') : miss C core R' ≤ miss C core R :=
  sum_le fun p hp => countP_le fun c _ z => by
    simp only [Bool.not_eq_true', decide_eq_false_iff_not] at z ⊢
    exact fun q => z (h p hp c q)
theorem miss_lt {C : Pr → List Str} {core : List Pr} {R R' : Row} (h : LeR core R R') {p : Pr} (hp : p ∈ core) {c : Str} (hc : c ∈ C p) (h1 : c ∉ R p.name) (h2 : c ∈ R' p.name) : miss C core R' < miss C core R :=
  sum_lt (fun p hp => countP_le fun c _ z => by
    simp only [Bool.not_eq_true', decide_eq_false_iff_not] at z ⊢
    exact fun q => z (h p hp c q)) ⟨p, hp, countP_lt (fun c _ z => by
    simp only [Bool.not_eq_true', decide_eq_false_iff_not] at z ⊢
    exact fun q => z (h p hp c q)) ⟨c, hc, by simp [h1, h2]⟩⟩
/-- an argument fits a parameter -/
def Fit (i : It) : Ag → Prop
  | .arr y => i.1 = true ∧ y.length ≤ 30
  | .val _ => i.1 = false
def fits (ps : List It) (as : List Ag) : Prop := ps.length = as.length ∧ ∀ q ∈ ps.zip as, Fit q.1 q.2
def wfS (core : List Pr) : Sm → Prop
  | .call f as _ => ∃ q, firstP core f = some q ∧ fits q.items as
  | _ => True
/-- a core as the law draws it -/
structure WF (core : List Pr) : Prop where
  two : core.length ≤ 2
  nd : (core.map Pr.name).Nodup
  ok : ∀ p ∈ core, ∀ st ∈ Sm.allL p.body, wfS core st ∧ st.short
  dep : ∀ p ∈ core, Sm.depL p.body ≤ 8
  len : ∀ p ∈ core, (Sm.allL p.body).length ≤ 200
  as : ∀ p ∈ core, (assigned p).length ≤ 1000
  its : ∀ p ∈ core, p.items.length ≤ 3 ∧ p.places.length ≤ 4 ∧ ∀ i ∈ p.items ++ p.places, i.2.length ≤ 30
/-- a table of lists in the store -/
structure TS (s : Sto) (m : Nat) (nms : List Str) (L : Str → Nat) (R : Row) : Prop where
  dic : s[m]? = some (.dic (nms.map fun x => (.inr x, .loc (L x))))
  row : ∀ x ∈ nms, s[L x]? = some (.lst ((R x).map D.str))
  inj : ∀ x ∈ nms, ∀ y ∈ nms, L x = L y → x = y
theorem getA_nms {nms : List Str} {f : Str → D} {x : Str} (h : x ∈ nms) : getA (nms.map fun x => ((.inr x : Key), f x)) (.inr x) = some (f x) := by
  induction nms with
  | nil => cases h
  | cons a r ih =>
    rw [List.map_cons, getA_cons]
    by_cases e : a = x
    · subst e; simp
    · have : ¬ ((.inr a : Key) = .inr x) := fun q => e (by injection q)
      rw [if_neg this]
      exact ih ((List.mem_cons.mp h).resolve_left (fun q => e q.symm))
section
variable {s t : Sto} {m : Nat} {nms : List Str} {L : Str → Nat} {R : Row}
theorem TS.get (h : TS s m nms L R) {x : Str} (hx : x ∈ nms) : getA (nms.map fun x => ((.inr x : Key), D.loc (L x))) (.inr x) = some (.loc (L x)) := getA_nms (f := fun x => .loc (L x)) hx
theorem TS.lt (h : TS s m nms L R) : m < s.length := (List.getElem?_eq_some_iff.mp h.dic).1
theorem TS.lt2 (h : TS s m nms L R) {x : Str} (hx : x ∈ nms) : L x < s.length := (List.getElem?_eq_some_iff.mp (h.row x hx)).1
theorem TS.ne (h : TS s m nms L R) {x : Str} (hx : x ∈ nms) : L x ≠ m := fun e => by
  have a := h.row x hx
  rw [e, h.dic] at a
  cases a
theorem TS.app (h : TS s m nms L R) : TS (s ++ t) m nms L R :=
  ⟨by rw [get_lt h.lt]; exact h.dic, fun x hx => by rw [get_lt (h.lt2 hx)]; exact h.row x hx, h.inj⟩
theorem TS.mono {s' : Sto} (h : TS s m nms L R) (e : ∀ k, k < s.length → s'[k]? = s[k]?) : TS s' m nms L R :=
  ⟨by rw [e _ h.lt]; exact h.dic, fun x hx => by rw [e _ (h.lt2 hx)]; exact h.row x hx, h.inj⟩
theorem TS.put (h : TS s m nms L R) {x : Str} (hx : x ∈ nms) {l : List Str} : TS (s.set (L x) (.lst (l.map D.str))) m nms L (upR R x l) := by
  refine ⟨by rw [List.getElem?_set_ne (h.ne hx)]; exact h.dic, fun y hy => ?_, h.inj⟩
  by_cases e : y = x
  · subst e; rw [upR_same, List.getElem?_set_self (h.lt2 hx)]
  · rw [upR_ne e, List.getElem?_set_ne (fun q => e (h.inj x hx y hy q).symm)]; exact h.row y hy
end
end K69

set_option Elab.async false
set_option linter.all false
set_option maxRecDepth 100000
set_option maxHeartbeats 4000000
namespace K69
open PySem L2 Y
theorem zipD_map {α β : Type} {f : α → D} {g : β → D} : ∀ {xs : List α} {ys : List β}, zipD (xs.map f) (ys.map g) = (xs.zip ys).map fun q => .tup [f q.1, g q.2]
  | [], _ => by simp [zipD]
  | _ :: _, [] => by simp [zipD]
  | x :: xs, y :: ys => by
    have := zipD_map (f := f) (g := g) (xs := xs) (ys := ys)
    unfold zipD at this ⊢
    simp only [List.map_cons, List.zip_cons_cons, this]
@[simp] theorem iZip_ap {m : EM (List D)} {E : Ev} {s : Sto} : iZip' m E s = (m E s).bind fun ds s1 => match ds with
  | [.tup xs, .tup ys] => .ok (.fix (zipD xs ys)) s1
  | _ => .err := rfl
theorem map_at {α : Type} {f : α → D} {l : List α} {i : Nat} {d : D} (h : (l.map f)[i]? = some d) : ∃ a, l[i]? = some a ∧ d = f a := by
  rw [List.getElem?_map] at h
  cases e : l[i]? with
  | none => rw [e] at h; cases h
  | some x => rw [e] at h; cases h; exact ⟨x, rfl, rfl⟩
theorem handed_snoc {R : Row} {f : Str} {ps : List It} {as : List Ag} {j : Nat} {q : It × Ag} (h : (ps.zip as)[j]? = some q) {F : It × Ag → Option Str} : ((ps.zip as).take (j + 1)).filterMap F = ((ps.zip as).take j).filterMap F ++ (F q).toList := by
  rw [List.take_add_one, h, List.filterMap_append]
  cases e : F q <;> simp [e]
def handF (R : Row) (callee : Str) (q : It × Ag) : Option Str := match q.2 with
    | .arr y => if q.1.1 = true ∧ keyF q.1 ∈ R callee then some (("#" : Str) ++ y) else none
    | .val _ => none
theorem handed_eq {R : Row} {f : Str} {ps : List It} {as : List Ag} : handed R f ps as = (ps.zip as).filterMap (handF R f) := rfl
theorem handed_len {R : Row} {f : Str} {ps : List It} {as : List Ag} : (handed R f ps as).length ≤ ps.length := by
  unfold handed
  refine Nat.le_trans (List.length_filterMap_le _ _) ?_
  rw [List.length_zip]; omega
theorem passS_len {core : List Pr} (W : WF core) {R : Row} {st : Sm} : (passS core R st).length ≤ 3 := by
  cases st with
  | call f as ts =>
    simp only [passS]
    cases e : firstP core f with
    | none => simp
    | some q => exact Nat.le_trans handed_len (W.its q (firstP_mem e).1).1
  | _ => simp [passS]
theorem flat_len {α β : Type} {f : α → List β} {n : Nat} : ∀ {l : List α}, (∀ a ∈ l, (f a).length ≤ n) → (l.flatMap f).length ≤ n * l.length
  | [], _ => by simp
  | a :: l, h => by
    have h1 := h a List.mem_cons_self
    have h2 := flat_len (l := l) fun x hx => h x (List.mem_cons_of_mem _ hx)
    rw [List.flatMap_cons, List.length_append, List.length_cons, Nat.mul_add]; omega
theorem passed_ok {core : List Pr} (W : WF core) {n k m : Nat} {p : Pr} (hp : p ∈ core) {L : Str → Nat} {R : Row} {s : Sto} (hd : 8 < n) (h : TS s m (core.map Pr.name) L R) :
    (callP pg (n + k + 1) "passed_on" [.tup (core.map Pr.d), .loc m, p.d] s).to (FL s ((passF core R p).map D.str)) NoX := by
  rw [c_passed_on]
  apply gc_to
  have z0 : 0 ≤ sizeLine := Nat.zero_le _
  have hdp := W.dep p hp
  have hlen := W.len p hp
  unfold m_passed_on
  simp [z0, Pr.d]
  refine Res.to_imp (stmts_ok n k p.body _ (by omega) (by omega)) fun d s' hs => ?_
  obtain ⟨t0, l, rfl, rfl, h1, h2⟩ := hs
  simp at h1 h2
  simp [h2]
  have hgl : ∀ (A : List D), (s ++ .lst A :: t0)[l]? = some (.lst ((Sm.allL p.body).map Sm.d)) := fun A => by
    obtain ⟨j, rfl⟩ : ∃ j, l = s.length + (j + 1) := ⟨l - s.length - 1, by omega⟩
    rw [get_len_add] at h2 ⊢
    rw [List.getElem?_cons_succ] at h2 ⊢
    exact h2
  refine forLst (xs := (Sm.allL p.body).map Sm.d) (fun i E s1 => ∃ (o4 o5 o6 o7 : Option D), E = [some (.tup (core.map Pr.d)), some (.loc m), some p.d, some (.loc s.length), o4, o5, o6, o7] ∧ s1 = s ++ .lst ((((Sm.allL p.body).take i).flatMap (passS core R)).map D.str) :: t0) (by rw [List.length_map]; unfold fuelMax; omega) ?_ ?_ ?_ ?_
  · rintro i E s1 ⟨o4, o5, o6, o7, rfl, rfl⟩
    exact hgl _
  · exact ⟨none, none, none, none, rfl, by simp⟩
  · rintro i d E s1 hd2 ⟨o4, o5, o6, o7, rfl, rfl⟩
    obtain ⟨st, hst, rfl⟩ := map_at hd2
    obtain ⟨hw, hsh⟩ := W.ok p hp st (List.mem_of_getElem? hst)
    have hcut : ((Sm.allL p.body).take (i + 1)).flatMap (passS core R) = ((Sm.allL p.body).take i).flatMap (passS core R) ++ passS core R st := by rw [List.take_add_one, hst]; simp
    have hAl : (((Sm.allL p.body).take i).flatMap (passS core R)).length ≤ 600 := by
      refine Nat.le_trans (flat_len (n := 3) fun a _ => passS_len W) ?_
      rw [List.length_take]; omega
    rw [hcut]
    generalize ((Sm.allL p.body).take i).flatMap (passS core R) = A at hAl ⊢
    cases st with
    | call f as ts =>
      obtain ⟨q, hq, hfl, hf⟩ := hw
      obtain ⟨hqc, rfl⟩ := firstP_mem hq
      have hn : q.name ∈ core.map Pr.name := List.mem_map.mpr ⟨q, hqc, rfl⟩
      have e1 := fun (st : Sto) => pnamed_ok (k := n + k - 1) (ps := core) (x := q.name) (p := q) (s := st) (by have := W.two; omega) hq
      rw [show n + k - 1 + 1 = n + k by omega] at e1
      simp [Sm.d, ofString_inj, e1, Pr.d, zipD_map]
      refine forFix (fun j E s1 => ∃ (o6 o7 : Option D), E = [some (.tup (core.map Pr.d)), some (.loc m), some p.d, some (.loc s.length), some (Sm.call q.name as ts).d, some (.tup (q.items.map itD)), o6, o7] ∧ s1 = s ++ .lst ((A ++ ((q.items.zip as).take j).filterMap (handF R q.name)).map D.str) :: t0) ?_ ?_ ?_
      · exact ⟨o6, o7, by simp [Sm.d, Pr.d], by simp⟩
      · rintro j d E s1 hd3 ⟨o6, o7, rfl, rfl⟩
        obtain ⟨⟨⟨ia, ix⟩, a⟩, hj, rfl⟩ := map_at hd3
        have hfit := hf _ (List.mem_of_getElem? hj)
        rw [handed_snoc hj (R := R) (f := q.name)]
        have hB : (((q.items.zip as).take j).filterMap (handF R q.name)).length ≤ 3 := by
          refine Nat.le_trans (List.length_filterMap_le _ _) ?_
          rw [List.length_take, List.length_zip]
          have := (W.its q hqc).1; omega
        generalize ((q.items.zip as).take j).filterMap (handF R q.name) = B at hB ⊢
        cases a with
        | val e =>
          have : ia = false := hfit
          subst this
          simp [itD, ofString_inj, handF]
        | arr y =>
          obtain ⟨ht, hy⟩ : ia = true ∧ y.length ≤ 30 := hfit
          subst ht
          have hix := (W.its q hqc).2.2 (true, ix) (List.mem_append_left _ (by
            have := List.of_mem_zip (List.mem_of_getElem? hj); exact this.1))
          have hx1 : (Str.ofString "#").length + ix.length ≤ sizeLine := sz' (by rw [l2]; simp only at hix; omega)
          have hx2 : (Str.ofString "#").length + y.length ≤ sizeLine := sz' (by rw [l2]; omega)
          have T1 := h.app (t := .lst ((A ++ B).map D.str) :: t0)
          have eg := T1.get hn
          have er := T1.row _ hn
          have ed := T1.dic
          simp only [List.map_append] at er ed
          simp [itD, ofString_inj, handF, Ag.d, Sm.d, hx1, hx2, ed, eg, pIn_locS er, keyF]
          rw [List.map_map] at eg
          refine ⟨_, eg, ?_⟩
          rw [pIn_locS er]
          by_cases hk : (Str.ofString "#" ++ ix) ∈ R q.name
          · simp [hk, meth_append (xs := A.map D.str ++ B.map D.str), mAppend_ap (xs := A.map D.str ++ B.map D.str), sz (show A.length + B.length < 100000 by omega)]
          · simp [hk]
      · rintro E s1 ⟨o6, o7, rfl, rfl⟩
        rw [List.length_map, List.take_length]
        simp [passS, hq, handed_eq, Sm.d, Pr.d]
    | pause => simp [Sm.d, ofString_inj, passS]
    | push e a => simp [Sm.d, ofString_inj, passS]
    | store a e f => simp [Sm.d, ofString_inj, passS]
    | pop x a => simp [Sm.d, ofString_inj, passS]
    | whl c b => simp [Sm.d, ofString_inj, passS]
    | ite c b1 b2 => simp [Sm.d, ofString_inj, passS]
    | set q => simp [Sm.d, ofString_inj, passS]
    | give es => simp [Sm.d, ofString_inj, passS]
  · rintro E s1 ⟨o4, o5, o6, o7, rfl, rfl⟩
    simp
    exact FL.gc ⟨_, s.length, rfl, rfl, Nat.le_refl _, by simp [passF]⟩
end K69

set_option Elab.async false
set_option linter.all false
set_option maxRecDepth 100000
set_option maxHeartbeats 4000000
namespace Y
open PySem L2
section
variable {g : GM} {t : EM Bool} {ek ev : EM D} {E0 : Ev} {X : Str → Sto → Prop}
theorem turnD_to {d : D} {s : Sto} {Q : Option (Key × D) → Sto → Prop} : (turnD g t ek ev E0 d s).to Q X = (g d E0 s).to (fun E1 s1 => (t E1 s1).to (fun b s2 => (b = true → (ek E1 s2).to (fun y s3 => (ev E1 s3).to (fun z s4 => ∃ q, keyD y = some q ∧ Q (some (q, z)) s4) NoX) NoX) ∧ (¬ b = true → Q none s2)) NoX) NoX := by
  unfold turnD
  cases g d E0 s with
  | ok E1 s1 =>
    simp
    refine iff_of_eq (congrArg (fun f => (t E1 s1).to f NoX) (funext fun b => funext fun s2 => congrArg (· ∧ _) (propext (forall_congr' fun _ => iff_of_eq (congrArg (fun f => (ek E1 s2).to f NoX) (funext fun y => funext fun s3 => congrArg (fun f => (ev E1 s3).to f NoX) (funext fun z => funext fun s4 => ?_)))))))
    cases keyD y <;> simp
  | exc x s1 => rfl
  | err => rfl
theorem dcompL_to (I : Nat → List (Key × D) → Sto → Prop) {Q : List (Key × D) → Sto → Prop} : ∀ (xs : List D) (i : Nat) (acc : List (Key × D)) {s : Sto}, I i acc s →
    (∀ j d acc s, xs[j]? = some d → I (i + j) acc s → (turnD g t ek ev E0 d s).to (fun o s1 => I (i + j + 1) (putO o acc) s1) X) →
    (∀ acc s, I (i + xs.length) acc s → Q acc s) → (dcompL g t ek ev E0 xs acc s).to Q X
  | [], i, acc, s, h0, _, hz => hz acc s h0
  | d :: ds, i, acc, s, h0, ht, hz => by
    unfold dcompL
    rw [to_bind]
    refine Res.to_mono (ht 0 d acc s rfl h0) (fun o s1 z => ?_) fun _ _ z => z
    refine dcompL_to I ds (i + 1) (putO o acc) z (fun j d' a s' e' z' => ?_) fun a s' z' => hz a s' ?_
    · have := ht (j + 1) d' a s' (by simpa using e') (by rw [show i + (j + 1) = i + 1 + j by omega]; exact z')
      rw [show i + (j + 1) = i + 1 + j by omega] at this
      exact this
    · rw [List.length_cons, show i + (ds.length + 1) = i + 1 + ds.length by omega]; exact z'
theorem dcompFix {xs : List D} {s : Sto} {Q : List (Key × D) → Sto → Prop} (I : Nat → List (Key × D) → Sto → Prop) (hl : xs.length ≤ sizeLine) (h0 : I 0 [] s)
    (ht : ∀ j d acc s, xs[j]? = some d → I j acc s → (turnD g t ek ev E0 d s).to (fun o s1 => I (j + 1) (putO o acc) s1) X)
    (hz : ∀ acc s, I xs.length acc s → Q acc s) : (dcompS g t ek ev E0 (.fix xs) s).to Q X := by
  unfold dcompS
  simp only [if_pos hl]
  refine dcompL_to I xs 0 [] h0 (fun j d a s e z => ?_) fun a s z => hz a s (by simpa using z)
  rw [Nat.zero_add] at z ⊢
  exact ht j d a s e z
end
section
variable {P : Post} {E : Ev} {s : Sto} {c : EM Bool} {b : SM}
/-- a while loop with a number that goes down, not read off the store -/
theorem whileN_to (I : Nat → Ev → Sto → Prop)
    (ht : ∀ m E s, I m E s → (c E s).to (fun k s1 => (k = true → (b E s1).to { P with nx := fun E2 s2 => ∃ m', m' < m ∧ I m' E2 s2, ct := fun E2 s2 => ∃ m', m' < m ∧ I m' E2 s2, bk := P.nx }) ∧ (¬ k = true → P.nx E s1)) (fun x s1 => P.exc x E s1)) :
    ∀ (n m : Nat) {E : Ev} {s : Sto}, I m E s → m < n → (whileL c b n E s).to P
  | 0, m, E, s, _, h => absurd h (by omega)
  | n + 1, m, E, s, h0, h => by
    have z := ht m E s h0
    unfold whileL
    cases e : c E s with
    | err => rw [e] at z; exact z
    | exc x s1 => rw [e] at z; exact z
    | ok k s1 =>
      rw [e] at z
      cases k with
      | false => exact z.2 (by simp)
      | true =>
        have z := z.1 rfl
        simp only
        have go : ∀ E2 s2, (∃ m', m' < m ∧ I m' E2 s2) → (whileL c b n E2 s2).to P := fun E2 s2 ⟨m', h1, q⟩ => whileN_to I ht n m' q (by omega)
        cases e2 : b E s1 with
        | nx E2 s2 => rw [e2] at z; exact go E2 s2 z
        | ct E2 s2 => rw [e2] at z; exact go E2 s2 z
        | bk E2 s2 => rw [e2] at z; exact z
        | rt d s2 => rw [e2] at z; exact z
        | exc x E2 s2 => rw [e2] at z; exact z
        | err => rw [e2] at z; exact z
theorem sWhileN (I : Nat → Ev → Sto → Prop) {m : Nat} (h0 : I m E s) (hm : m < fuelMax)
    (ht : ∀ m E s, I m E s → (c E s).to (fun k s1 => (k = true → (b E s1).to { P with nx := fun E2 s2 => ∃ m', m' < m ∧ I m' E2 s2, ct := fun E2 s2 => ∃ m', m' < m ∧ I m' E2 s2, bk := P.nx }) ∧ (¬ k = true → P.nx E s1)) (fun x s1 => P.exc x E s1)) : (sWhile c b E s).to P :=
  whileN_to I ht fuelMax m h0 hm
end
/-- what stood is kept -/
def Kp (s s' : Sto) : Prop := s.length ≤ s'.length ∧ ∀ k, k < s.length → s'[k]? = s[k]?
theorem Kp.refl {s : Sto} : Kp s s := ⟨Nat.le_refl _, fun _ _ => rfl⟩
theorem Kp.trans {s s' s'' : Sto} (h : Kp s s') (h' : Kp s' s'') : Kp s s'' := ⟨Nat.le_trans h.1 h'.1, fun k hk => (h'.2 k (Nat.lt_of_lt_of_le hk h.1)).trans (h.2 k hk)⟩
theorem Kp.app {s t : Sto} : Kp s (s ++ t) := ⟨by simp, fun k hk => get_lt hk⟩
theorem Kp.set {s s' : Sto} (h : Kp s s') {l : Nat} (hl : s.length ≤ l) {o : O} : Kp s (s'.set l o) := ⟨by simpa using h.1, fun k hk => by rw [List.getElem?_set_ne (by omega)]; exact h.2 k hk⟩
theorem Kp.eq {s s' : Sto} (h : Kp s s') : ∃ t, s' = s ++ t := by
  refine ⟨s'.drop s.length, ?_⟩
  apply List.ext_getElem?
  intro k
  by_cases hk : k < s.length
  · rw [get_lt hk]; exact h.2 k hk
  · obtain ⟨j, rfl⟩ : ∃ j, k = s.length + j := ⟨k - s.length, by omega⟩
    rw [get_len_add, List.getElem?_drop]
theorem Kp.get {s s' : Sto} (h : Kp s s') {k : Nat} {o : O} (e : s[k]? = some o) : s'[k]? = some o := (h.2 k (List.getElem?_eq_some_iff.mp e).1).trans e
theorem FL.kp {s s' : Sto} {xs : List D} {d : D} (h : FL s xs d s') : ∃ l, d = .loc l ∧ s.length ≤ l ∧ Kp s s' ∧ s'[l]? = some (.lst xs) := by
  obtain ⟨t, l, rfl, rfl, h1, h2⟩ := h
  exact ⟨l, rfl, h1, Kp.app, h2⟩
theorem FL.of {s s' : Sto} {xs : List D} {l : Nat} (h : s.length ≤ l) (k : Kp s s') (e : s'[l]? = some (.lst xs)) : FL s xs (.loc l) s' := by
  obtain ⟨t, rfl⟩ := k.eq
  exact ⟨t, l, rfl, rfl, h, e⟩
end Y
namespace K69
open PySem L2 Y
theorem TS.kp {s s' : Sto} {m : Nat} {nms : List Str} {L : Str → Nat} {R : Row} (h : TS s m nms L R) (e : Kp s s') : TS s' m nms L R := h.mono e.2
def arrs (p : Pr) : List Str := (p.items ++ p.places).filterMap fun i => if i.1 = true then some (("#" : Str) ++ i.2) else none
structure WA (core : List Pr) : Prop where
  few : ∀ p ∈ core, (arrs p).length ≤ 3
  arr : ∀ p ∈ core, ∀ f as ts, Sm.call f as ts ∈ Sm.allL p.body → ∀ y, Ag.arr y ∈ as → (("#" : Str) ++ y) ∈ arrs p
theorem passF_sub {core : List Pr} (A : WA core) {R : Row} {p : Pr} (hp : p ∈ core) {y : Str} (h : y ∈ passF core R p) : y ∈ arrs p := by
  unfold passF at h
  obtain ⟨st, h1, h2⟩ := List.mem_flatMap.mp h
  cases st with
  | call f as ts =>
    simp only [passS] at h2
    cases e : firstP core f with
    | none => rw [e] at h2; cases h2
    | some q =>
      rw [e] at h2
      simp only [handed, List.mem_filterMap] at h2
      obtain ⟨z, hz, h3⟩ := h2
      have hz2 := (List.of_mem_zip hz).2
      obtain ⟨z1, z2⟩ := z
      cases z2 with
      | val e => cases h3
      | arr w =>
        simp only at h3 hz2
        split at h3
        · cases h3; exact A.arr p hp f as ts h1 w hz2
        · cases h3
  | _ => cases h2
theorem miss_bd {core : List Pr} (W : WF core) (A : WA core) (R : Row) : miss arrs core R ≤ 6 := by
  have : ∀ l : List Pr, (∀ p ∈ l, (arrs p).length ≤ 3) → miss arrs l R ≤ 3 * l.length := fun l => by
    induction l with
    | nil => intro _; simp [miss]
    | cons a r ih =>
      intro h
      have h1 := ih fun p hp => h p (List.mem_cons_of_mem _ hp)
      have h2 := h a List.mem_cons_self
      have h3 : (arrs a).countP (fun c => !decide (c ∈ R a.name)) ≤ (arrs a).length := List.countP_le_length
      unfold miss at h1 ⊢
      rw [List.map_cons, List.sum_cons, List.length_cons]
      omega
  have := this core A.few
  have := W.two
  omega
/-- the rows that are assigned -/
def row0 (core : List Pr) : Row := fun x => match firstP core x with
  | some p => assigned p
  | none => []
theorem row0_of {core : List Pr} (nd : (core.map Pr.name).Nodup) {p : Pr} (h : p ∈ core) : row0 core p.name = assigned p := by
  unfold row0; rw [firstP_of nd h]
theorem lst0 {core : List Pr} (nd : (core.map Pr.name).Nodup) : Lst core (row0 core) :=
  ⟨fun p hp y hy => by rw [row0_of nd hp]; exact hy, fun R' h1 _ p hp y hy => by rw [row0_of nd hp] at hy; exact h1 p hp y hy⟩
/-- what a table call gives -/
def TabQ (core : List Pr) (s : Sto) (d : D) (s' : Sto) : Prop := ∃ (m : Nat) (L : Str → Nat) (R : Row), d = .loc m ∧ Kp s s' ∧ s.length ≤ m ∧ TS s' m (core.map Pr.name) L R ∧ Lst core R ∧ Clo core R
theorem TabQ.gc {core : List Pr} {s s' : Sto} {d : D} (h : TabQ core s d s') : (gc s (.ok d s')).to (TabQ core s) NoX := by
  refine gc_both h fun hc => ?_
  obtain ⟨m, L, R, rfl, _, hm, _⟩ := h
  simp [D.cl] at hc
  omega
def upN (L : Str → Nat) (x : Str) (l : Nat) : Str → Nat := fun y => if y = x then l else L y
@[simp] theorem upN_same {L : Str → Nat} {x : Str} {l : Nat} : upN L x l x = l := by simp [upN]
theorem upN_ne {L : Str → Nat} {x y : Str} {l : Nat} (h : y ≠ x) : upN L x l y = L y := by simp [upN, h]
theorem tab0_ok {core : List Pr} (W : WF core) {n k : Nat} {s : Sto} {E0 : Ev} (hn : 8 < n) (h3 : 3 < E0.length) {Q : List (Key × D) → Sto → Prop}
    (hq : ∀ (L : Str → Nat) (s' : Sto), Kp s s' → (∀ p ∈ core, s.length ≤ L p.name ∧ s'[L p.name]? = some (.lst ((assigned p).map D.str))) → (∀ p ∈ core, ∀ q ∈ core, L p.name = L q.name → p.name = q.name) → Q (core.map fun p => (.inr p.name, .loc (L p.name))) s') :
    (dcompS (gNm 3) tYesM (eBin pIx (eVar 3) (eC (.int 0))) (eCall 1 (callP pg (n + k + 1) "assigned_in") (aCons (eVar 3) aNil)) E0 (.fix (core.map Pr.d)) s).to Q NoX := by
  refine dcompFix (fun i acc s1 => ∃ L : Str → Nat, acc = ((core.take i).map fun p => ((.inr p.name : Key), D.loc (L p.name))) ∧ Kp s s1 ∧ (∀ p ∈ core.take i, s.length ≤ L p.name ∧ s1[L p.name]? = some (.lst ((assigned p).map D.str))) ∧ (∀ p ∈ core.take i, ∀ q ∈ core.take i, L p.name = L q.name → p.name = q.name)) (sz' (by rw [List.length_map]; have := W.two; omega)) ?_ ?_ ?_
  · exact ⟨fun _ => 0, by simp, Kp.refl, by simp, by simp⟩
  · rintro i d acc s1 hd ⟨L, rfl, hk, h1, h2⟩
    obtain ⟨p, hi, rfl⟩ := map_at hd
    have hp := List.mem_of_getElem? hi
    rw [turnD_to]
    have g3 : (E0.set 3 (some p.d))[3]? = some (some p.d) := List.getElem?_set_self h3
    have hnew : ∀ q ∈ core.take i, q.name ≠ p.name := fun q hq e => by
      have nd := W.nd
      rw [← List.take_append_drop i core, List.map_append, List.nodup_append] at nd
      have hpd : p ∈ core.drop i := List.mem_of_getElem? (i := 0) (by rw [List.getElem?_drop]; simpa using hi)
      exact nd.2.2 q.name (List.mem_map.mpr ⟨q, hq, rfl⟩) p.name (List.mem_map.mpr ⟨p, hpd, rfl⟩) e
    have hpd : p.d = .tup [.str p.name, .tup (p.items.map itD), .tup (p.res.map D.str), .tup (p.places.map itD), .tup [], .tup (p.hints.map Fm.d), .tup [], .tup [], .tup (p.body.map Sm.d)] := rfl
    simp [g3]
    rw [hpd]
    simp
    rw [← hpd]
    refine Res.to_imp (assigned_ok (n := n) (k := k) (p := p) (s := s1) (by have := W.dep p hp; omega) (by have := W.len p hp; omega) (by have := W.as p hp; omega) fun q hq => (W.ok p hp q hq).2) fun d s2 hf => ?_
    obtain ⟨l, rfl, hl, hk2, he⟩ := hf.kp
    refine ⟨_, rfl, upN L p.name l, ?_, hk.trans hk2, fun q hq => ?_, fun q hq r hr e => ?_⟩
    · have e1 : ((core.take i).map fun p => ((.inr p.name : Key), D.loc (L p.name))) = (core.take i).map fun q => ((.inr q.name : Key), D.loc (upN L p.name l q.name)) := List.map_congr_left fun q hq => by rw [upN_ne (hnew q hq)]
      rw [← List.map_take, ← List.map_take, List.take_add_one, hi, List.map_append, e1]
      simp only [putO, Option.toList_some, List.map_cons, List.map_nil, upN_same]
      unfold putA
      rw [if_neg]
      intro h
      obtain ⟨x, hx, hx2⟩ := List.any_eq_true.mp h
      obtain ⟨q, hq, rfl⟩ := List.mem_map.mp hx
      simp at hx2
      exact hnew q hq hx2
    · rw [List.take_add_one, hi] at hq
      rcases List.mem_append.mp hq with hq | hq
      · rw [upN_ne (hnew q hq)]
        exact ⟨(h1 q hq).1, hk2.get (h1 q hq).2⟩
      · simp at hq
        subst hq
        rw [upN_same]
        exact ⟨Nat.le_trans hk.1 hl, he⟩
    · have old : ∀ q ∈ core.take i, L q.name < s1.length := fun q hq => (List.getElem?_eq_some_iff.mp (h1 q hq).2).1
      rw [List.take_add_one, hi] at hq hr
      rcases List.mem_append.mp hq with hq | hq
      · rw [upN_ne (hnew q hq)] at e
        have old := old q hq
        rcases List.mem_append.mp hr with hr | hr
        · rw [upN_ne (hnew r hr)] at e
          exact h2 q hq r hr e
        · simp at hr; subst hr
          rw [upN_same] at e
          omega
      · simp at hq; subst hq
        rw [upN_same] at e
        rcases List.mem_append.mp hr with hr | hr
        · rw [upN_ne (hnew r hr)] at e
          have := old r hr; omega
        · simp at hr; subst hr; rfl
  · rintro acc s1 ⟨L, rfl, hk, h1, h2⟩
    rw [List.length_map, List.take_length] at *
    exact hq L s1 hk h1 h2
end K69

set_option Elab.async false
set_option linter.all false
set_option maxRecDepth 100000
set_option maxHeartbeats 4000000
namespace K69
open PySem L2 Y
theorem pr_d (p : Pr) : p.d = .tup [.str p.name, .tup (p.items.map itD), .tup (p.res.map D.str), .tup (p.places.map itD), .tup [], .tup (p.hints.map Fm.d), .tup [], .tup [], .tup (p.body.map Sm.d)] := rfl
theorem ix_name {p : Pr} {s : Sto} : pIx p.d (.int 0) s = some (.str p.name, s) := by rw [pr_d]; simp
/-- the while loop's state, k its number -/
def MI (core : List Pr) (s : Sto) (m : Nat) (L : Str → Nat) (k : Nat) (E : Ev) (s1 : Sto) : Prop :=
  ∃ (R : Row) (g : Bool) (o3 o4 : Option D), E = [some (.tup (core.map Pr.d)), some (.loc m), some (.bl g), o3, o4] ∧ Kp s s1 ∧ TS s1 m (core.map Pr.name) L R ∧ Lst core R ∧ (g = false → Clo core R) ∧ (∀ p ∈ core, (R p.name).length + miss arrs core R ≤ 1006) ∧ k = 2 * miss arrs core R + (if g = true then 1 else 0)
/-- the inner loop's state -/
def MJ (core : List Pr) (s : Sto) (m : Nat) (L : Str → Nat) (l : Nat) (R R1 : Row) (p : Pr) (i j : Nat) (E : Ev) (S4 : Sto) : Prop :=
  ∃ (R2 : Row) (g : Bool) (o4 : Option D), E = [some (.tup (core.map Pr.d)), some (.loc m), some (.bl g), some p.d, o4] ∧ Kp s S4 ∧ S4[l]? = some (.lst ((passF core R1 p).map D.str)) ∧ TS S4 m (core.map Pr.name) L R2 ∧ Lst core R2 ∧ LeR core R1 R2 ∧ (∀ p ∈ core, (R2 p.name).length + miss arrs core R2 ≤ 1006) ∧ (g = false → R2 = R ∧ R1 = R ∧ (∀ p ∈ core.take i, ∀ y ∈ passF core R p, y ∈ R p.name) ∧ ∀ y ∈ (passF core R1 p).take j, y ∈ R p.name) ∧ (g = true → miss arrs core R2 < miss arrs core R)
/-- the middle loop's state -/
def MM (core : List Pr) (s : Sto) (m : Nat) (L : Str → Nat) (R : Row) (i : Nat) (E : Ev) (S2 : Sto) : Prop :=
  ∃ (R' : Row) (g : Bool) (o3 o4 : Option D), E = [some (.tup (core.map Pr.d)), some (.loc m), some (.bl g), o3, o4] ∧ Kp s S2 ∧ TS S2 m (core.map Pr.name) L R' ∧ Lst core R' ∧ LeR core R R' ∧ (∀ p ∈ core, (R' p.name).length + miss arrs core R' ≤ 1006) ∧ (g = false → R' = R ∧ ∀ p ∈ core.take i, ∀ y ∈ passF core R p, y ∈ R p.name) ∧ (g = true → miss arrs core R' < miss arrs core R)
theorem mtable_ok {core : List Pr} (W : WF core) (A : WA core) {n k : Nat} {s : Sto} (hn : 8 < n) : (callP pg (n + k + 2) "moving_table" [.tup (core.map Pr.d)] s).to (TabQ core s) NoX := by
  rw [c_moving_table]
  apply gc_to
  unfold m_moving_table
  simp
  refine tab0_ok W hn (by simp) fun L s1 hk h1 h2 => ?_
  have T0 : TS (s1 ++ [.dic (core.map fun p => (.inr p.name, .loc (L p.name)))]) s1.length (core.map Pr.name) L (row0 core) := by
    refine ⟨?_, fun x hx => ?_, fun x hx y hy e => ?_⟩
    · simp
    · obtain ⟨p, hp, rfl⟩ := List.mem_map.mp hx
      rw [row0_of W.nd hp, get_lt (List.getElem?_eq_some_iff.mp (h1 p hp).2).1]
      exact (h1 p hp).2
    · obtain ⟨p, hp, rfl⟩ := List.mem_map.mp hx
      obtain ⟨q, hq, rfl⟩ := List.mem_map.mp hy
      exact h2 p hp q hq e
  have hL : ∀ p ∈ core, s.length ≤ L p.name := fun p hp => (h1 p hp).1
  have hms : s.length ≤ s1.length := hk.1
  generalize hm : s1.length = m at T0 hms ⊢
  generalize hS : s1 ++ [O.dic (core.map fun p => (.inr p.name, .loc (L p.name)))] = S at T0 ⊢
  have hk0 : Kp s S := by rw [← hS]; exact hk.trans Kp.app
  have hb : ∀ R, miss arrs core R ≤ 6 := miss_bd W A
  refine sWhileN (MI core s m L) (m := 2 * miss arrs core (row0 core) + 1) ⟨row0 core, true, none, none, rfl, hk0, T0, lst0 W.nd, fun h => (by cases h), fun p hp => (by
    rw [row0_of W.nd hp]; have := W.as p hp; have := hb (row0 core); omega), rfl⟩ (by have := hb (row0 core); unfold fuelMax; omega) ?_
  rintro K E S1 ⟨R, g, o3, o4, rfl, hk1, T1, hl, hc, hsz, rfl⟩
  simp
  refine ⟨fun hg => ?_, fun hg => ?_⟩
  · subst hg
    refine forFix (MM core s m L R) ?_ ?_ ?_
    · exact ⟨R, false, o3, o4, rfl, hk1, T1, hl, LeR.refl, hsz, fun _ => ⟨rfl, by simp⟩, fun h => (by cases h)⟩
    · rintro i d E S2 hd ⟨R1, g1, o3', o4', rfl, hk2, T2, hl2, hle, hsz2, hf, ht⟩
      obtain ⟨p, hi, rfl⟩ := map_at hd
      have hp := List.mem_of_getElem? hi
      have hpn : p.name ∈ core.map Pr.name := List.mem_map.mpr ⟨p, hp, rfl⟩
      simp
      refine Res.to_imp (passed_ok W (n := n) (k := k) hp hn T2) fun d S3 hF => ?_
      obtain ⟨l, rfl, hl0, hk3, he⟩ := hF.kp
      simp [he]
      have T3 := T2.kp hk3
      have hpl : (passF core R1 p).length ≤ 600 := by
        refine Nat.le_trans (flat_len (n := 3) fun a _ => passS_len W) ?_
        have := W.len p hp; omega
      refine forLst (xs := (passF core R1 p).map D.str) (MJ core s m L l R R1 p i) (by rw [List.length_map]; unfold fuelMax; omega) ?_ ?_ ?_ ?_
      · rintro j E S4 ⟨R2, g2, o4, rfl, _, h, _⟩
        exact h
      · exact ⟨R1, g1, o4', rfl, hk2.trans hk3, he, T3, hl2, LeR.refl, hsz2, fun h => ⟨(hf h).1, (hf h).1, (hf h).2, by simp⟩, ht⟩
      · rintro j d E S4 hd4 ⟨R2, g2, o4, rfl, hk4, he4, T4, hl4, hle4, hsz4, hf4, ht4⟩
        obtain ⟨y, hj, rfl⟩ := map_at hd4
        have hy : y ∈ passF core R1 p := List.mem_of_getElem? hj
        have eg := T4.get hpn
        have er := T4.row _ hpn
        have ed := T4.dic
        have hlp := T4.lt2 hpn
        have key : ixO S4[m]? (.str p.name) = some (.loc (L p.name)) := by
          rw [ed, ixO_str, eg]
        simp [ix_name, key, pNotIn_locS er]
        by_cases hin : y ∈ R2 p.name
        · simp [hin]
          refine ⟨R2, g2, _, rfl, hk4, he4, T4, hl4, hle4, hsz4, fun h => ?_, ht4⟩
          obtain ⟨h1, h2, h3, h4⟩ := hf4 h
          refine ⟨h1, h2, h3, fun z hz => ?_⟩
          rw [List.take_add_one, hj] at hz
          rcases List.mem_append.mp hz with hz | hz
          · exact h4 z hz
          · simp at hz; subst hz; rw [← h1]; exact hin
        · have hz : (R2 p.name).length < sizeLine := sz (by have := hsz4 p hp; omega)
          have hbig : miss arrs core (upR R2 p.name (R2 p.name ++ [y])) < miss arrs core R2 :=
            miss_lt LeR.grow hp (c := y) (passF_sub A hp (passF_mono hle4 hy)) hin (by rw [upR_same]; simp)
          have hmono := miss_le (C := arrs) hle4
          have hmono2 := miss_le (C := arrs) hle
          have hlL := hL p hp
          have T5 := T4.put hpn (l := R2 p.name ++ [y])
          rw [List.map_append] at T5
          simp [hin, ix_name, key, meth_append (xs := (R2 p.name).map D.str) er, mAppend_ap (xs := (R2 p.name).map D.str) er, hz]
          refine ⟨upR R2 p.name (R2 p.name ++ [y]), true, _, rfl, hk4.set hlL, ?_, T5, hl4.grow hp fun z hz => ?_, hle4.trans LeR.grow, fun q hq => ?_, fun h => (by cases h), fun _ => by omega⟩
          · have : L p.name ≠ l := by
              have := T2.lt2 (x := p.name) hpn
              omega
            rw [List.getElem?_set_ne this]; exact he4
          · simp at hz; subst hz; exact passF_mono hle4 hy
          · by_cases e : q.name = p.name
            · rw [e, upR_same, List.length_append]
              have := hsz4 p hp
              simp; omega
            · rw [upR_ne e]
              have := hsz4 q hq
              omega
      · rintro E S4 ⟨R2, g2, o4, rfl, hk4, he4, T4, hl4, hle4, hsz4, hf4, ht4⟩
        rw [List.length_map, List.take_length] at hf4
        refine ⟨R2, g2, _, _, rfl, hk4, T4, hl4, hle.trans hle4, hsz4, fun h => ?_, ht4⟩
        obtain ⟨h1, h2, h3, h4⟩ := hf4 h
        refine ⟨h1, fun q hq y hy => ?_⟩
        rw [List.take_add_one, hi] at hq
        rcases List.mem_append.mp hq with hq | hq
        · exact h3 q hq y hy
        · simp at hq; subst hq
          exact h4 y (by rw [h2]; exact hy)
    · rintro E S2 ⟨R1, g1, o3', o4', rfl, hk2, T2, hl2, hle, hsz2, hf, ht⟩
      rw [List.length_map, List.take_length] at hf
      refine ⟨2 * miss arrs core R1 + (if g1 = true then 1 else 0), ?_, R1, g1, o3', o4', rfl, hk2, T2, hl2, fun h => ?_, hsz2, rfl⟩
      · cases g1 with
        | true => have := ht rfl; simp; omega
        | false => simp [(hf rfl).1]
      · obtain ⟨rfl, h2⟩ := hf h
        exact h2
  · subst hg
    exact TabQ.gc ⟨m, L, R, rfl, hk1, hms, T1, hl, hc rfl⟩
end K69

set_option Elab.async false
set_option linter.all false
set_option maxRecDepth 100000
set_option maxHeartbeats 4000000
namespace K69
open PySem L2 Y
def mvA : SM :=
  (sCons (sIf (tOfB (eBin (pCmp .Eq) (eBin pIx (eVar 4) (eC (.int 0))) (eC (.str "set")))) (sCons (sSet 3 (eBin (pBin .Add) (eVar 3) (eAlloc (fLc (iVal (eBin pIx (eVar 4) (eC (.int 1)))) (gTp 2 (gsCons (gNm 8) (gsCons (gNm 9) gsNil))) tYesM (eVar 8) [8, 9]))))
  sNil) (sCons (sIf (tOfB (eBin (pCmp .Eq) (eBin pIx (eVar 4) (eC (.int 0))) (eC (.str "pop")))) (sCons (sSet 3 (eBin (pBin .Add) (eVar 3) (eA mkLst (aCons (eBin pIx (eVar 4) (eC (.int 1))) (aCons (eBin (pBin .Add) (eC (.str "#")) (eBin pIx (eVar 4) (eC (.int 2)))) aNil)))))
  sNil) (sCons (sIf (tOfB (eBin (pCmp .Eq) (eBin pIx (eVar 4) (eC (.int 0))) (eC (.str "push")))) (sCons (sExpr (eMeth "append" (eVar 3) (aCons (eBin (pBin .Add) (eC (.str "#")) (eBin pIx (eVar 4) (eC (.int 2)))) aNil)))
  sNil) (sCons (sIf (tOfB (eBin (pCmp .Eq) (eBin pIx (eVar 4) (eC (.int 0))) (eC (.str "call")))) (sCons (sSet 3 (eBin (pBin .Add) (eVar 3) (eAlloc (fList (lOfE (eBin pIx (eVar 4) (eC (.int 3))))))))
  sNil) sNil)
  sNil))
  sNil))
  sNil))
  sNil)
def mvB : SM := (sAsg (gSb (eVar 1) (eBin pIx (eVar 2) (eC (.int 0)))) (eVar 3))
def mvC (k : Nat) : SM :=
  (sCons (sIf (tOfB (eBin (pCmp .Eq) (eBin pIx (eVar 4) (eC (.int 0))) (eC (.str "call")))) (sCons (sSet 6 (eBin pIx (eBin pIx (eAlloc (fLc (iVal (eVar 0)) (gNm 10) (tOfB (eBin (pCmp .Eq) (eBin pIx (eVar 10) (eC (.int 0))) (eBin pIx (eVar 4) (eC (.int 1))))) (eVar 10) [10])) (eC (.int 0))) (eC (.int 1))))
  (sCons (sSet 7 (eAlloc (fLc (iRng1' (aCons (eA pLen (aCons (eVar 6) aNil)) aNil)) (gNm 11) (tOfB (eBin (pCmp .In) (eCall 1 (callP pg k "_law_key") (aCons (eBin pIx (eVar 6) (eVar 11)) aNil)) (eBin pIx (eVar 1) (eBin pIx (eVar 4) (eC (.int 1)))))) (eBin pIx (eBin pIx (eVar 4) (eC (.int 2))) (eVar 11)) [11])))
  (sCons (sAsg (gSb (eVar 1) (eBin pIx (eVar 2) (eC (.int 0)))) (eBin (pBin .Add) (eBin pIx (eVar 1) (eBin pIx (eVar 2) (eC (.int 0)))) (eAlloc (fLc (iVal (eVar 7)) (gNm 9) (tOfB (eBin (pCmp .Eq) (eBin pIx (eVar 9) (eC (.int 0))) (eC (.str "array")))) (eBin (pBin .Add) (eC (.str "#")) (eBin pIx (eVar 9) (eC (.int 1)))) [9]))))
  sNil))) sNil)
  sNil)
def mvL (k : Nat) : EM Src := (iVal (eCall 1 (callP pg k "_law_statements") (aCons (eBin pIx (eVar 2) (eC (.int 8))) aNil)))
theorem moves_eq {k : Nat} : m__law_moves k = (sCons (sSet 1 dictNew)
  (sCons (sFor (iVal (eVar 0)) (gNm 2) (sCons (sSet 3 (eA mkLst aNil)) (sCons (sFor (mvL k) (gNm 4) mvA) (sCons mvB sNil))))
  (sCons (sFor (iRng1' (aCons (eC (.int 20)) aNil)) (gNm 5) (sCons (sFor (iVal (eVar 0)) (gNm 2) (sCons (sFor (mvL k) (gNm 4) (mvC k)) sNil)) sNil))
  (sCons (sRet (eVar 1)) sNil)))) := rfl
/-- the state of the loop that collects keys -/
def KI (core : List Pr) (m : Nat) (p : Pr) (ls : Nat) (sb : Sto) (j : Nat) (E : Ev) (S : Sto) : Prop :=
  ∃ (lk : Nat) (o4 : Option D), E = [some (.tup (core.map Pr.d)), some (.loc m), some p.d, some (.loc lk), o4, none, none, none, none, none, none, none] ∧ Kp sb S ∧ sb.length ≤ lk ∧ lk ≠ ls ∧ S[ls]? = some (.lst ((Sm.allL p.body).map Sm.d)) ∧ S[lk]? = some (.lst ((((Sm.allL p.body).take j).flatMap Sm.keys).map D.str))
theorem keys_loop {core : List Pr} (W : WF core) {m : Nat} {p : Pr} {ls : Nat} {sb S0 : Sto} {E : Ev} (hp : p ∈ core) (h0 : KI core m p ls sb 0 E S0) {P : Post} (hz : ∀ E S, KI core m p ls sb (Sm.allL p.body).length E S → P.nx E S) : (forS (gNm 4) mvA (.lst ls) E S0).to P := by
  have hlen := W.len p hp
  have has := W.as p hp
  refine forLst (xs := (Sm.allL p.body).map Sm.d) (KI core m p ls sb) (by rw [List.length_map]; unfold fuelMax; omega) ?_ h0 ?_ ?_
  · rintro j E S ⟨lk, o4, rfl, _, _, _, h, _⟩
    exact h
  · rintro j d E S hd ⟨lk, o4, rfl, hk, hlb, hne, hls, hlk⟩
    obtain ⟨st, hst, rfl⟩ := map_at hd
    have hsh := (W.ok p hp st (List.mem_of_getElem? hst)).2
    have hlt : (((Sm.allL p.body).take (j + 1)).flatMap Sm.keys).length ≤ (assigned p).length := by
      unfold assigned
      have : (Sm.allL p.body).flatMap Sm.keys = ((Sm.allL p.body).take (j + 1)).flatMap Sm.keys ++ ((Sm.allL p.body).drop (j + 1)).flatMap Sm.keys := by rw [← List.flatMap_append, List.take_append_drop]
      rw [this, List.length_append]; omega
    have hcut : ((Sm.allL p.body).take (j + 1)).flatMap Sm.keys = ((Sm.allL p.body).take j).flatMap Sm.keys ++ st.keys := by rw [List.take_add_one, hst]; simp
    have step : ∀ (E : Ev) (S : Sto), (∃ (lk : Nat) (o4 : Option D), E = [some (.tup (core.map Pr.d)), some (.loc m), some p.d, some (.loc lk), o4, none, none, none, none, none, none, none] ∧ Kp sb S ∧ sb.length ≤ lk ∧ lk ≠ ls ∧ S[ls]? = some (.lst ((Sm.allL p.body).map Sm.d)) ∧ S[lk]? = some (.lst ((((Sm.allL p.body).take j).flatMap Sm.keys ++ st.keys).map D.str))) → KI core m p ls sb (j + 1) E S := fun E S h => by
      unfold KI; rw [hcut]; exact h
    rw [hcut, List.length_append] at hlt
    generalize KI core m p ls sb (j + 1) = Z at step ⊢
    generalize ((Sm.allL p.body).take j).flatMap Sm.keys = A at hlt hlk step
    have llt := (List.getElem?_eq_some_iff.mp hlk).1
    have lst := (List.getElem?_eq_some_iff.mp hls).1
    unfold mvA
    cases st with
    | pause => simp [Sm.d, ofString_inj]; exact step _ _ ⟨lk, _, rfl, hk, hlb, hne, hls, by simpa [Sm.keys] using hlk⟩
    | store a e f => simp [Sm.d, ofString_inj]; exact step _ _ ⟨lk, _, rfl, hk, hlb, hne, hls, by simpa [Sm.keys] using hlk⟩
    | whl c b => simp [Sm.d, ofString_inj]; exact step _ _ ⟨lk, _, rfl, hk, hlb, hne, hls, by simpa [Sm.keys] using hlk⟩
    | ite c b1 b2 => simp [Sm.d, ofString_inj]; exact step _ _ ⟨lk, _, rfl, hk, hlb, hne, hls, by simpa [Sm.keys] using hlk⟩
    | give es => simp [Sm.d, ofString_inj]; exact step _ _ ⟨lk, _, rfl, hk, hlb, hne, hls, by simpa [Sm.keys] using hlk⟩
    | push e a =>
      have hx : (Str.ofString "#").length + a.length ≤ sizeLine := sz' (by have : a.length ≤ 30 := hsh; rw [l2]; omega)
      simp [Sm.d, ofString_inj, meth_append (xs := A.map D.str) hlk, mAppend_ap (xs := A.map D.str) hlk, hx, sz (show A.length < 100000 by omega)]
      refine step _ _ ⟨lk, _, rfl, hk.set hlb, hlb, hne, ?_, ?_⟩
      · rw [List.getElem?_set_ne hne]; exact hls
      · rw [List.getElem?_set_self llt]; simp [Sm.keys]
    | call q as ts =>
      simp [Sm.keys] at hlt
      simp [Sm.d, ofString_inj]
      rw [pAdd_loc (xs := A.map D.str) (ys := ts.map D.str) (by rw [get_lt llt]; exact hlk) (by simp) (sz' (by simp; omega))]
      simp
      refine step _ _ ⟨S.length + 1, _, rfl, hk.trans Kp.app, by have := hk.1; omega, by omega, ?_, ?_⟩
      · rw [get_lt lst]; exact hls
      · rw [get_len_add]; simp [Sm.keys]
    | pop x a =>
      have hx : (Str.ofString "#").length + a.length ≤ sizeLine := sz' (by have : a.length ≤ 30 := hsh; rw [l2]; omega)
      have z2 : 2 ≤ sizeLine := sz' (by decide)
      simp [Sm.keys] at hlt
      simp [Sm.d, ofString_inj, hx, z2]
      rw [pAdd_loc (xs := A.map D.str) (ys := [.str x, .str (("#" : Str) ++ a)]) (by rw [get_lt llt]; exact hlk) (by simp) (sz' (by simp; omega))]
      simp
      refine step _ _ ⟨S.length + 1, _, rfl, hk.trans Kp.app, by have := hk.1; omega, by omega, ?_, ?_⟩
      · rw [get_lt lst]; exact hls
      · rw [get_len_add]; simp [Sm.keys]
    | set q =>
      simp [Sm.keys] at hlt
      simp [Sm.d, ofString_inj, setD]
      rw [compFix_on (F := fun p : Str × Ex => .tup [.str p.1, p.2.d]) (f := fun p => some (.str p.1)) (sz' (by omega))]
      · simp
        rw [pAdd_loc (xs := A.map D.str) (ys := q.map fun p => .str p.1) (by rw [get_lt llt]; exact hlk) (by simp) (sz' (by simp; omega))]
        simp
        refine step _ _ ⟨S.length + 1, _, rfl, hk.trans Kp.app, by have := hk.1; omega, by omega, ?_, ?_⟩
        · rw [get_lt lst]; exact hls
        · rw [get_len_add]; simp [Sm.keys]
      · intro r hr
        unfold turnC
        simp [noX, Res.ofO]
  · intro E S h
    rw [List.length_map] at h
    exact hz E S h
/-- the state of the loop that makes the first table -/
def KO (core : List Pr) (s : Sto) (i : Nat) (E : Ev) (S : Sto) : Prop :=
  ∃ (L : Str → Nat) (o2 o3 o4 : Option D), E = [some (.tup (core.map Pr.d)), some (.loc s.length), o2, o3, o4, none, none, none, none, none, none, none] ∧ Kp s S ∧ S[s.length]? = some (.dic ((core.take i).map fun p => ((.inr p.name : Key), D.loc (L p.name)))) ∧ (∀ p ∈ core.take i, s.length < L p.name ∧ S[L p.name]? = some (.lst ((assigned p).map D.str))) ∧ (∀ p ∈ core.take i, ∀ q ∈ core.take i, L p.name = L q.name → p.name = q.name)
theorem new_name {core : List Pr} (nd : (core.map Pr.name).Nodup) {i : Nat} {p : Pr} (hi : core[i]? = some p) : ∀ q ∈ core.take i, q.name ≠ p.name := fun q hq e => by
  rw [← List.take_append_drop i core, List.map_append, List.nodup_append] at nd
  have hpd : p ∈ core.drop i := List.mem_of_getElem? (i := 0) (by rw [List.getElem?_drop]; simpa using hi)
  exact nd.2.2 q.name (List.mem_map.mpr ⟨q, hq, rfl⟩) p.name (List.mem_map.mpr ⟨p, hpd, rfl⟩) e
theorem put_new {core : List Pr} {L : Str → Nat} {i l : Nat} {p : Pr} (hi : core[i]? = some p) (hnew : ∀ q ∈ core.take i, q.name ≠ p.name) :
    putA ((core.take i).map fun p => ((.inr p.name : Key), D.loc (L p.name))) (.inr p.name) (.loc l) = (core.take (i + 1)).map fun q => ((.inr q.name : Key), D.loc (upN L p.name l q.name)) := by
  have e1 : ((core.take i).map fun p => ((.inr p.name : Key), D.loc (L p.name))) = (core.take i).map fun q => ((.inr q.name : Key), D.loc (upN L p.name l q.name)) := List.map_congr_left fun q hq => by rw [upN_ne (hnew q hq)]
  rw [List.take_add_one, hi, List.map_append, e1]
  simp only [Option.toList_some, List.map_cons, List.map_nil, upN_same]
  unfold putA
  rw [if_neg]
  intro h
  obtain ⟨x, hx, hx2⟩ := List.any_eq_true.mp h
  obtain ⟨q, hq, rfl⟩ := List.mem_map.mp hx
  simp at hx2
  exact hnew q hq hx2
theorem keys_turn {core : List Pr} (W : WF core) {n k : Nat} {s : Sto} (hn : 8 < n) {i : Nat} {E : Ev} {S : Sto} {p : Pr} (hi : core[i]? = some p) (h : KO core s i E S) {P : Post} (hz : ∀ E S, KO core s (i + 1) E S → P.nx E S) :
    ((sCons (sSet 3 (eA mkLst aNil)) (sCons (sFor (mvL (n + k)) (gNm 4) mvA) (sCons mvB sNil))) (E.set 2 (some p.d)) S).to P := by
  obtain ⟨L, o2, o3, o4, rfl, hk, hd, h1, h2⟩ := h
  have hp := List.mem_of_getElem? hi
  have hnew := new_name W.nd hi
  have z0 : 0 ≤ sizeLine := Nat.zero_le _
  have hlen := W.len p hp
  have hS : s.length < S.length := (List.getElem?_eq_some_iff.mp hd).1
  simp [z0, mvL]
  rw [pr_d p]
  simp
  rw [← pr_d p]
  refine Res.to_imp (lstmts_ok n k p.body _ (by have := W.dep p hp; omega) (by omega)) fun d S1 hF => ?_
  obtain ⟨ls, rfl, hl0, hk1, hls⟩ := hF.kp
  simp at hl0
  simp [hls]
  refine keys_loop W (sb := S) hp ⟨S.length, _, rfl, Kp.app.trans hk1, Nat.le_refl _, by omega, hls, ?_⟩ ?_
  · simpa using hk1.get (k := S.length) (o := .lst []) (by simp)
  · rintro E S2 ⟨lk, o4, rfl, hk2, hlb, hne, hls2, hlk⟩
    rw [List.take_length] at hlk
    have hd2 := hk2.get hd
    have hlt2 := (List.getElem?_eq_some_iff.mp hlk).1
    have hz1 : (core.take i).length < sizeLine := sz (by rw [List.length_take]; have := W.two; omega)
    have hmin : min i core.length < sizeLine := sz (by have := W.two; omega)
    unfold mvB
    simp only [st_cons, st_asg, gSb, eVar_ap]
    simp [ix_name, hd2, hz1, hmin]
    refine hz _ _ ⟨upN L p.name lk, _, _, _, rfl, (hk.trans hk2).set (Nat.le_refl _), ?_, fun q hq => ?_, fun q hq r hr e => ?_⟩
    · rw [List.getElem?_set_self (by have := hk2.1; omega)]
      have := put_new (L := L) (l := lk) hi hnew
      simp at this ⊢
      rw [this]
    · rw [List.take_add_one, hi] at hq
      rcases List.mem_append.mp hq with hq | hq
      · rw [upN_ne (hnew q hq)]
        obtain ⟨a, b⟩ := h1 q hq
        exact ⟨a, by rw [List.getElem?_set_ne (by omega)]; exact hk2.get b⟩
      · simp at hq
        subst hq
        rw [upN_same]
        exact ⟨by omega, by rw [List.getElem?_set_ne (by omega)]; exact hlk⟩
    · have old : ∀ q ∈ core.take i, L q.name < S.length := fun q hq => (List.getElem?_eq_some_iff.mp (h1 q hq).2).1
      rw [List.take_add_one, hi] at hq hr
      rcases List.mem_append.mp hq with hq | hq
      · rw [upN_ne (hnew q hq)] at e
        have oq := old q hq
        rcases List.mem_append.mp hr with hr | hr
        · rw [upN_ne (hnew r hr)] at e
          exact h2 q hq r hr e
        · simp at hr; subst hr
          rw [upN_same] at e
          omega
      · simp at hq; subst hq
        rw [upN_same] at e
        rcases List.mem_append.mp hr with hr | hr
        · rw [upN_ne (hnew r hr)] at e
          have := old r hr; omega
        · simp at hr; subst hr; rfl
end K69

set_option Elab.async false
set_option linter.all false
set_option maxRecDepth 100000
set_option maxHeartbeats 4000000
namespace K69
open PySem L2 Y
theorem put_old {nms : List Str} {L : Str → Nat} {x : Str} {l : Nat} (hx : x ∈ nms) : putA (nms.map fun x => ((.inr x : Key), D.loc (L x))) (.inr x) (.loc l) = nms.map fun y => ((.inr y : Key), D.loc (upN L x l y)) := by
  unfold putA
  rw [if_pos]
  · rw [List.map_map]
    apply List.map_congr_left
    intro y _
    simp only [Function.comp]
    by_cases e : y = x
    · subst e; simp
    · have : ¬ ((.inr y : Key) = .inr x) := fun q => e (by injection q)
      rw [if_neg this, upN_ne e]
  · exact List.any_eq_true.mpr ⟨_, List.mem_map.mpr ⟨x, hx, rfl⟩, by simp⟩
theorem TS.rebind {s s1 : Sto} {m : Nat} {nms : List Str} {L : Str → Nat} {R : Row} (h : TS s m nms L R) {x : Str} (hx : x ∈ nms) {l : Nat} {rs : List Str} (hk : Kp s s1) (hl : s.length ≤ l) (hr : s1[l]? = some (.lst (rs.map D.str))) :
    TS (s1.set m (.dic (putA (nms.map fun x => ((.inr x : Key), D.loc (L x))) (.inr x) (.loc l)))) m nms (upN L x l) (upR R x rs) := by
  have hm := h.lt
  refine ⟨?_, fun y hy => ?_, fun y hy z hz e => ?_⟩
  · rw [List.getElem?_set_self (by have := hk.1; omega), put_old hx]
  · by_cases e : y = x
    · subst e
      rw [upN_same, upR_same, List.getElem?_set_ne (by omega)]; exact hr
    · rw [upN_ne e, upR_ne e, List.getElem?_set_ne (h.ne hy).symm]
      exact hk.get (h.row y hy)
  · by_cases e1 : y = x
    · by_cases e2 : z = x
      · rw [e1, e2]
      · rw [e1, upN_same, upN_ne e2] at e
        have := h.lt2 hz; omega
    · by_cases e2 : z = x
      · rw [e2, upN_same, upN_ne e1] at e
        have := h.lt2 hy; omega
      · rw [upN_ne e1, upN_ne e2] at e
        exact h.inj y hy z hz e
theorem round_pure {core : List Pr} (A : WA core) {R R1 : Row} {t : Nat} (h : Lst core R) (h1 : Lst core R1) (hle : LeR core R R1) (hp : ∀ p ∈ core, ∀ y ∈ passF core R p, y ∈ R1 p.name) (hc : Clo core R ∨ miss arrs core R + t ≤ 6) : Clo core R1 ∨ miss arrs core R1 + (t + 1) ≤ 6 := by
  have cl : Clo core R → Clo core R1 := fun c => by
    have back : LeR core R1 R := h1.least R h.has c
    exact fun p hp y hy => hle p hp y (c p hp y (passF_mono back hy))
  rcases hc with hc | hc
  · exact .inl (cl hc)
  · by_cases hm : miss arrs core R1 < miss arrs core R
    · exact .inr (by omega)
    · refine .inl (cl fun p hp' y hy => ?_)
      refine Classical.byContradiction fun z => hm (miss_lt hle hp' (passF_sub A hp' hy) z (hp p hp' y hy))
theorem range_get {α β : Type} {g : α → Option β} : ∀ l : List α, (List.range l.length).filterMap (fun i => (l[i]?).bind g) = l.filterMap g
  | [] => rfl
  | a :: l => by
    rw [List.length_cons, List.range_succ_eq_map, List.filterMap_cons, List.filterMap_map, List.filterMap_cons]
    have e : ((fun i => ((a :: l)[i]?).bind g) ∘ Nat.succ) = fun i => (l[i]?).bind g := by funext i; simp
    rw [e, range_get l]
    rfl
theorem ix_items {p : Pr} {s : Sto} : pIx p.d (.int 1) s = some (.tup (p.items.map itD), s) := by rw [pr_d]; simp
theorem rng0 {n : Nat} : rngD 0 (n : Int) = (List.range n).map fun i : Nat => D.int (i : Int) := by simp [rngD]
/-- the state of the loop of a round over statements -/
def SI (core : List Pr) (s : Sto) (m : Nat) (p : Pr) (ls : Nat) (R R1 : Row) (B : Nat) (j : Nat) (E : Ev) (S : Sto) : Prop :=
  ∃ (L : Str → Nat) (R2 : Row) (o3 o4 o5 o6 o7 : Option D), E = [some (.tup (core.map Pr.d)), some (.loc m), some p.d, o3, o4, o5, o6, o7, none, none, none, none] ∧ Kp s S ∧ S[ls]? = some (.lst ((Sm.allL p.body).map Sm.d)) ∧ ls ≠ m ∧ TS S m (core.map Pr.name) L R2 ∧ Lst core R2 ∧ LeR core R1 R2 ∧
    (∀ q ∈ core, (R2 q.name).length ≤ B + 3 * j) ∧ (∀ st ∈ (Sm.allL p.body).take j, ∀ y ∈ passS core R st, y ∈ R2 p.name)
theorem hand2 {R : Row} {f : Str} {ps : List It} {as : List Ag} (hf : ∀ q ∈ ps.zip as, Fit q.1 q.2) :
    (((ps.zip as).filterMap fun q => if keyF q.1 ∈ R f then some q.2 else none).filterMap fun a => match a with | .arr y => some (("#" : Str) ++ y) | .val _ => none) = handed R f ps as := by
  unfold handed
  rw [List.filterMap_filterMap]
  have : ∀ l : List (It × Ag), (∀ q ∈ l, Fit q.1 q.2) → l.filterMap (fun q => (if keyF q.1 ∈ R f then some q.2 else none).bind fun a => match a with | .arr y => some (("#" : Str) ++ y) | .val _ => none) = l.filterMap fun q => match q.2 with
    | .arr y => if q.1.1 = true ∧ keyF q.1 ∈ R f then some (("#" : Str) ++ y) else none
    | .val _ => none := fun l => by
    induction l with
    | nil => intro _; rfl
    | cons q r ih =>
      intro h
      rw [List.filterMap_cons, List.filterMap_cons, ih fun q hq => h q (List.mem_cons_of_mem _ hq)]
      have hq := h q List.mem_cons_self
      obtain ⟨i, a⟩ := q
      cases a with
      | arr y =>
        have : i.1 = true := hq.1
        simp only [this, true_and]
        by_cases hk : keyF i ∈ R f <;> simp [hk]
      | val e =>
        by_cases hk : keyF i ∈ R f <;> simp [hk]
  exact this _ hf
theorem ag_arr {y : Str} {s : Sto} : pIx (Ag.arr y).d (.int 0) s = some (.str "array", s) ∧ pIx (Ag.arr y).d (.int 1) s = some (.str y, s) := by
  constructor <;> simp [Ag.d]
theorem ex_kind (e : Ex) {s : Sto} : ∃ z : String, pIx e.d (.int 0) s = some (.str z, s) ∧ z ≠ "array" := by
  cases e with
  | num n => exact ⟨"number", by simp [Ex.d], by decide⟩
  | nm n => exact ⟨"name", by simp [Ex.d], by decide⟩
  | len n => exact ⟨"length", by simp [Ex.d], by decide⟩
  | item a n => exact ⟨"item", by simp [Ex.d], by decide⟩
  | quo r e n => cases r <;> simp [Ex.d] <;> first | exact ⟨"quotient", rfl, by decide⟩ | exact ⟨"remainder", rfl, by decide⟩
  | scl k e => exact ⟨"scale", by simp [Ex.d], by decide⟩
  | bin b e f => cases b <;> simp [Ex.d] <;> first | exact ⟨"plus", rfl, by decide⟩ | exact ⟨"minus", rfl, by decide⟩
theorem agF_eq (a : Ag) : ((fun d : D => match d with | .tup [.str x, .str y] => if x = Str.ofString "array" then some (D.str (Str.ofString "#" ++ y)) else none | _ => none) ∘ Ag.d) a = (match a with | .arr y => some (("#" : Str) ++ y) | .val _ => none).map D.str := by
  cases a with
  | arr y => rfl
  | val e =>
    cases e with
    | nm x => simp [Ag.d, Ex.d, ofString_inj]
    | len x => simp [Ag.d, Ex.d, ofString_inj]
    | _ => simp [Ag.d, Ex.d]
theorem round_turn {core : List Pr} (W : WF core) {k : Nat} {s : Sto} {m : Nat} {p : Pr} {ls : Nat} {R R1 : Row} {B j : Nat} {E : Ev} {S : Sto} {st : Sm} (hp : p ∈ core) (hms : s.length ≤ m) (hB : B ≤ 50000) (hR : LeR core R R1) (hst : (Sm.allL p.body)[j]? = some st) (h : SI core s m p ls R R1 B j E S) {P : Post} (hz : ∀ E S, SI core s m p ls R R1 B (j + 1) E S → P.nx E S) :
    (mvC (k + 1) (E.set 4 (some st.d)) S).to P := by
  obtain ⟨L, R2, o3, o4, o5, o6, o7, rfl, hk, hls, hlm, hT, hl, hle, hsz, hpa⟩ := h
  have hmem := List.mem_of_getElem? hst
  have hw := (W.ok p hp st hmem).1
  have hj : j < (Sm.allL p.body).length := (List.getElem?_eq_some_iff.mp hst).1
  have hlen := W.len p hp
  have hcut : (Sm.allL p.body).take (j + 1) = (Sm.allL p.body).take j ++ [st] := by rw [List.take_add_one, hst]; rfl
  have skip : (∀ y, y ∉ passS core R st) → ∀ o4, P.nx [some (.tup (core.map Pr.d)), some (.loc m), some p.d, o3, o4, o5, o6, o7, none, none, none, none] S := fun hno o4 => hz _ _ ⟨L, R2, o3, o4, o5, o6, o7, rfl, hk, hls, hlm, hT, hl, hle, fun q hq => by have := hsz q hq; omega, fun st' hst' y hy => by
    rw [hcut] at hst'
    rcases List.mem_append.mp hst' with hst' | hst'
    · exact hpa st' hst' y hy
    · rw [List.mem_singleton.mp hst'] at hy; exact absurd hy (hno y)⟩
  unfold mvC
  cases st with
  | call f as ts =>
    obtain ⟨q, hq, hfl, hf⟩ := hw
    obtain ⟨hqc, rfl⟩ := firstP_mem hq
    have hn : q.name ∈ core.map Pr.name := List.mem_map.mpr ⟨q, hqc, rfl⟩
    have hpn : p.name ∈ core.map Pr.name := List.mem_map.mpr ⟨p, hp, rfl⟩
    have hits := W.its q hqc
    simp [Sm.d, ofString_inj]
    rw [compFix_on (F := Pr.d) (f := fun r => if decide (r.name = q.name) = true then some r.d else none) (sz' (by have := W.two; omega))]
    · rw [filterMap_if]
      have e0 : (core.filter fun r => decide (r.name = q.name))[0]? = some q := hq
      simp [e0, ix_items]
      refine ⟨fitI_iff.mpr (by omega), ?_⟩
      rw [rng0]
      have T1 := hT.app (t := [O.lst (List.map Pr.d (List.filter (fun r => decide (r.name = q.name)) core))])
      have er := T1.row _ hn
      have ed := T1.dic
      have eg := T1.get hn
      have key : ∀ x, x ∈ core.map Pr.name → ∀ t, ixO (S ++ t)[m]? (.str x) = some (.loc (L x)) := fun x hx t => by
        rw [(hT.app (t := t)).dic, ixO_str, hT.get hx]
      have keyR : ∀ x, x ∈ core.map Pr.name → ∀ t, (S ++ t)[L x]? = some (.lst ((R2 x).map D.str)) := fun x hx t => (hT.app (t := t)).row x hx
      rw [compFix_on (F := fun i : Nat => D.int (i : Int)) (l := List.range q.items.length) (f := fun i => ((q.items.zip as)[i]?).bind fun z => if keyF z.1 ∈ R2 q.name then some z.2.d else none) (sz' (by rw [List.length_range]; omega))]
      · have hzl : (q.items.zip as).length = q.items.length := by rw [List.length_zip]; omega
        rw [← hzl, range_get]
        have e2 : (q.items.zip as).filterMap (fun z => if keyF z.1 ∈ R2 q.name then some z.2.d else none) = ((q.items.zip as).filterMap fun z => if keyF z.1 ∈ R2 q.name then some z.2 else none).map Ag.d := by
          rw [List.map_filterMap]
          congr 1
          funext z
          split <;> rfl
        rw [e2]
        have hpl : ((q.items.zip as).filterMap fun z => if keyF z.1 ∈ R2 q.name then some z.2 else none).length ≤ 3 := by
          refine Nat.le_trans (List.length_filterMap_le _ _) (by omega)
        have h2 := hand2 (R := R2) (f := q.name) hf
        generalize hZ : ((q.items.zip as).filterMap fun z => if keyF z.1 ∈ R2 q.name then some z.2 else none) = Z at hpl h2 ⊢
        simp [ix_name, key _ hpn]
        rw [compLst_map (f := fun d => match d with | .tup [.str x, .str y] => if x = Str.ofString "array" then some (.str (Str.ofString "#" ++ y)) else none | _ => none) (xs := Z.map Ag.d) (by simp) (sz (by simp; omega))]
        · have e3 : (Z.map Ag.d).filterMap (fun d => match d with | .tup [.str x, .str y] => if x = Str.ofString "array" then some (D.str (Str.ofString "#" ++ y)) else none | _ => none) = (handed R2 q.name q.items as).map D.str := by
            rw [← h2, List.filterMap_map, List.map_filterMap]
            congr 1
            funext a
            exact agF_eq a
          rw [e3]
          have hhl := handed_len (R := R2) (f := q.name) (ps := q.items) (as := as)
          have hrl := hsz p hp
          simp
          rw [pAdd_loc (xs := (R2 p.name).map D.str) (ys := (handed R2 q.name q.items as).map D.str) (by simpa using keyR p.name hpn _) (by rw [get_len_add]; rfl) (sz' (by simp; omega))]
          simp [ix_name]
          have T2 := (hT.rebind (x := p.name) (s1 := S ++ [O.lst (List.map Pr.d (List.filter (fun r => decide (r.name = q.name)) core)), O.lst (Z.map Ag.d), O.lst ((handed R2 q.name q.items as).map D.str), O.lst ((R2 p.name).map D.str ++ (handed R2 q.name q.items as).map D.str)]) hpn (l := S.length + 3) (rs := R2 p.name ++ handed R2 q.name q.items as) Kp.app (by omega) (by rw [get_len_add]; simp))
          refine ⟨_, ?_, hz _ _ ⟨_, _, _, _, _, _, _, rfl, (hk.trans (Kp.app (t := _))).set hms, ?_, hlm, T2, ?_, ?_, ?_, ?_⟩⟩
          · rw [(hT.app (t := _)).dic, setO_str, if_pos (sz (by rw [List.length_map, List.length_map]; have := W.two; omega))]
          · rw [List.getElem?_set_ne (Ne.symm hlm), get_lt (List.getElem?_eq_some_iff.mp hls).1]; exact hls
          · refine hl.grow hp fun y hy => List.mem_flatMap.mpr ⟨_, hmem, ?_⟩
            simp only [passS, hq]; exact hy
          · exact hle.trans LeR.grow
          · intro r hr
            by_cases e : r.name = p.name
            · rw [e, upR_same, List.length_append]; omega
            · rw [upR_ne e]; have := hsz r hr; omega
          · intro st' hst' y hy
            rw [hcut] at hst'
            rw [upR_same]
            rcases List.mem_append.mp hst' with hst' | hst'
            · exact List.mem_append_left _ (hpa st' hst' y hy)
            · rw [List.mem_singleton.mp hst'] at hy
              have := passS_mono (hR.trans hle) hy
              simp only [passS, hq] at this
              exact List.mem_append_right _ this
        · intro d hd
          obtain ⟨a, ha, rfl⟩ := List.mem_map.mp hd
          have hshort : ∀ y, a = .arr y → y.length ≤ 30 := fun y e => by
            subst e
            have hm : Ag.arr y ∈ (q.items.zip as).filterMap fun z => if keyF z.1 ∈ R2 q.name then some z.2 else none := hZ ▸ ha
            obtain ⟨z, hz1, hz2⟩ := List.mem_filterMap.mp hm
            split at hz2
            · have := hf z hz1
              simp only [Option.some.injEq] at hz2
              rw [hz2] at this
              exact this.2
            · cases hz2
          have e1 : (match a.d with | .tup [.str x, .str y] => if x = Str.ofString "array" then some (D.str (Str.ofString "#" ++ y)) else none | _ => none) = (match a with | .arr y => some (("#" : Str) ++ y) | .val _ => none).map D.str := agF_eq a
          rw [e1]
          unfold turnC
          cases a with
          | arr y =>
            have hx : (Str.ofString "#").length + y.length ≤ sizeLine := sz' (by have := hshort y rfl; rw [l2]; omega)
            simp [noX, Res.ofO, Ag.d, hx]
          | val e =>
            obtain ⟨z, hz1, hz2⟩ := ex_kind e (s := S ++ [O.lst (List.map Pr.d (List.filter (fun r => decide (r.name = q.name)) core)), O.lst (List.map Ag.d Z)])
            simp [noX, Res.ofO, Ag.d, hz1, ofString_inj, hz2]
      · intro i hi
        rw [List.mem_range] at hi
        obtain ⟨it, hit⟩ : ∃ it, q.items[i]? = some it := ⟨q.items[i], List.getElem?_eq_getElem hi⟩
        obtain ⟨a, ha⟩ : ∃ a, as[i]? = some a := ⟨as[i]'(by omega), List.getElem?_eq_getElem (by omega)⟩
        have hz : (q.items.zip as)[i]? = some (it, a) := List.getElem?_zip_eq_some.mpr ⟨hit, ha⟩
        have h30 := hits.2.2 it (List.mem_append_left _ (List.mem_of_getElem? hit))
        have hv := fun (st : Sto) => lkey_ok (k := k) (s := st) h30
        unfold turnC
        simp [noX, Res.ofO, Y.atI_nat, hit, ha, hz, hv, key _ hn, pIn_locS (keyR _ hn _)]
        by_cases h : keyF it ∈ R2 q.name <;> simp [h]
    · intro r hr
      unfold turnC
      simp [noX, Res.ofO, ix_name]
      by_cases h : r.name = q.name <;> simp [h]
  | pause => simp [Sm.d, ofString_inj]; exact skip (by simp [passS]) _
  | push e a => simp [Sm.d, ofString_inj]; exact skip (by simp [passS]) _
  | store a e f => simp [Sm.d, ofString_inj]; exact skip (by simp [passS]) _
  | pop x a => simp [Sm.d, ofString_inj]; exact skip (by simp [passS]) _
  | whl c b => simp [Sm.d, ofString_inj]; exact skip (by simp [passS]) _
  | ite c b1 b2 => simp [Sm.d, ofString_inj]; exact skip (by simp [passS]) _
  | set q => simp [Sm.d, ofString_inj]; exact skip (by simp [passS]) _
  | give es => simp [Sm.d, ofString_inj]; exact skip (by simp [passS]) _
end K69

set_option Elab.async false
set_option linter.all false
set_option maxRecDepth 100000
set_option maxHeartbeats 4000000
namespace K69
open PySem L2 Y
/-- the state of the loop of a round over procedures -/
def RI (core : List Pr) (s : Sto) (m : Nat) (R : Row) (B : Nat) (i : Nat) (E : Ev) (S : Sto) : Prop :=
  ∃ (L : Str → Nat) (R1 : Row) (o2 o3 o4 o5 o6 o7 : Option D), E = [some (.tup (core.map Pr.d)), some (.loc m), o2, o3, o4, o5, o6, o7, none, none, none, none] ∧ Kp s S ∧ TS S m (core.map Pr.name) L R1 ∧ Lst core R1 ∧ LeR core R R1 ∧
    (∀ q ∈ core, (R1 q.name).length ≤ B + 600 * i) ∧ (∀ p ∈ core.take i, ∀ y ∈ passF core R p, y ∈ R1 p.name)
/-- the state of the rounds -/
def TI (core : List Pr) (s : Sto) (m : Nat) (t : Nat) (E : Ev) (S : Sto) : Prop :=
  ∃ (L : Str → Nat) (R : Row) (o2 o3 o4 o5 o6 o7 : Option D), E = [some (.tup (core.map Pr.d)), some (.loc m), o2, o3, o4, o5, o6, o7, none, none, none, none] ∧ Kp s S ∧ TS S m (core.map Pr.name) L R ∧ Lst core R ∧
    (∀ q ∈ core, (R q.name).length ≤ 1000 + 1200 * t) ∧ (Clo core R ∨ miss arrs core R + t ≤ 6)
theorem proc_turn {core : List Pr} (W : WF core) {n k : Nat} {s : Sto} {m : Nat} (hn : 8 < n) (hms : s.length ≤ m) {p : Pr} {R : Row} {B i : Nat} {E : Ev} {S : Sto} (hB : B ≤ 40000) (hi : core[i]? = some p) (h : RI core s m R B i E S) {P : Post} (hz : ∀ E S, RI core s m R B (i + 1) E S → P.nx E S) :
    (sCons (sFor (mvL (n + k + 1)) (gNm 4) (mvC (n + k + 1))) sNil (E.set 2 (some p.d)) S).to P := by
  obtain ⟨L, R1, o2, o3, o4, o5, o6, o7, rfl, hk, hT, hl, hle, hsz, hpa⟩ := h
  have hp := List.mem_of_getElem? hi
  have hlen := W.len p hp
  have htwo := W.two
  have hilt : i < core.length := (List.getElem?_eq_some_iff.mp hi).1
  simp [mvL]
  rw [pr_d p]
  simp
  rw [← pr_d p]
  refine Res.to_imp (lstmts_ok n (k + 1) p.body _ (by have := W.dep p hp; omega) (by omega)) fun d S1 hF => ?_
  obtain ⟨ls, rfl, hl0, hk1, hls⟩ := hF.kp
  simp [hls]
  have hmS := hT.lt
  refine forLst (xs := (Sm.allL p.body).map Sm.d) (SI core s m p ls R R1 (B + 600 * i)) (by rw [List.length_map]; unfold fuelMax; omega) ?_ ?_ ?_ ?_
  · rintro j E S ⟨L, R2, o3, o4, o5, o6, o7, rfl, _, h, _⟩
    exact h
  · exact ⟨L, R1, _, _, _, _, _, rfl, hk.trans hk1, hls, by omega, hT.kp hk1, hl, LeR.refl, fun q hq => by have := hsz q hq; omega, by simp⟩
  · rintro j d E S2 hd h
    obtain ⟨st, hst, rfl⟩ := map_at hd
    simp only [gNm_ap]
    have hE : 4 < E.length := by obtain ⟨L, R2, o3, o4, o5, o6, o7, rfl, _⟩ := h; simp
    first
    | exact round_turn W (k := n + k) hp hms (by omega) hle hst h fun E S h => h
    | (simp [hE]; exact round_turn W (k := n + k) hp hms (by omega) hle hst h fun E S h => h)
  · rintro E S2 ⟨L2, R2, o3, o4, o5, o6, o7, rfl, hk2, _, _, hT2, hl2, hle2, hsz2, hpa2⟩
    rw [List.length_map] at hsz2 hpa2
    rw [List.take_length] at hpa2
    refine hz _ _ ⟨L2, R2, _, _, _, _, _, _, rfl, hk2, hT2, hl2, hle.trans hle2, fun q hq => ?_, fun q hq y hy => ?_⟩
    · have := hsz2 q hq; omega
    · rw [List.take_add_one, hi] at hq
      rcases List.mem_append.mp hq with hq | hq
      · exact hle2 q (List.mem_of_mem_take hq) y (hpa q hq y hy)
      · simp at hq; subst hq
        obtain ⟨st, h1, h2⟩ := List.mem_flatMap.mp hy
        exact hpa2 st h1 y h2
theorem ltable_ok {core : List Pr} (W : WF core) (A : WA core) {n k : Nat} {s : Sto} (hn : 8 < n) : (callP pg (n + k + 2) "_law_moves" [.tup (core.map Pr.d)] s).to (TabQ core s) NoX := by
  rw [c__law_moves, moves_eq]
  apply gc_to
  have htwo := W.two
  have hb : ∀ R, miss arrs core R ≤ 6 := miss_bd W A
  simp
  refine forFix (KO core s) ⟨fun _ => 0, none, none, none, rfl, Kp.app, by simp, by simp, by simp⟩ ?_ ?_
  · rintro i d E S hd h
    obtain ⟨p, hi, rfl⟩ := map_at hd
    have hE : 2 < E.length := by obtain ⟨L, o2, o3, o4, rfl, _⟩ := h; simp
    simp only [gNm_ap, hE, if_true, to_ok]
    exact keys_turn W (n := n) (k := k + 1) hn hi h fun E S h => h
  · rintro E S ⟨L, o2, o3, o4, rfl, hk, hd, h1, h2⟩
    rw [List.length_map, List.take_length] at *
    have T0 : TS S s.length (core.map Pr.name) L (row0 core) := by
      refine ⟨by rw [hd, List.map_map]; rfl, fun x hx => ?_, fun x hx y hy e => ?_⟩
      · obtain ⟨p, hp, rfl⟩ := List.mem_map.mp hx
        rw [row0_of W.nd hp]; exact (h1 p hp).2
      · obtain ⟨p, hp, rfl⟩ := List.mem_map.mp hx
        obtain ⟨q, hq, rfl⟩ := List.mem_map.mp hy
        exact h2 p hp q hq e
    simp
    have e20 : rngD 0 20 = (List.range 20).map fun i : Nat => D.int (i : Int) := rng0 (n := 20)
    rw [e20]
    refine forFix (TI core s s.length) ⟨L, row0 core, _, _, _, _, _, _, rfl, hk, T0, lst0 W.nd, fun q hq => ?_, .inr (by have := hb (row0 core); omega)⟩ ?_ ?_
    · rw [row0_of W.nd hq]; have := W.as q hq; omega
    · rintro t d E S ht h
      obtain ⟨_, ht2, rfl⟩ := map_at ht
      have ht3 : t < 20 := by have := (List.getElem?_eq_some_iff.mp ht2).1; simpa using this
      obtain ⟨L, R, o2, o3, o4, o5, o6, o7, rfl, hk, hT, hl, hsz, hc⟩ := h
      simp
      refine forFix (RI core s s.length R (1000 + 1200 * t)) ⟨L, R, _, _, _, _, _, _, rfl, hk, hT, hl, LeR.refl, fun q hq => by have := hsz q hq; omega, by simp⟩ ?_ ?_
      · rintro i d E S hd h
        obtain ⟨p, hi, rfl⟩ := map_at hd
        have hE : 2 < E.length := by obtain ⟨L, R1, o2, o3, o4, o5, o6, o7, rfl, _⟩ := h; simp
        simp only [gNm_ap, hE, if_true, to_ok]
        exact proc_turn W (n := n) (k := k) hn (Nat.le_refl _) (by omega) hi h fun E S h => h
      · rintro E S ⟨L, R1, o2, o3, o4, o5, o6, o7, rfl, hk, hT, hl1, hle, hsz1, hpa⟩
        rw [List.length_map] at hsz1 hpa
        rw [List.take_length] at hpa
        exact ⟨L, R1, _, _, _, _, _, _, rfl, hk, hT, hl1, fun q hq => by have := hsz1 q hq; omega, round_pure A hl hl1 hle hpa hc⟩
    · rintro E S ⟨L, R, o2, o3, o4, o5, o6, o7, rfl, hk, hT, hl, hsz, hc⟩
      simp at hc
      simp
      exact TabQ.gc ⟨s.length, L, R, rfl, hk, Nat.le_refl _, hT, hl, hc⟩
end K69

set_option Elab.async false
set_option linter.all false
set_option maxRecDepth 100000
set_option maxHeartbeats 4000000
namespace K69
open PySem L2 Y
def wfE (NM : List Str) : Sm → Prop
  | .whl c _ => c.dep ≤ 3 ∧ c.comps.length ≤ 4 ∧ ∀ q ∈ c.comps, q.2.1.ok NM ∧ q.2.2.ok NM ∧ q.2.1.dep ≤ 3 ∧ q.2.2.dep ≤ 3
  | .ite c _ _ => c.dep ≤ 3 ∧ c.comps.length ≤ 4 ∧ ∀ q ∈ c.comps, q.2.1.ok NM ∧ q.2.2.ok NM ∧ q.2.1.dep ≤ 3 ∧ q.2.2.dep ≤ 3
  | .set l => l.length ≤ 2 ∧ ∀ r ∈ l, r.1 ∈ NM ∧ r.2.ok NM ∧ r.2.dep ≤ 3
  | _ => True
structure WE (NM : List Str) (p : Pr) : Prop where
  nm : NM.length < 60
  ne : ∀ x ∈ NM, sOk x = true ∧ 0 < x.length
  its : ∀ i ∈ p.items, keyF i ∈ NM ∧ (("@" : Str) ++ keyF i) ∈ NM
  pls : ∀ i ∈ p.places, keyF i ∈ NM
  st : ∀ s ∈ Sm.allL p.body, wfE NM s
  hs : p.hints.length ≤ 100 ∧ ∀ f ∈ p.hints, ∀ q ∈ f.2, sOk q.1 = true
def cmpsS (st : List Str) : Sm → List Fm
  | .whl c _ => c.comps.flatMap (cmpF st)
  | .ite c _ _ => c.comps.flatMap (cmpF st)
  | _ => []
def setsS (st : List Str) : Sm → List Fm
  | .set l => l.flatMap (setF st)
  | _ => []
def movF (p : Pr) (Tn : List Str) : List It := p.items.filter fun i => decide (keyF i ∈ Tn)
def candL (p : Pr) (Tn : List Str) : List Fm :=
  (statesF p Tn).map varF ++ (movF p Tn).flatMap diffF ++ (Sm.allL p.body).flatMap (cmpsS (statesF p Tn)) ++ (Sm.allL p.body).flatMap (setsS (statesF p Tn)) ++ p.hints
def candF (p : Pr) (Tn : List Str) : List Fm := (candL p Tn).foldl addF [mOne]
theorem mov_congr {p : Pr} {Tn Tm : List Str} (h : ∀ y, y ∈ Tn ↔ y ∈ Tm) : movF p Tn = movF p Tm := by
  unfold movF
  congr 1
  funext i
  simp [h]
theorem states_congr {p : Pr} {Tn Tm : List Str} (h : ∀ y, y ∈ Tn ↔ y ∈ Tm) : statesF p Tn = statesF p Tm := by
  have := mov_congr (p := p) h
  unfold movF at this
  unfold statesF
  rw [this]
theorem states_nm {NM : List Str} {p : Pr} (W : WE NM p) {Tn : List Str} : ∀ x ∈ statesF p Tn, x ∈ NM := fun x hx => by
  unfold statesF at hx
  obtain ⟨i, hi, rfl⟩ := List.mem_map.mp hx
  rcases List.mem_append.mp hi with hi | hi
  · exact (W.its i (List.mem_filter.mp hi).1).1
  · exact W.pls i hi
theorem statesof_ok {core : List Pr} (W : WF core) (A : WA core) {n k : Nat} {s : Sto} (hn : 8 < n) {p : Pr} (hp : p ∈ core) :
    ∃ R : Row, (Lst core R ∧ Clo core R) ∧ callP pg (n + k + 4) "states_of" [.tup (core.map Pr.d), .str p.name] s = .ok (.tup ((statesF p (R p.name)).map D.str)) s := by
  have hpn : p.name ∈ core.map Pr.name := List.mem_map.mpr ⟨p, hp, rfl⟩
  have hi := W.its p hp
  have e1 := pnamed_ok (k := n + k + 2) (ps := core) (x := p.name) (p := p) (s := s) (by have := W.two; omega) (firstP_of W.nd hp)
  obtain ⟨d, s1, e2, m, L, R, rfl, hk, hm, hT, hl, hc⟩ := Res.to_ex (mtable_ok W A (n := n) (k := k + 1) (s := s) hn)
  refine ⟨R, ⟨hl, hc⟩, ?_⟩
  rw [c_states_of]
  refine gc_pure (by simp only [D.cl]; exact clL_map D.str (fun _ => rfl) _) ?_
  unfold m_states_of
  have e3 := states_ok (k := n + k) (p := p) (s := s1) hi.2.2 (by omega) (by omega) hT.dic (hT.get hpn) (hT.row _ hpn)
  rw [show n + (k + 1) + 2 = n + k + 3 by omega] at e2
  simp [e1, e2, e3]
  exact hk.eq
theorem cmpF_len {st : List Str} {c : Cmp} : (cmpF st c).length ≤ 4 := by
  unfold cmpF
  split <;> simp [pairF]
theorem setF_len {st : List Str} {c : Str × Ex} : (setF st c).length ≤ 2 := by
  unfold setF
  split
  · split <;> simp [pairF]
  · simp
theorem cmpsS_len {NM st : List Str} {s : Sm} (h : wfE NM s) : (cmpsS st s).length ≤ 16 := by
  cases s with
  | whl c b =>
    have := flat_len (f := cmpF st) (n := 4) (l := c.comps) fun a _ => cmpF_len
    have := h.2.1
    simp only [cmpsS]; omega
  | ite c b1 b2 =>
    have := flat_len (f := cmpF st) (n := 4) (l := c.comps) fun a _ => cmpF_len
    have := h.2.1
    simp only [cmpsS]; omega
  | _ => simp [cmpsS]
theorem setsS_len {NM st : List Str} {s : Sm} (h : wfE NM s) : (setsS st s).length ≤ 4 := by
  cases s with
  | set l =>
    have := flat_len (f := setF st) (n := 2) (l := l) fun a _ => setF_len
    have := h.1
    simp only [setsS]; omega
  | _ => simp [setsS]
theorem diff_len : ∀ l : List It, (l.flatMap diffF).length = 2 * l.length
  | [] => rfl
  | a :: r => by rw [List.flatMap_cons, List.length_append, diff_len r]; simp [diffF, pairF]; omega
theorem take_flat {α β : Type} {f : α → List β} {l : List α} {i : Nat} {a : α} (h : l[i]? = some a) : (l.take (i + 1)).flatMap f = (l.take i).flatMap f ++ f a := by
  rw [List.take_add_one, h]; simp
theorem take_flat_len {α β : Type} {f : α → List β} {l : List α} {i n : Nat} (h : ∀ a ∈ l, (f a).length ≤ n) : ((l.take i).flatMap f).length ≤ n * l.length :=
  Nat.le_trans (flat_len (n := n) fun a ha => h a (List.mem_of_mem_take ha)) (Nat.mul_le_mul_left n (by rw [List.length_take]; omega))
end K69

set_option Elab.async false
set_option linter.all false
set_option maxRecDepth 100000
set_option maxHeartbeats 600000
namespace K69
open PySem L2 Y
/-- extend a list that stands by a fresh one -/
theorem ext_FL {s S S' : Sto} {l : Nat} {X Z : List D} {d : D} (hk : Kp s S) (hl : s.length ≤ l) (h0 : S[l]? = some (.lst X)) (h : FL S Z d S') (hz : X.length + Z.length ≤ sizeLine) :
    ∃ S2, mExtend (.loc l) [d] S' = some (.non, S2) ∧ S'[l]? = some (.lst X) ∧ Kp s S2 ∧ S2[l]? = some (.lst (X ++ Z)) ∧ (∀ j o, j ≠ l → S[j]? = some o → S2[j]? = some o) := by
  obtain ⟨j, rfl, h1, h2, h3⟩ := h.kp
  have g := h2.get h0
  refine ⟨S'.set l (.lst (X ++ Z)), ?_, g, (hk.trans h2).set hl, List.getElem?_set_self (List.getElem?_eq_some_iff.mp g).1, fun j o hj e => ?_⟩
  · rw [mExtend_ap g h3, if_pos hz]
  · rw [List.getElem?_set_ne (Ne.symm hj)]; exact h2.get e
/-- the state of the program's loops: found is at l, the statements at ls -/
def PI (core : List Pr) (p : Pr) (st : List Str) (s : Sto) (l ls : Nat) (A : List Fm) (E : Ev) (S : Sto) : Prop :=
  ∃ (o6 o7 o8 o9 : Option D), E = [some (.tup (core.map Pr.d)), some (.str p.name), some p.d, some (.tup (st.map D.str)), some (.loc l), some (.loc ls), o6, o7, o8, o9, none] ∧ Kp s S ∧ s.length ≤ l ∧ l ≠ ls ∧ S[l]? = some (.lst (A.map Fm.d)) ∧ S[ls]? = some (.lst ((Sm.allL p.body).map Sm.d))
def pcC (k : Nat) : SM := (sCons (sIf (tOfB (eBin (pCmp .In) (eBin pIx (eVar 6) (eC (.int 0))) (eA mkTup (aCons (eC (.str "if")) (aCons (eC (.str "while")) aNil))))) (sCons (sFor (iVal (eCall 1 (callP pg k "comparisons_of") (aCons (eBin pIx (eVar 6) (eC (.int 1))) aNil))) (gNm 7) (sCons (sExpr (eMeth "extend" (eVar 4) (aCons (eCall 2 (callP pg k "comparison_forms") (aCons (eVar 7) (aCons (eVar 3) aNil))) aNil)))
  sNil))
  sNil) sNil)
  sNil)
def pcS (k : Nat) : SM := (sCons (sIf (tOfB (eBin (pCmp .Eq) (eBin pIx (eVar 6) (eC (.int 0))) (eC (.str "set")))) (sCons (sFor (iVal (eBin pIx (eVar 6) (eC (.int 1)))) (gTp 2 (gsCons (gNm 8) (gsCons (gNm 9) gsNil))) (sCons (sExpr (eMeth "extend" (eVar 4) (aCons (eCall 3 (callP pg k "set_forms") (aCons (eVar 8) (aCons (eVar 9) (aCons (eVar 3) aNil)))) aNil)))
  sNil))
  sNil) sNil)
  sNil)
theorem pcC_turn {NM : List Str} {core : List Pr} {p : Pr} (W : WE NM p) {k : Nat} {st : List Str} {s : Sto} {l ls : Nat} {A : List Fm} {E : Ev} {S : Sto} {q : Sm} (hq : wfE NM q) (hA : A.length ≤ 5000) (h : PI core p st s l ls A E S) {P : Post} (hz : ∀ E S, PI core p st s l ls (A ++ cmpsS st q) E S → P.nx E S) :
    (pcC (k + 9) (E.set 6 (some q.d)) S).to P := by
  obtain ⟨o6, o7, o8, o9, rfl, hk, hl, hne, h1, h2⟩ := h
  have z2 : 2 ≤ sizeLine := sz' (by decide)
  have go : ∀ (c : Cd) (dd : Option D) (X1 X2 : Str → Sto → Prop), (c.dep ≤ 3 ∧ c.comps.length ≤ 4 ∧ ∀ q ∈ c.comps, q.2.1.ok NM ∧ q.2.2.ok NM ∧ q.2.1.dep ≤ 3 ∧ q.2.2.dep ≤ 3) → (∀ E S, PI core p st s l ls (A ++ c.comps.flatMap (cmpF st)) E S → P.nx E S) →
      ((callP pg (k + 9) "comparisons_of" [c.d] S).to (fun d S1 => (Res.ofL (srcD d S1) S1).to (fun src S1 => (forS (gNm 7) (sCons (sExpr (eMeth "extend" (eVar 4) (aCons (eCall 2 (callP pg (k + 9) "comparison_forms") (aCons (eVar 7) (aCons (eVar 3) aNil))) aNil))) sNil) src [some (.tup (core.map Pr.d)), some (.str p.name), some p.d, some (.tup (st.map D.str)), some (.loc l), some (.loc ls), dd, o7, o8, o9, none] S1).to P) X1) X2) := fun c dd X1 X2 hc hz => by
    obtain ⟨c1, c2, c3⟩ := hc
    have e0 := comps_ok 4 c (k + 5) S (by omega) (by omega)
    rw [show 4 + (k + 5) = k + 9 by omega] at e0
    refine Res.to_imp e0 fun d S1 hF => ?_
    obtain ⟨lc, rfl, hlc, hk1, hgc⟩ := hF.kp
    simp [hgc]
    have hll := (List.getElem?_eq_some_iff.mp h1).1
    refine forLst (xs := c.comps.map cmpD) (fun i E S => PI core p st s l ls (A ++ (c.comps.take i).flatMap (cmpF st)) E S ∧ S[lc]? = some (.lst (c.comps.map cmpD))) (by rw [List.length_map]; unfold fuelMax; omega) (fun i E S h => h.2) ⟨⟨_, _, _, _, rfl, hk.trans hk1, hl, hne, by simpa using hk1.get h1, hk1.get h2⟩, hgc⟩ ?_ ?_
    · rintro i d E S2 hd ⟨⟨o6, o7, o8, o9, rfl, hk2, _, _, h3, h4⟩, h5⟩
      obtain ⟨q, hq, rfl⟩ := map_at hd
      obtain ⟨q1, q2, q3, q4⟩ := c3 q (List.mem_of_getElem? hq)
      rw [take_flat hq, ← List.append_assoc]
      have hBl : (A ++ (c.comps.take i).flatMap (cmpF st)).length ≤ 5100 := by
        have := take_flat_len (f := cmpF st) (l := c.comps) (i := i) (n := 4) fun a _ => cmpF_len
        rw [List.length_append]; omega
      have hcl := cmpF_len (st := st) (c := q)
      generalize (A ++ (c.comps.take i).flatMap (cmpF st)) = B at hBl h3 ⊢
      simp [meth_extend h3]
      have e0 := cforms_ok (NM := NM) (st := st) W.nm (n := 4) (k := k + 1) (c := q) (s := S2) q1 q2 (by omega) (by omega) (by omega)
      rw [show 4 + (k + 1) + 4 = k + 9 by omega] at e0
      refine Res.to_imp e0 fun d S3 hF => ?_
      obtain ⟨S4, e1, e2, e3, e4, e5⟩ := ext_FL hk2 hl h3 hF (sz' (by simp; omega))
      simp [e1]
      refine ⟨⟨_, _, _, _, rfl, e3, hl, hne, by simpa using e4, e5 _ _ (Ne.symm hne) h4⟩, e5 _ _ (by omega) h5⟩
    · rintro E S2 ⟨h, _⟩
      rw [List.length_map, List.take_length] at h
      exact hz _ _ h
  unfold pcC
  cases q with
  | whl c b => simp [Sm.d, ofString_inj, pIn_tup2, z2]; exact go c _ _ _ hq hz
  | ite c b1 b2 => simp [Sm.d, ofString_inj, pIn_tup2, z2]; exact go c _ _ _ hq hz
  | pause => simp [Sm.d, ofString_inj, pIn_tup2, z2]; exact hz _ _ ⟨_, _, _, _, rfl, hk, hl, hne, by simpa [cmpsS] using h1, h2⟩
  | push e a => simp [Sm.d, ofString_inj, pIn_tup2, z2]; exact hz _ _ ⟨_, _, _, _, rfl, hk, hl, hne, by simpa [cmpsS] using h1, h2⟩
  | store a e f => simp [Sm.d, ofString_inj, pIn_tup2, z2]; exact hz _ _ ⟨_, _, _, _, rfl, hk, hl, hne, by simpa [cmpsS] using h1, h2⟩
  | pop x a => simp [Sm.d, ofString_inj, pIn_tup2, z2]; exact hz _ _ ⟨_, _, _, _, rfl, hk, hl, hne, by simpa [cmpsS] using h1, h2⟩
  | call f as ts => simp [Sm.d, ofString_inj, pIn_tup2, z2]; exact hz _ _ ⟨_, _, _, _, rfl, hk, hl, hne, by simpa [cmpsS] using h1, h2⟩
  | set q => simp [Sm.d, ofString_inj, pIn_tup2, z2]; exact hz _ _ ⟨_, _, _, _, rfl, hk, hl, hne, by simpa [cmpsS] using h1, h2⟩
  | give es => simp [Sm.d, ofString_inj, pIn_tup2, z2]; exact hz _ _ ⟨_, _, _, _, rfl, hk, hl, hne, by simpa [cmpsS] using h1, h2⟩
theorem pcS_turn {NM : List Str} {core : List Pr} {p : Pr} (W : WE NM p) {k : Nat} {st : List Str} {s : Sto} {l ls : Nat} {A : List Fm} {E : Ev} {S : Sto} {q : Sm} (hq : wfE NM q) (hA : A.length ≤ 9000) (h : PI core p st s l ls A E S) {P : Post} (hz : ∀ E S, PI core p st s l ls (A ++ setsS st q) E S → P.nx E S) :
    (pcS (k + 9) (E.set 6 (some q.d)) S).to P := by
  obtain ⟨o6, o7, o8, o9, rfl, hk, hl, hne, h1, h2⟩ := h
  unfold pcS
  cases q with
  | set q =>
    obtain ⟨c1, c2⟩ := hq
    simp [Sm.d, ofString_inj, setD]
    refine forFix (fun i E S => PI core p st s l ls (A ++ (q.take i).flatMap (setF st)) E S) ⟨_, _, _, _, rfl, hk, hl, hne, by simpa using h1, h2⟩ ?_ ?_
    · rintro i d E S2 hd ⟨o6, o7, o8, o9, rfl, hk2, _, _, h3, h4⟩
      obtain ⟨r, hr, rfl⟩ := map_at hd
      obtain ⟨r1, r2, r3⟩ := c2 r (List.mem_of_getElem? hr)
      rw [take_flat hr, ← List.append_assoc]
      have hBl : (A ++ (q.take i).flatMap (setF st)).length ≤ 9100 := by
        have := take_flat_len (f := setF st) (l := q) (i := i) (n := 2) fun a _ => setF_len
        rw [List.length_append]; omega
      have hcl := setF_len (st := st) (c := r)
      generalize (A ++ (q.take i).flatMap (setF st)) = B at hBl h3 ⊢
      simp [meth_extend h3]
      have e0 := setf_ok (NM := NM) (st := st) W.nm (n := 4) (k := k) (p := r) (s := S2) r1 r2 (by omega) (by omega)
      rw [show 4 + k + 5 = k + 9 by omega] at e0
      refine Res.to_imp e0 fun d S3 hF => ?_
      obtain ⟨S4, e1, e2, e3, e4, e5⟩ := ext_FL hk2 hl h3 hF (sz' (by simp; omega))
      simp [e1]
      exact ⟨_, _, _, _, rfl, e3, hl, hne, by simpa using e4, e5 _ _ (Ne.symm hne) h4⟩
    · rintro E S2 h
      rw [List.length_map, List.take_length] at h
      exact hz _ _ h
  | whl c b => simp [Sm.d, ofString_inj]; exact hz _ _ ⟨_, _, _, _, rfl, hk, hl, hne, by simpa [setsS] using h1, h2⟩
  | ite c b1 b2 => simp [Sm.d, ofString_inj]; exact hz _ _ ⟨_, _, _, _, rfl, hk, hl, hne, by simpa [setsS] using h1, h2⟩
  | pause => simp [Sm.d, ofString_inj]; exact hz _ _ ⟨_, _, _, _, rfl, hk, hl, hne, by simpa [setsS] using h1, h2⟩
  | push e a => simp [Sm.d, ofString_inj]; exact hz _ _ ⟨_, _, _, _, rfl, hk, hl, hne, by simpa [setsS] using h1, h2⟩
  | store a e f => simp [Sm.d, ofString_inj]; exact hz _ _ ⟨_, _, _, _, rfl, hk, hl, hne, by simpa [setsS] using h1, h2⟩
  | pop x a => simp [Sm.d, ofString_inj]; exact hz _ _ ⟨_, _, _, _, rfl, hk, hl, hne, by simpa [setsS] using h1, h2⟩
  | call f as ts => simp [Sm.d, ofString_inj]; exact hz _ _ ⟨_, _, _, _, rfl, hk, hl, hne, by simpa [setsS] using h1, h2⟩
  | give es => simp [Sm.d, ofString_inj]; exact hz _ _ ⟨_, _, _, _, rfl, hk, hl, hne, by simpa [setsS] using h1, h2⟩
theorem pc_eq {k : Nat} : m_point_candidates k = (sCons (sSet 2 (eCall 2 (callP pg k "proc_named") (aCons (eVar 0) (aCons (eVar 1) aNil))))
  (sCons (sSet 3 (eCall 2 (callP pg k "states_of") (aCons (eVar 0) (aCons (eVar 1) aNil))))
  (sCons (sSet 4 (eBin (pBin .Add) (eA mkLst (aCons (eC c_MINUS_ONE) aNil)) (eAlloc (fLc (iVal (eVar 3)) (gNm 10) tYesM (eCall 1 (callP pg k "variable") (aCons (eVar 10) aNil)) [10]))))
  (sCons (sExpr (eMeth "extend" (eVar 4) (aCons (eCall 1 (callP pg k "differences") (aCons (eCall 2 (callP pg k "moving_items") (aCons (eVar 2) (aCons (eCall 1 (callP pg k "moving_table") (aCons (eVar 0) aNil)) aNil))) aNil)) aNil)))
  (sCons (sSet 5 (eCall 1 (callP pg k "statements_in") (aCons (eBin pIx (eVar 2) (eC (.int 8))) aNil)))
  (sCons (sFor (iVal (eVar 5)) (gNm 6) (pcC k))
  (sCons (sFor (iVal (eVar 5)) (gNm 6) (pcS k))
  (sCons (sRet (eCall 1 (callP pg k "without_doubles") (aCons (eBin (pBin .Add) (eVar 4) (eAlloc (fList (lOfE (eBin pIx (eVar 2) (eC (.int 5))))))) aNil)))
  sNil)))))))) := rfl
end K69

set_option Elab.async false
set_option linter.all false
set_option maxRecDepth 100000
set_option maxHeartbeats 1000000
namespace K69
open PySem L2 Y
theorem pairF_g {NM : List Str} {B : Nat} {f g h : Fm} (hf : GF NM B f) (hg : GF NM B g) (hh : h ∈ pairF f g) : GF NM (4 * B) h := by
  unfold pairF at hh
  simp only [List.mem_cons, List.not_mem_nil, or_false] at hh
  rcases hh with rfl | rfl
  · exact lsum2 hf hg (by decide) (by decide)
  · exact lsum2 hg hf (by decide) (by decide)
theorem cmpF_g {NM st : List Str} {c : Cmp} {h : Fm} (h1 : c.2.1.ok NM) (h2 : c.2.2.ok NM) (d1 : c.2.1.dep ≤ 3) (d2 : c.2.2.dep ≤ 3) (hh : h ∈ cmpF st c) : ∃ B, GF NM B h := by
  unfold cmpF at hh
  have p3 : ∀ d, d ≤ 3 → 6 * 4 ^ d ≤ 6 * 4 ^ 3 := fun d hd => Nat.mul_le_mul_left 6 (Nat.pow_le_pow_right (by decide) hd)
  split at hh
  · rename_i a b ea eb
    have ga := (plainF_g _ h1 ea).mono (p3 _ d1)
    have gb := (plainF_g _ h2 eb).mono (p3 _ d2)
    rcases List.mem_append.mp hh with hh | hh
    · exact ⟨_, pairF_g ga gb hh⟩
    · obtain ⟨z, hz, rfl⟩ := List.mem_map.mp hh
      exact ⟨_, lsum2 (pairF_g ga gb hz) (mOne_g (by decide)) (by decide) (by decide)⟩
  · cases hh
theorem setF_g {NM st : List Str} {r : Str × Ex} {h : Fm} (h1 : r.1 ∈ NM) (h2 : r.2.ok NM) (d2 : r.2.dep ≤ 3) (hh : h ∈ setF st r) : ∃ B, GF NM B h := by
  unfold setF at hh
  split at hh
  · split at hh
    · rename_i f hf
      have ga := (plainF_g _ h2 hf).mono (show 6 * 4 ^ r.2.dep ≤ 6 * 4 ^ 3 from Nat.mul_le_mul_left 6 (Nat.pow_le_pow_right (by decide) d2))
      exact ⟨_, pairF_g ((varF_g h1).mono (by decide)) ga hh⟩
    · cases hh
  · cases hh
theorem cand_sok {NM : List Str} {p : Pr} (W : WE NM p) {Tn : List Str} : ∀ f ∈ candL p Tn, ∀ q ∈ f.2, sOk q.1 = true := fun f hf q hq => by
  have key : ∀ B, GF NM B f → sOk q.1 = true := fun B g => (W.ne _ (g.nm q hq)).1
  unfold candL at hf
  simp only [List.mem_append] at hf
  rcases hf with (((hf | hf) | hf) | hf) | hf
  · obtain ⟨x, hx, rfl⟩ := List.mem_map.mp hf
    exact key _ (varF_g (states_nm W x hx))
  · obtain ⟨i, hi, hf⟩ := List.mem_flatMap.mp hf
    have := W.its i (List.mem_filter.mp hi).1
    exact key _ (pairF_g (varF_g this.1) (varF_g this.2) hf)
  · obtain ⟨s, hs, hf⟩ := List.mem_flatMap.mp hf
    have hw := W.st s hs
    have go : ∀ c : Cd, (∀ q ∈ c.comps, q.2.1.ok NM ∧ q.2.2.ok NM ∧ q.2.1.dep ≤ 3 ∧ q.2.2.dep ≤ 3) → f ∈ c.comps.flatMap (cmpF (statesF p Tn)) → sOk q.1 = true := fun c hc hf => by
      obtain ⟨z, hz, hf⟩ := List.mem_flatMap.mp hf
      obtain ⟨a1, a2, a3, a4⟩ := hc z hz
      obtain ⟨B, g⟩ := cmpF_g a1 a2 a3 a4 hf
      exact key B g
    cases s with
    | whl c b => exact go c hw.2.2 hf
    | ite c b1 b2 => exact go c hw.2.2 hf
    | _ => cases hf
  · obtain ⟨s, hs, hf⟩ := List.mem_flatMap.mp hf
    have hw := W.st s hs
    cases s with
    | set l =>
      obtain ⟨z, hz, hf⟩ := List.mem_flatMap.mp hf
      obtain ⟨a1, a2, a3⟩ := hw.2 z hz
      obtain ⟨B, g⟩ := setF_g a1 a2 a3 hf
      exact key B g
    | _ => cases hf
  · exact W.hs.2 f hf q hq
theorem cmps_sum {NM : List Str} {p : Pr} (W : WE NM p) {st : List Str} (hl : (Sm.allL p.body).length ≤ 200) : ((Sm.allL p.body).flatMap (cmpsS st)).length ≤ 3200 ∧ ∀ i, (((Sm.allL p.body).take i).flatMap (cmpsS st)).length ≤ 3200 := by
  have h1 := flat_len (f := cmpsS st) (n := 16) (l := Sm.allL p.body) fun a ha => cmpsS_len (W.st a ha)
  refine ⟨by omega, fun i => ?_⟩
  have := take_flat_len (f := cmpsS st) (n := 16) (l := Sm.allL p.body) (i := i) fun a ha => cmpsS_len (W.st a ha)
  omega
theorem sets_sum {NM : List Str} {p : Pr} (W : WE NM p) {st : List Str} (hl : (Sm.allL p.body).length ≤ 200) : ((Sm.allL p.body).flatMap (setsS st)).length ≤ 800 ∧ ∀ i, (((Sm.allL p.body).take i).flatMap (setsS st)).length ≤ 800 := by
  have h1 := flat_len (f := setsS st) (n := 4) (l := Sm.allL p.body) fun a ha => setsS_len (W.st a ha)
  refine ⟨by omega, fun i => ?_⟩
  have := take_flat_len (f := setsS st) (n := 4) (l := Sm.allL p.body) (i := i) fun a ha => setsS_len (W.st a ha)
  omega
theorem candF_cl {n : Nat} {l : List Fm} : D.cl n (.tup (l.map Fm.d)) = true := by simp only [D.cl]; exact clL_map Fm.d (fun f => fD_cl) _
theorem kp_gc {r : SR} {d : D} {s : Sto} (hd : D.cl s.length d = true) (h : r.to { rt := fun d' s' => d' = d ∧ Kp s s' }) : gc s (resS r) = .ok d s := by
  refine gc_pure hd (SR.to_mono h (fun _ _ z => z.elim) (fun d' s' z => ⟨z.1, z.2.eq⟩) (fun _ _ z => z.elim) (fun _ _ z => z.elim) (fun _ _ _ z => z.elim))
theorem pcand_ok {core : List Pr} (W : WF core) (A : WA core) {NM : List Str} {p : Pr} (V : WE NM p) (hp : p ∈ core) {k : Nat} {s : Sto} :
    ∃ R : Row, (Lst core R ∧ Clo core R) ∧ callP pg (k + 30) "point_candidates" [.tup (core.map Pr.d), .str p.name] s = .ok (.tup ((candF p (R p.name)).map Fm.d)) s := by
  have hpn : p.name ∈ core.map Pr.name := List.mem_map.mpr ⟨p, hp, rfl⟩
  have hi := W.its p hp
  have h2 := W.two
  have hlen := W.len p hp
  have e1 := fun s => pnamed_ok (k := k + 28) (ps := core) (x := p.name) (p := p) (s := s) (by omega) (firstP_of W.nd hp)
  obtain ⟨R, ⟨hl, hc⟩, e2⟩ := statesof_ok W A (n := 9) (k := k + 16) (s := s) (by omega) hp
  rw [show 9 + (k + 16) + 4 = k + 29 by omega] at e2
  refine ⟨R, ⟨hl, hc⟩, ?_⟩
  rw [c_point_candidates, pc_eq]
  refine kp_gc candF_cl ?_
  have hsl : (statesF p (R p.name)).length ≤ 7 := by
    unfold statesF
    rw [List.length_map, List.length_append]
    have : (p.items.filter fun i => decide (keyF i ∈ R p.name)).length ≤ p.items.length := List.length_filter_le _ _
    omega
  have z1 : 1 ≤ sizeLine := sz' (by decide)
  rw [show candF p (R p.name) = (candL p (R p.name)).foldl addF [mOne] from rfl]
  have hcl : candL p (R p.name) = (statesF p (R p.name)).map varF ++ (movF p (R p.name)).flatMap diffF ++ (Sm.allL p.body).flatMap (cmpsS (statesF p (R p.name))) ++ (Sm.allL p.body).flatMap (setsS (statesF p (R p.name))) ++ p.hints := rfl
  have hsok := cand_sok V (Tn := R p.name)
  have hcm := cmps_sum V (st := statesF p (R p.name)) hlen
  have hse := sets_sum V (st := statesF p (R p.name)) hlen
  have hmv : (movF p (R p.name)).length ≤ 3 := Nat.le_trans (List.length_filter_le _ _) hi.1
  have hdl := diff_len (movF p (R p.name))
  generalize hst : statesF p (R p.name) = st at *
  simp [e1, e2]
  rw [compFix_on (F := D.str) (f := fun x => some (varF x).d) (sz' (by omega))]
  · simp [z1]
    rw [pAdd_loc (xs := [mOne.d]) (ys := st.map fun x => (varF x).d) (by rw [get_len]; rfl) (by simp) (sz' (by simp; omega))]
    simp
    have hS0 : (s ++ [O.lst [c_MINUS_ONE], O.lst (List.map (fun x => (varF x).d) st), O.lst (mOne.d :: List.map (fun x => (varF x).d) st)])[s.length + 2]? = some (.lst ((mOne :: st.map varF).map Fm.d)) := by rw [get_len_add]; simp
    have hK0 : Kp s (s ++ [O.lst [c_MINUS_ONE], O.lst (List.map (fun x => (varF x).d) st), O.lst (mOne.d :: List.map (fun x => (varF x).d) st)]) := Kp.app
    have hl0 : s.length ≤ s.length + 2 := by omega
    generalize s ++ [O.lst [c_MINUS_ONE], O.lst (List.map (fun x => (varF x).d) st), O.lst (mOne.d :: List.map (fun x => (varF x).d) st)] = S0 at hS0 hK0 ⊢
    generalize s.length + 2 = l at hS0 hl0 ⊢
    simp [meth_extend hS0]
    have f1 := mtable_ok W A (n := 9) (k := k + 18) (s := S0) (by omega)
    rw [show 9 + (k + 18) + 2 = k + 29 by omega] at f1
    refine Res.to_imp f1 fun d S1 ⟨m, L, R', ed, hk1, hm, hT, hl', hc'⟩ => ?_
    subst ed
    have hsame := least_same hl hc hl' hc' p hp
    have f2 := mitems_ok (k := k + 27) (p := p) (s := S1) (fun i h => hi.2.2 i (List.mem_append_left _ h)) (by omega) hT.dic (hT.get hpn) (hT.row _ hpn)
    rw [show k + 27 + 2 = k + 29 by omega, show (p.items.filter fun i => decide (keyF i ∈ R' p.name)) = movF p (R p.name) from (mov_congr hsame).symm] at f2
    show Res.to _ _ _
    refine Res.to_imp f2 fun d S2 hF2 => ?_
    obtain ⟨j, rfl, hj, hk2, hg2⟩ := hF2.kp
    have f3 := diffs_ok V.nm (k := k + 25) (s := S2) (is := movF p (R p.name)) (fun i h => by
      have hm := (List.mem_filter.mp h).1
      exact ⟨hi.2.2 i (List.mem_append_left _ hm), V.its i hm⟩) (by omega) hg2
    rw [show k + 25 + 4 = k + 29 by omega] at f3
    show Res.to _ _ _
    refine Res.to_imp f3 fun d S3 hF3 => ?_
    have hk3 := hF3
    obtain ⟨j3, rfl, hj3, hk3, hg3⟩ := hF3.kp
    have hF3' : FL S0 (((movF p (R p.name)).flatMap diffF).map Fm.d) (.loc j3) S3 := FL.of (by have := hk1.1; have := hk2.1; omega) ((hk1.trans hk2).trans hk3) hg3
    obtain ⟨S4, q1, q2, q3, q4, q5⟩ := ext_FL hK0 hl0 hS0 hF3' (sz' (by simp only [List.length_map, List.length_cons]; omega))
    simp [q1]
    rw [pr_d p]
    simp
    rw [← pr_d p]
    have f4 := stmts_ok 9 (k + 20) p.body S4 (by have := W.dep p hp; omega) (by omega)
    rw [show 9 + (k + 20) = k + 29 by omega] at f4
    refine Res.to_imp f4 fun d S5 hF5 => ?_
    obtain ⟨ls, rfl, hls0, hk5, hls⟩ := hF5.kp
    simp [hls]
    have hl4 := (List.getElem?_eq_some_iff.mp q4).1
    let A1 : List Fm := (mOne :: st.map varF) ++ (movF p (R p.name)).flatMap diffF
    have hA1 : A1.length ≤ 20 := by simp only [A1, List.length_append, List.length_map, List.length_cons]; omega
    refine forLst (xs := (Sm.allL p.body).map Sm.d) (fun i => PI core p st s l ls (A1 ++ ((Sm.allL p.body).take i).flatMap (cmpsS st))) (by rw [List.length_map]; unfold fuelMax; omega) ?_ ?_ ?_ ?_
    · rintro i E S ⟨o6, o7, o8, o9, rfl, _, _, _, _, h⟩; exact h
    · exact ⟨_, _, _, _, rfl, q3.trans hk5, hl0, by omega, by simpa [A1] using hk5.get q4, hls⟩
    · rintro i d E S hd h
      obtain ⟨q, hq, rfl⟩ := map_at hd
      rw [take_flat hq, ← List.append_assoc]
      simp only [gNm_ap, to_ok]
      have := hcm.2 i
      exact pcC_turn V (k := k + 20) (V.st q (List.mem_of_getElem? hq)) (by rw [List.length_append]; omega) h fun E S h => h
    · rintro E S ⟨o6, o7, o8, o9, rfl, hk6, _, hne, h1, h2⟩
      rw [List.length_map, List.take_length] at h1
      let A2 : List Fm := A1 ++ (Sm.allL p.body).flatMap (cmpsS st)
      have hA2 : A2.length ≤ 3300 := by simp only [A2, List.length_append]; omega
      simp [h2]
      refine forLst (xs := (Sm.allL p.body).map Sm.d) (fun i => PI core p st s l ls (A2 ++ ((Sm.allL p.body).take i).flatMap (setsS st))) (by rw [List.length_map]; unfold fuelMax; omega) ?_ ?_ ?_ ?_
      · rintro i E S ⟨o6, o7, o8, o9, rfl, _, _, _, _, h⟩; exact h
      · exact ⟨_, _, _, _, rfl, hk6, hl0, hne, by simpa [A2] using h1, h2⟩
      · rintro i d E S hd h
        obtain ⟨q, hq, rfl⟩ := map_at hd
        rw [take_flat hq, ← List.append_assoc]
        simp only [gNm_ap, to_ok]
        have := hse.2 i
        exact pcS_turn V (k := k + 20) (V.st q (List.mem_of_getElem? hq)) (by rw [List.length_append]; omega) h fun E S h => h
      · rintro E S ⟨o6, o7, o8, o9, rfl, hk7, _, _, h1, h2⟩
        rw [List.length_map, List.take_length] at h1
        have hh := V.hs.1
        have hlt := (List.getElem?_eq_some_iff.mp h1).1
        simp
        rw [pr_d p]
        simp
        have eX : candL p (R p.name) = st.map varF ++ (movF p (R p.name)).flatMap diffF ++ (Sm.allL p.body).flatMap (cmpsS st) ++ (Sm.allL p.body).flatMap (setsS st) ++ p.hints := hcl
        have hlen2 : (A2 ++ (Sm.allL p.body).flatMap (setsS st)).length ≤ 5000 := by rw [List.length_append]; omega
        rw [pAdd_loc (xs := (A2 ++ (Sm.allL p.body).flatMap (setsS st)).map Fm.d) (ys := p.hints.map Fm.d) (by rw [get_lt hlt]; exact h1) (by simp) (sz' (by simp only [List.length_map]; omega))]
        simp
        have e9 := wd_ok (k := k + 28) (l := S.length + 1) (f0 := mOne) (fs := candL p (R p.name)) (s := S ++ [O.lst (p.hints.map Fm.d), O.lst ((A2 ++ (Sm.allL p.body).flatMap (setsS st)).map Fm.d ++ p.hints.map Fm.d)]) (by rw [eX]; simp only [List.length_append, List.length_map]; omega) (fun f hf => by
          rcases List.mem_cons.mp hf with rfl | hf
          · intro q hq; cases hq
          · exact hsok f hf) (by rw [get_len_add, eX]; simp [A2, A1])
        rw [show k + 28 + 1 = k + 29 by omega] at e9
        simp at e9
        rw [e9]
        exact ⟨rfl, hk7.trans Kp.app⟩
  · intro x hx
    unfold turnC
    simp [noX, Res.ofO, var_ok (k := k + 28)]
end K69

set_option Elab.async false
set_option linter.all false
set_option maxRecDepth 100000
set_option maxHeartbeats 1000000
namespace K69
open PySem L2 Y
theorem intsD_str : ∀ l : List Str, l ≠ [] → intsD (l.map D.str) = none
  | [], h => absurd rfl h
  | a :: r, _ => by rw [List.map_cons]; rfl
theorem strsD_str : ∀ l : List Str, strsD (l.map D.str) = some l
  | [] => rfl
  | a :: r => by rw [List.map_cons]; simp only [strsD, strsD_str r]; rfl
theorem srtDS_str {k : Nat} {l : List Str} {s : Sto} (h : s[k]? = some (.lst (l.map D.str))) : srtDS (.loc k) s = some ((srtS l).map D.str) := by
  unfold srtDS
  rw [lst_loc, h]
  simp only [lstO_lst, srtD]
  by_cases h0 : l = []
  · subst h0; simp [intsD, srtI, srtS]
  · rw [intsD_str l h0, strsD_str l]
def addS (acc : List Str) (x : Str) : List Str := if x ∈ acc then acc else acc ++ [x]
theorem fold_addS : ∀ (l A : List Str), ((l.foldl addS A).length ≤ A.length + l.length) ∧ ∀ g ∈ l.foldl addS A, g ∈ A ∨ g ∈ l
  | [], A => ⟨by simp, fun g h => .inl h⟩
  | f :: l, A => by
    obtain ⟨h1, h2⟩ := fold_addS l (addS A f)
    have h3 : (addS A f).length ≤ A.length + 1 := by unfold addS; split <;> simp
    refine ⟨by rw [List.foldl_cons, List.length_cons]; omega, fun g hg => ?_⟩
    rcases h2 g hg with h | h
    · unfold addS at h
      split at h
      · exact .inl h
      · rcases List.mem_append.mp h with h | h
        · exact .inl h
        · rw [List.mem_singleton.mp h]; exact .inr List.mem_cons_self
    · exact .inr (List.mem_cons_of_mem _ h)
theorem lnames_ok {k l : Nat} {f : Fm} {s : Sto} (hl : f.2.length < 60) (hs : s[l]? = some (.lst [f.d])) :
    (callP pg (k + 1) "_law_names" [.loc l] s).to (fun d s' => ∃ zs : List Str, FL s (zs.map D.str) d s' ∧ zs.length < 60 ∧ ∀ z ∈ zs, z ∈ f.2.map (·.1)) NoX := by
  rw [c__law_names]
  apply gc_to
  have z0 : 0 ≤ sizeLine := Nat.zero_le _
  have lt := (List.getElem?_eq_some_iff.mp hs).1
  unfold m__law_names
  simp [z0, get_lt lt, hs]
  refine forLst (xs := [f.d]) (fun n E s1 => ∃ (o2 o3 o4 : Option D), E = [some (.loc l), some (.loc s.length), o2, o3, o4] ∧ s1 = s ++ [.lst ((((if n = 0 then [] else f.2).map (·.1)).foldl addS []).map D.str)]) (by simp; unfold fuelMax; omega) ?_ ?_ ?_ ?_
  · rintro i E S ⟨o2, o3, o4, rfl, rfl⟩; rw [get_lt lt]; exact hs
  · exact ⟨none, none, none, rfl, by simp⟩
  · rintro n d E s1 hd ⟨o2, o3, o4, rfl, rfl⟩
    have hn : n = 0 := by have := (List.getElem?_eq_some_iff.mp hd).1; simp at this; omega
    subst hn
    simp at hd
    subst hd
    simp [Fm.d, fD]
    refine forFix (fun n E s1 => ∃ (o3 o4 : Option D), E = [some (.loc l), some (.loc s.length), some f.d, o3, o4] ∧ s1 = s ++ [.lst ((((f.2.take n).map (·.1)).foldl addS []).map D.str)]) ⟨o3, o4, rfl, by simp⟩ ?_ ?_
    · rintro n d E s1 hd ⟨o3, o4, rfl, rfl⟩
      obtain ⟨x, z, hp, rfl⟩ := pD_at hd
      have hst : ((f.2.take (n + 1)).map (·.1)).foldl addS [] = addS (((f.2.take n).map (·.1)).foldl addS []) x := by rw [List.take_add_one, hp]; simp
      have hb := (fold_addS ((f.2.take n).map (·.1)) []).1
      rw [List.length_map, List.length_take] at hb
      rw [hst]
      generalize ((f.2.take n).map (·.1)).foldl addS [] = B at hb ⊢
      have hz : B.length < sizeLine := sz (by simp at hb; omega)
      simp [pNotIn_locS (s := s ++ [O.lst (B.map D.str)]) (k := s.length) (l := B) (by simp)]
      unfold addS
      by_cases h : x ∈ B
      · simp [h]
      · simp [h, meth_append (xs := B.map D.str), mAppend_ap (xs := B.map D.str), hz]
    · rintro E s1 ⟨o3, o4, rfl, rfl⟩
      rw [List.length_map, List.take_length]
      simp [Fm.d, fD]
  · rintro E s1 ⟨o2, o3, o4, rfl, rfl⟩
    have hb := fold_addS (f.2.map (·.1)) []
    simp
    simp at hb
    generalize (f.2.map (·.1)).foldl addS [] = B at hb ⊢
    rw [srtDS_str (l := B) (by simp)]
    simp
    have hz : (srtS B).length < 60 := by rw [srtS_len]; omega
    refine Res.to_imp (FL.gc (xs := (srtS B).map D.str) ⟨_, s.length + 1, rfl, rfl, by omega, by rw [get_len_add]; simp⟩) fun d s' h => ⟨srtS B, h, hz, fun z hz => ?_⟩
    have := hb.2 z ((srtS_perm B).mem_iff.mp hz)
    simpa using this
theorem lsum_nm {l : List Part} {NM : List Str} (h : ∀ q ∈ l, ∀ p ∈ q.2.2, p.1 ∈ NM) : ∀ p ∈ (lsum l).2, p.1 ∈ NM := by
  refine formL_names fun p hp => ?_
  obtain ⟨q, hq, hp⟩ := List.mem_flatMap.mp hp
  obtain ⟨r, hr, rfl⟩ := List.mem_map.mp hp
  exact h q hq r hr
/-- a steady expression names inputs only -/
theorem steady_at {st : List Str} : ∀ (e : Ex) {f : Fm}, steadyF st e = true → plainF st e = some f → ∀ x ∈ f.2.map (·.1), ∃ y, x = ("@" : Str) ++ y
  | .num m, f, _, h, x, hx => by cases h; cases hx
  | .nm a, f, h0, h, x, hx => by
    cases h
    simp [steadyF] at h0
    simp [nameF, varF, h0] at hx
    exact ⟨_, hx⟩
  | .len a, f, h0, h, x, hx => by
    cases h
    simp [steadyF] at h0
    simp [nameF, varF, h0] at hx
    exact ⟨_, hx⟩
  | .item _ _, _, h, _, _, _ => by cases h
  | .quo _ _ _, _, h, _, _, _ => by cases h
  | .scl c e, f, h0, h, x, hx => by
    unfold plainF at h
    cases z : plainF st e with
    | none => rw [z] at h; cases h
    | some g =>
      rw [z] at h; cases h
      obtain ⟨p, hp, rfl⟩ := List.mem_map.mp hx
      exact steady_at e h0 z _ (lsum_nm (NM := g.2.map (·.1)) (fun q hq p hp => by
        simp at hq; subst hq; exact List.mem_map.mpr ⟨p, hp, rfl⟩) p hp)
  | .bin b e1 e2, f, h0, h, x, hx => by
    unfold plainF at h
    simp only [steadyF, Bool.and_eq_true] at h0
    cases z : plainF st e1 with
    | none => rw [z] at h; cases h
    | some g =>
      cases z2 : plainF st e2 with
      | none => rw [z, z2] at h; cases h
      | some g2 =>
        rw [z, z2] at h; cases h
        obtain ⟨p, hp, rfl⟩ := List.mem_map.mp hx
        have := lsum_nm (NM := g.2.map (·.1) ++ g2.2.map (·.1)) (fun q hq p hp => by
          simp at hq
          rcases hq with rfl | rfl
          · exact List.mem_append_left _ (List.mem_map.mpr ⟨p, hp, rfl⟩)
          · exact List.mem_append_right _ (List.mem_map.mpr ⟨p, hp, rfl⟩)) p hp
        rcases List.mem_append.mp this with h | h
        · exact steady_at e1 h0.1 z _ h
        · exact steady_at e2 h0.2 z2 _ h
theorem at0 : (Str.ofString "@") = ⟨#[64]⟩ := by decide +kernel
theorem pIx_str0 {z : Str} {s : Sto} (h : 0 < z.length) (h2 : z.length ≤ sizeLine) : pIx (.str z) (.int 0) s = some (.str ⟨#[z.cps[0]]⟩, s) := by
  have e : pIx (.str z) (.int 0) s = if z.length ≤ sizeLine then (atI z.cps.toList 0).map fun c => (.str ⟨#[c]⟩, s) else none := rfl
  rw [e, if_pos h2, atI_0]
  have h3 : z.cps.toList[0]? = some z.cps[0] := by
    rw [Array.getElem?_toList]
    exact Array.getElem?_eq_getElem h
  rw [h3]; rfl
theorem app_at {y : Str} : (("@" : Str) ++ y).cps[0]? = some 64 := by
  show ((Str.ofString "@").cps ++ y.cps)[0]? = some 64
  rw [at0, Array.getElem?_append_left (by simp)]; rfl
end K69

set_option Elab.async false
set_option linter.all false
set_option maxRecDepth 100000
set_option maxHeartbeats 1000000
namespace K69
open PySem L2 Y
/-- the state of the law's loops -/
def DI (p : Pr) (Tn st : List Str) (s : Sto) (lm lt : Nat) (A : List Fm) (E : Ev) (S : Sto) : Prop :=
  ∃ (lf : Nat) (o4 o5 o6 o7 o8 o9 o10 o11 o12 : Option D), E = [some p.d, some (.loc lm), some (.loc lt), some (.loc lf), o4, o5, o6, o7, o8, o9, o10, o11, o12, none, none, none] ∧ Kp s S ∧ S[lm]? = some (.lst (Tn.map D.str)) ∧ S[lt]? = some (.lst (st.map D.str)) ∧ S[lf]? = some (.lst (A.map Fm.d))
theorem DI.step {p : Pr} {Tn st : List Str} {s S S' : Sto} {lm lt lf : Nat} {A : List Fm} {o4 o5 o6 o7 o8 o9 o10 o11 o12 : Option D} (hk : Kp s S) (h1 : S[lm]? = some (.lst (Tn.map D.str))) (h2 : S[lt]? = some (.lst (st.map D.str))) (hk2 : Kp S S') (h3 : S'[lf]? = some (.lst (A.map Fm.d))) :
    DI p Tn st s lm lt A [some p.d, some (.loc lm), some (.loc lt), some (.loc lf), o4, o5, o6, o7, o8, o9, o10, o11, o12, none, none, none] S' :=
  ⟨lf, _, _, _, _, _, _, _, _, _, rfl, hk.trans hk2, hk2.get h1, hk2.get h2, h3⟩
def duI (k : Nat) : SM := (sCons (sIf (tOfB (eBin (pCmp .In) (eCall 1 (callP pg k "_law_key") (aCons (eVar 4) aNil)) (eVar 1))) (sCons (sSet 3 (eBin (pBin .Add) (eVar 3) (eCall 2 (callP pg k "_law_both_ways") (aCons (eCall 1 (callP pg k "_law_var") (aCons (eCall 1 (callP pg k "_law_key") (aCons (eVar 4) aNil)) aNil)) (aCons (eCall 1 (callP pg k "_law_var") (aCons (eBin (pBin .Add) (eC (.str "@")) (eCall 1 (callP pg k "_law_key") (aCons (eVar 4) aNil))) aNil)) aNil)))))
  sNil) sNil)
  sNil)
def duQ (k : Nat) : SM := (sCons (sSet 9 (eCall 2 (callP pg k "_law_plainly") (aCons (eVar 7) (aCons (eVar 2) aNil))))
  (sCons (sSet 10 (eCall 2 (callP pg k "_law_plainly") (aCons (eVar 8) (aCons (eVar 2) aNil))))
  (sCons (sIf (tAn (tOfB (eBin (pCmp .IsNot) (eVar 9) (eC .non))) (tOfB (eBin (pCmp .IsNot) (eVar 10) (eC .non)))) (sCons (sSet 11 (eCall 2 (callP pg k "_law_both_ways") (aCons (eVar 9) (aCons (eVar 10) aNil))))
  (sCons (sSet 3 (eBin (pBin .Add) (eBin (pBin .Add) (eVar 3) (eVar 11)) (eAlloc (fLc (iVal (eVar 11)) (gNm 14) tYesM (eCall 1 (callP pg k "_law_sum") (aCons (eA mkLst (aCons (eA mkTup (aCons (eC (.int 1)) (aCons (eVar 14) aNil))) (aCons (eA mkTup (aCons (eUn pNeg (eC (.int 1))) (aCons (eA mkTup (aCons (eC (.int 1)) (aCons (eA mkTup aNil) aNil))) aNil))) aNil))) aNil)) [14]))))
  sNil)) sNil)
  sNil)))
def duC (k : Nat) : SM := (sCons (sIf (tOfB (eBin (pCmp .In) (eBin pIx (eVar 5) (eC (.int 0))) (eA mkLst (aCons (eC (.str "if")) (aCons (eC (.str "while")) aNil))))) (sCons (sFor (iVal (eCall 1 (callP pg k "_law_comparisons") (aCons (eBin pIx (eVar 5) (eC (.int 1))) aNil))) (gTp 3 (gsCons (gNm 6) (gsCons (gNm 7) (gsCons (gNm 8) gsNil)))) (duQ k))
  sNil) sNil)
  sNil)
def duR (k : Nat) : SM := (sCons (sSet 9 (eCall 2 (callP pg k "_law_plainly") (aCons (eVar 7) (aCons (eVar 2) aNil))))
  (sCons (sIf (tAn (tOfB (eBin (pCmp .IsNot) (eVar 9) (eC .non))) (tAn (tOfT (eL lAll (fLc (iVal (eCall 1 (callP pg k "_law_names") (aCons (eA mkLst (aCons (eVar 9) aNil)) aNil))) (gNm 15) tYesM (eBin (pCmp .Eq) (eBin pIx (eVar 15) (eC (.int 0))) (eC (.str "@"))) [15]))) (tOfT (eCall 2 (callP pg k "_law_steady") (aCons (eVar 7) (aCons (eVar 2) aNil)))))) (sCons (sSet 3 (eBin (pBin .Add) (eVar 3) (eCall 2 (callP pg k "_law_both_ways") (aCons (eCall 1 (callP pg k "_law_var") (aCons (eVar 12) aNil)) (aCons (eVar 9) aNil)))))
  sNil) sNil)
  sNil))
def duS (k : Nat) : SM := (sCons (sIf (tOfB (eBin (pCmp .Eq) (eBin pIx (eVar 5) (eC (.int 0))) (eC (.str "set")))) (sCons (sFor (iVal (eBin pIx (eVar 5) (eC (.int 1)))) (gTp 2 (gsCons (gNm 12) (gsCons (gNm 7) gsNil))) (duR k))
  sNil) sNil)
  sNil)
def duD : SM := (sCons (sIf (tAn (tOfB (eBin (pCmp .NotEq) (eBin pIx (eVar 8) (eC (.int 1))) (eA mkTup aNil))) (tOfB (eBin (pCmp .NotIn) (eVar 8) (eVar 13)))) (sCons (sExpr (eMeth "append" (eVar 13) (aCons (eVar 8) aNil)))
  sNil) sNil)
  sNil)
def duL (k : Nat) : EM Src := (iVal (eCall 1 (callP pg k "_law_statements") (aCons (eBin pIx (eVar 0) (eC (.int 8))) aNil)))
theorem due_eq {k : Nat} : m__law_due k = (sCons (sSet 2 (eCall 2 (callP pg k "_law_states") (aCons (eVar 0) (aCons (eVar 1) aNil))))
  (sCons (sSet 3 (eBin (pBin .Add) (eA mkLst (aCons (eA mkTup (aCons (eUn pNeg (eC (.int 1))) (aCons (eA mkTup aNil) aNil))) aNil)) (eAlloc (fLc (iVal (eVar 2)) (gNm 12) tYesM (eCall 1 (callP pg k "_law_var") (aCons (eVar 12) aNil)) [12]))))
  (sCons (sFor (iVal (eBin pIx (eVar 0) (eC (.int 1)))) (gNm 4) (duI k))
  (sCons (sFor (duL k) (gNm 5) (duC k))
  (sCons (sFor (duL k) (gNm 5) (duS k))
  (sCons (sSet 13 (eA mkLst (aCons (eA mkTup (aCons (eUn pNeg (eC (.int 1))) (aCons (eA mkTup aNil) aNil))) aNil)))
  (sCons (sFor (iVal (eBin (pBin .Add) (eVar 3) (eAlloc (fList (lOfE (eBin pIx (eVar 0) (eC (.int 5)))))))) (gNm 8) duD)
  (sCons (sRet (eL lTup (lOfE (eVar 13))))
  sNil)))))))) := rfl
/-- found + a fresh list -/
theorem add_FL {S S' : Sto} {i : Nat} {X Z : List Fm} {d : D} (h0 : S[i]? = some (.lst (X.map Fm.d))) (h : FL S (Z.map Fm.d) d S') (hz : X.length + Z.length ≤ 50000) :
    ∃ (l : Nat) (S2 : Sto), pAdd (.loc i) d S' = some (.loc l, S2) ∧ Kp S S2 ∧ S2[l]? = some (.lst ((X ++ Z).map Fm.d)) ∧ Kp S' S2 := by
  obtain ⟨t, e, rfl⟩ := pAdd_FL h0 h (sz' (by simp; omega))
  exact ⟨_, _, e, Kp.app.trans Kp.app, by rw [get_len]; simp, Kp.app⟩
theorem duI_turn {NM : List Str} {p : Pr} (V : WE NM p) {k : Nat} {Tn st : List Str} {s S : Sto} {lm lt : Nat} {A : List Fm} {E : Ev} {i : It} (hi : i ∈ p.items) (h30 : i.2.length ≤ 30) (hA : A.length ≤ 5000) (h : DI p Tn st s lm lt A E S) {P : Post} (hz : ∀ E S, DI p Tn st s lm lt (A ++ if keyF i ∈ Tn then diffF i else []) E S → P.nx E S) :
    (duI (k + 10) (E.set 4 (some (itD i))) S).to P := by
  obtain ⟨lf, o4, o5, o6, o7, o8, o9, o10, o11, o12, rfl, hk, h1, h2, h3⟩ := h
  have e1 := fun (st : Sto) => lkey_ok (k := k + 9) (s := st) h30
  have e2 := fun (x : Str) (st : Sto) => lvar_ok (k := k + 9) (x := x) (s := st)
  obtain ⟨n1, n2⟩ := V.its i hi
  have hx : (Str.ofString "@").length + (keyF i).length ≤ sizeLine := sz' (by have := key_len h30; rw [l1]; omega)
  have e3 := both_ok (k := k + 7) (s := S) V.nm (varF_g n1) (varF_g n2) (by decide +kernel)
  rw [show k + 7 + 3 = k + 10 by omega] at e3
  unfold duI
  simp [e1, pIn_locS h1]
  by_cases hin : keyF i ∈ Tn
  · rw [if_pos hin] at hz
    simp [hin, e2, hx]
    refine Res.to_imp e3 fun d S' hF => ?_
    obtain ⟨l, S2, q1, q2, q3, q4⟩ := add_FL h3 hF (by simp [pairF]; omega)
    simp [q1]
    exact hz _ _ (DI.step hk h1 h2 q2 q3)
  · rw [if_neg hin, List.append_nil] at hz
    simp [hin]
    exact hz _ _ (DI.step hk h1 h2 Kp.refl h3)
theorem pIsNot_f {f : Fm} {s : Sto} : pIsNot f.d .non s = some (.bl true, s) := rfl
theorem pIsNot_n {s : Sto} : pIsNot .non .non s = some (.bl false, s) := rfl
theorem one_part {g : Fm} : lsum [(1, g), (-1, (1, []))] = lsum [(1, g), (1, mOne)] := by
  unfold lsum
  simp [partsC, partsP, mOne]
theorem duQ_turn {NM : List Str} {p : Pr} (V : WE NM p) {k : Nat} {Tn st : List Str} {s S : Sto} {lm lt : Nat} {A : List Fm} {E : Ev} {q : Cmp} (hq : q.2.1.ok NM ∧ q.2.2.ok NM ∧ q.2.1.dep ≤ 3 ∧ q.2.2.dep ≤ 3) (hA : A.length ≤ 9000) (h : DI p Tn st s lm lt A E S) {P : Post} (hz : ∀ E S', Kp S S' → DI p Tn st s lm lt (A ++ cmpF st q) E S' → P.nx E S') :
    (duQ (k + 10) (((E.set 6 (some (.str (if q.1 = true then "same" else "less")))).set 7 (some q.2.1.d)).set 8 (some q.2.2.d)) S).to P := by
  obtain ⟨lf, o4, o5, o6, o7, o8, o9, o10, o11, o12, rfl, hk, h1, h2, h3⟩ := h
  obtain ⟨q0, a, b⟩ := q
  obtain ⟨h4, h5, h6, h7⟩ := hq
  simp only at h4 h5 h6 h7
  have e1 := plainly_ok (NM := NM) (st := st) V.nm 4 a (k + 4) lt S (by omega) (by omega) h4 h2
  have e2 := plainly_ok (NM := NM) (st := st) V.nm 4 b (k + 4) lt S (by omega) (by omega) h5 h2
  rw [show 4 + (k + 4) + 2 = k + 10 by omega] at e1 e2
  have p3 : ∀ d, d ≤ 3 → 6 * 4 ^ d ≤ 6 * 4 ^ 3 := fun d hd => Nat.mul_le_mul_left 6 (Nat.pow_le_pow_right (by decide) hd)
  unfold duQ
  simp only [cmpF] at hz
  simp [e1, e2]
  cases y1 : plainF st a with
  | none =>
    rw [y1] at hz
    simp [oD, pIsNot_n, pIsNot_f]
    exact hz _ _ Kp.refl (by rw [List.append_nil]; exact DI.step hk h1 h2 Kp.refl h3)
  | some f =>
    cases y2 : plainF st b with
    | none =>
      rw [y1, y2] at hz
      simp [oD, pIsNot_n, pIsNot_f]
      exact hz _ _ Kp.refl (by rw [List.append_nil]; exact DI.step hk h1 h2 Kp.refl h3)
    | some g =>
      rw [y1, y2] at hz
      have g1 := (plainF_g a h4 y1).mono (p3 _ h6)
      have g2 := (plainF_g b h5 y2).mono (p3 _ h7)
      have e3 := both_ok (k := k + 7) (s := S) V.nm g1 g2 (by decide +kernel)
      rw [show k + 7 + 3 = k + 10 by omega] at e3
      have z0 : 0 ≤ sizeLine := Nat.zero_le _
      have z2 : 2 ≤ sizeLine := sz' (by decide)
      simp [oD, pIsNot_n, pIsNot_f]
      refine Res.to_imp e3 fun d S1 hF => ?_
      obtain ⟨l, S2, q1, q2, q3, q4⟩ := add_FL h3 hF (by simp [pairF]; omega)
      obtain ⟨lp, rfl, hlp, hk1, hg1⟩ := hF.kp
      have hg2 := q4.get hg1
      simp [q1, hg2]
      have pg3 : ∀ z ∈ pairF f g, GF NM (4 * (6 * 4 ^ 3)) z := fun z hz => pairF_g g1 g2 hz
      refine compLst (xs := (pairF f g).map Fm.d) (fun j acc S3 => Kp S2 S3 ∧ acc = ((pairF f g).take j).map fun z => (lsum [(1, z), (1, mOne)]).d) (sz (by simp [pairF])) (fun i acc S3 h => h.1.get hg2) ⟨Kp.refl, by simp⟩ ?_ ?_
      · rintro j d acc S3 hd ⟨hk3, rfl⟩
        obtain ⟨z, hzj, rfl⟩ := map_at hd
        rw [turnC_to]
        simp [z2, z0]
        have e4 := fun (st2 : Sto) (a : Nat) (ha : st2[a]? = some (.lst [partD (1, z), partD (-1, (1, []))])) => sum2_l K69.ls K69.lf (k := k + 8) (d := .loc a) (s := st2) (a := 1) (b := -1) (g := (1, [])) (by rw [seq_loc, ha]; rfl) (pg3 z (List.mem_of_getElem? hzj)) (⟨(by simp [formL, sumsP, srtS] : formL [] = []), (by decide), fun p hp => (by cases hp), fun p hp => (by cases hp)⟩) (by decide) (by decide) (by decide +kernel) V.nm
        rw [show k + 8 + 2 = k + 10 by omega] at e4
        rw [e4 _ _ (by rw [get_len]; rfl), one_part]
        simp
        refine ⟨hk3.trans Kp.app, ?_⟩
        rw [← List.map_take, ← List.map_take, List.take_add_one, hzj]
        simp
      · rintro acc S3 ⟨hk3, rfl⟩
        rw [List.length_map, List.take_length]
        have hg3 := hk3.get q3
        have hlt := (List.getElem?_eq_some_iff.mp hg3).1
        show Res.to _ _ _
        rw [pAdd_loc (xs := (A ++ pairF f g).map Fm.d) (ys := (pairF f g).map fun z => (lsum [(1, z), (1, mOne)]).d) (by rw [get_lt hlt]; exact hg3) (by simp) (sz' (by simp [pairF]; omega))]
        simp
        have hkk := (q2.trans hk3).trans (Kp.app (t := [O.lst ((pairF f g).map fun z => (lsum [(1, z), (1, mOne)]).d), O.lst ((A ++ pairF f g).map Fm.d ++ (pairF f g).map fun z => (lsum [(1, z), (1, mOne)]).d)]))
        simp at hkk
        refine hz _ _ hkk (DI.step hk h1 h2 hkk ?_)
        rw [get_len_add]
        simp
end K69

set_option Elab.async false
set_option linter.all false
set_option maxRecDepth 100000
set_option maxHeartbeats 1000000
namespace K69
open PySem L2 Y
theorem duC_turn {NM : List Str} {p : Pr} (V : WE NM p) {k : Nat} {Tn st : List Str} {s S : Sto} {lm lt : Nat} {A : List Fm} {E : Ev} {q : Sm} (hq : wfE NM q) (hA : A.length ≤ 5000) (h : DI p Tn st s lm lt A E S) {P : Post} (hz : ∀ E S', Kp S S' → DI p Tn st s lm lt (A ++ cmpsS st q) E S' → P.nx E S') :
    (duC (k + 10) (E.set 5 (some q.d)) S).to P := by
  obtain ⟨lf, o4, o5, o6, o7, o8, o9, o10, o11, o12, rfl, hk, h1, h2, h3⟩ := h
  have z2 : 2 ≤ sizeLine := sz' (by decide)
  have go : ∀ (c : Cd) (dd : Option D) (X1 X2 : Str → Sto → Prop) (S0 : Sto), Kp S S0 → (c.dep ≤ 3 ∧ c.comps.length ≤ 4 ∧ ∀ q ∈ c.comps, q.2.1.ok NM ∧ q.2.2.ok NM ∧ q.2.1.dep ≤ 3 ∧ q.2.2.dep ≤ 3) → (∀ E S', Kp S S' → DI p Tn st s lm lt (A ++ c.comps.flatMap (cmpF st)) E S' → P.nx E S') →
      ((callP pg (k + 10) "_law_comparisons" [c.d] S0).to (fun d S1 => (Res.ofL (srcD d S1) S1).to (fun src S1 => (forS (gTp 3 (gsCons (gNm 6) (gsCons (gNm 7) (gsCons (gNm 8) gsNil)))) (duQ (k + 10)) src [some p.d, some (.loc lm), some (.loc lt), some (.loc lf), o4, dd, o6, o7, o8, o9, o10, o11, o12, none, none, none] S1).to P) X1) X2) := fun c dd X1 X2 S0 hk0 hc hz => by
    obtain ⟨c1, c2, c3⟩ := hc
    have e0 := lcomps_ok 4 c (k + 6) S0 (by omega) (by omega)
    rw [show 4 + (k + 6) = k + 10 by omega] at e0
    refine Res.to_imp e0 fun d S1 hF => ?_
    obtain ⟨lc, rfl, hlc, hk1, hgc⟩ := hF.kp
    simp [hgc]
    have hk01 := hk0.trans hk1
    refine forLst (xs := c.comps.map cmpD) (fun i E S' => DI p Tn st s lm lt (A ++ (c.comps.take i).flatMap (cmpF st)) E S' ∧ S'[lc]? = some (.lst (c.comps.map cmpD)) ∧ Kp S S') (by rw [List.length_map]; unfold fuelMax; omega) (fun i E S h => h.2.1) ⟨DI.step hk h1 h2 hk01 (by simpa using hk01.get h3), hgc, hk01⟩ ?_ ?_
    · rintro i d E S2 hd ⟨h, h5, hk2⟩
      obtain ⟨q, hq, rfl⟩ := map_at hd
      rw [take_flat hq, ← List.append_assoc]
      have hBl : (A ++ (c.comps.take i).flatMap (cmpF st)).length ≤ 5100 := by
        have := take_flat_len (f := cmpF st) (l := c.comps) (i := i) (n := 4) fun a _ => cmpF_len
        rw [List.length_append]; omega
      generalize A ++ (c.comps.take i).flatMap (cmpF st) = B at hBl h ⊢
      have := fun P hz => duQ_turn V (k := k) (c3 q (List.mem_of_getElem? hq)) (by omega) h (P := P) hz
      obtain ⟨q0, a, b⟩ := q
      have ed : cmpD (q0, a, b) = .tup [.str (if q0 = true then "same" else "less"), a.d, b.d] := rfl
      rw [ed]
      simp
      exact this _ fun E S' hk' h' => ⟨h', hk'.get h5, hk2.trans hk'⟩
    · rintro E S2 ⟨h, _, hk2⟩
      rw [List.length_map, List.take_length] at h
      exact hz _ _ hk2 h
  have ha : Kp S (S ++ [O.lst [D.str (Str.ofString "if"), D.str (Str.ofString "while")]]) := Kp.app
  have idle : cmpsS st q = [] → ∀ dd, P.nx [some p.d, some (.loc lm), some (.loc lt), some (.loc lf), o4, dd, o6, o7, o8, o9, o10, o11, o12, none, none, none] (S ++ [O.lst [D.str (Str.ofString "if"), D.str (Str.ofString "while")]]) := fun e dd =>
    hz _ _ ha (by rw [e, List.append_nil]; exact DI.step hk h1 h2 ha (ha.get h3))
  unfold duC
  cases q with
  | whl c b => simp [Sm.d, ofString_inj, pIn_lst2 (a := "if") (b := "while"), z2]; exact go c _ _ _ _ ha hq hz
  | ite c b1 b2 => simp [Sm.d, ofString_inj, pIn_lst2 (a := "if") (b := "while"), z2]; exact go c _ _ _ _ ha hq hz
  | pause => simp [Sm.d, ofString_inj, pIn_lst2 (a := "if") (b := "while"), z2]; exact idle rfl _
  | push e a => simp [Sm.d, ofString_inj, pIn_lst2 (a := "if") (b := "while"), z2]; exact idle rfl _
  | store a e f => simp [Sm.d, ofString_inj, pIn_lst2 (a := "if") (b := "while"), z2]; exact idle rfl _
  | pop x a => simp [Sm.d, ofString_inj, pIn_lst2 (a := "if") (b := "while"), z2]; exact idle rfl _
  | call f as ts => simp [Sm.d, ofString_inj, pIn_lst2 (a := "if") (b := "while"), z2]; exact idle rfl _
  | set q => simp [Sm.d, ofString_inj, pIn_lst2 (a := "if") (b := "while"), z2]; exact idle rfl _
  | give es => simp [Sm.d, ofString_inj, pIn_lst2 (a := "if") (b := "while"), z2]; exact idle rfl _
def atB (z : Str) : Bool := decide ((⟨#[z.cps.getD 0 0]⟩ : Str) = Str.ofString "@")
theorem duR_turn {NM : List Str} {p : Pr} (V : WE NM p) {k : Nat} {Tn st : List Str} {s S : Sto} {lm lt : Nat} {A : List Fm} {E : Ev} {r : Str × Ex} (hr : r.1 ∈ NM ∧ r.2.ok NM ∧ r.2.dep ≤ 3) (hNM : ∀ x ∈ NM, x.length ≤ 60) (hA : A.length ≤ 9000) (h : DI p Tn st s lm lt A E S) {P : Post} (hz : ∀ E S', Kp S S' → DI p Tn st s lm lt (A ++ setF st r) E S' → P.nx E S') :
    (duR (k + 10) ((E.set 12 (some (.str r.1))).set 7 (some r.2.d)) S).to P := by
  obtain ⟨lf, o4, o5, o6, o7, o8, o9, o10, o11, o12, rfl, hk, h1, h2, h3⟩ := h
  obtain ⟨x, e⟩ := r
  obtain ⟨r1, r2, r3⟩ := hr
  simp only at r1 r2 r3
  have e1 := plainly_ok (NM := NM) (st := st) V.nm 4 e (k + 4) lt S (by omega) (by omega) r2 h2
  rw [show 4 + (k + 4) + 2 = k + 10 by omega] at e1
  have p3 : 6 * 4 ^ e.dep ≤ 6 * 4 ^ 3 := Nat.mul_le_mul_left 6 (Nat.pow_le_pow_right (by decide) r3)
  have z1 : 1 ≤ sizeLine := sz' (by decide)
  unfold duR
  simp [e1]
  cases y1 : plainF st e with
  | none =>
    have hs : setF st (x, e) = [] := by unfold setF; simp only [y1]; split <;> rfl
    rw [hs, List.append_nil] at hz
    simp [oD, pIsNot_n]
    exact hz _ _ Kp.refl (DI.step hk h1 h2 Kp.refl h3)
  | some f =>
    have g1 := (plainF_g e r2 y1).mono p3
    simp [oD, pIsNot_f, z1]
    have e2 := lnames_ok (k := k + 9) (l := S.length) (f := f) (s := S ++ [O.lst [f.d]]) (by have := g1.len; have := V.nm; omega) (by rw [get_len]; rfl)
    refine Res.to_imp e2 fun d S1 ⟨zs, hF, hzl, hzm⟩ => ?_
    obtain ⟨l, rfl, hl, hk1, hg⟩ := hF.kp
    have hk01 : Kp S S1 := Kp.app.trans hk1
    have hnames : ∀ z ∈ zs, z ∈ NM := fun z hz => by
      obtain ⟨p, hp, rfl⟩ := List.mem_map.mp (hzm z hz)
      exact g1.nm p hp
    simp [hg]
    rw [compLst_map (f := fun d => match d with | .str z => some (.bl (atB z)) | _ => none) hg (sz (by simp; omega))]
    · have e3 : (zs.map D.str).filterMap (fun d => match d with | .str z => some (D.bl (atB z)) | _ => none) = zs.map fun z => D.bl (atB z) := by
        rw [List.filterMap_map, ← List.filterMap_eq_map]; rfl
      have e4 : ∀ zs : List Str, blsD (zs.map fun z => D.bl (atB z)) = some (zs.map atB) := fun zs => by
        induction zs with
        | nil => rfl
        | cons a r ih => rw [List.map_cons, blsD, ih]; rfl
      have e5 := lsteady_ok (NM := NM) (st := st) 4 e (k + 6) lt S1 (by omega) r2 (hk01.get h2)
      rw [show 4 + (k + 6) = k + 10 by omega] at e5
      rw [e3]
      simp [lAll, e4, e5]
      by_cases hst : steadyF st e = true
      · have hs : setF st (x, e) = pairF (varF x) f := by unfold setF; simp only [y1, if_pos hst]
        have hall : ∀ z ∈ zs, atB z = true := fun z hz => by
          obtain ⟨y, rfl⟩ := steady_at e hst y1 z (hzm z hz)
          have := app_at (y := y)
          unfold atB
          rw [Array.getD_eq_getD_getElem?, this, at0]
          rfl
        rw [hs] at hz
        have e6 := both_ok (k := k + 7) (s := S1) V.nm ((varF_g r1).mono (show 6 ≤ 6 * 4 ^ 3 by decide)) g1 (by decide +kernel)
        rw [show k + 7 + 3 = k + 10 by omega] at e6
        have e7 := lvar_ok (k := k + 9) (x := x) (s := S1)
        rw [show k + 9 + 1 = k + 10 by omega] at e7
        simp [hst, e7]
        refine ⟨fun _ => ?_, fun z hz1 hz2 => by rw [hall z hz1] at hz2; cases hz2⟩
        refine Res.to_imp e6 fun d S' hF => ?_
        obtain ⟨l, S2, q1, q2, q3, q4⟩ := add_FL (hk01.get h3) hF (by simp [pairF]; omega)
        simp [q1]
        exact hz _ _ (hk01.trans q2) (DI.step hk h1 h2 (hk01.trans q2) q3)
      · have hs : setF st (x, e) = [] := by unfold setF; simp only [if_neg hst]
        rw [hs, List.append_nil] at hz
        simp [hst]
        exact ⟨fun _ => hz _ _ hk01 (DI.step hk h1 h2 hk01 (hk01.get h3)), fun _ _ _ => hz _ _ hk01 (DI.step hk h1 h2 hk01 (hk01.get h3))⟩
    · intro d hd
      obtain ⟨z, hz, rfl⟩ := List.mem_map.mp hd
      have hn := hnames z hz
      have hz0 := (V.ne z hn).2
      have hz1 := hNM z hn
      unfold turnC
      have e9 : z.cps.getD 0 0 = z.cps[0] := by
        rw [Array.getD_eq_getD_getElem?, Array.getElem?_eq_getElem hz0]; rfl
      simp [noX, Res.ofO, pIx_str0 hz0 (sz' (by omega)), atB, e9]
theorem duS_turn {NM : List Str} {p : Pr} (V : WE NM p) (hNM : ∀ x ∈ NM, x.length ≤ 60) {k : Nat} {Tn st : List Str} {s S : Sto} {lm lt : Nat} {A : List Fm} {E : Ev} {q : Sm} (hq : wfE NM q) (hA : A.length ≤ 8000) (h : DI p Tn st s lm lt A E S) {P : Post} (hz : ∀ E S', Kp S S' → DI p Tn st s lm lt (A ++ setsS st q) E S' → P.nx E S') :
    (duS (k + 10) (E.set 5 (some q.d)) S).to P := by
  obtain ⟨lf, o4, o5, o6, o7, o8, o9, o10, o11, o12, rfl, hk, h1, h2, h3⟩ := h
  have idle : setsS st q = [] → ∀ dd, P.nx [some p.d, some (.loc lm), some (.loc lt), some (.loc lf), o4, dd, o6, o7, o8, o9, o10, o11, o12, none, none, none] S := fun e dd =>
    hz _ _ Kp.refl (by rw [e, List.append_nil]; exact DI.step hk h1 h2 Kp.refl h3)
  unfold duS
  cases q with
  | set q =>
    simp [Sm.d, ofString_inj, setD]
    refine forFix (fun i E S' => DI p Tn st s lm lt (A ++ (q.take i).flatMap (setF st)) E S' ∧ Kp S S') ⟨DI.step hk h1 h2 Kp.refl (by simpa using h3), Kp.refl⟩ ?_ ?_
    · rintro i d E S2 hd ⟨h, hk2⟩
      obtain ⟨r, hr, rfl⟩ := map_at hd
      rw [take_flat hr, ← List.append_assoc]
      have hql : q.length ≤ 2 := hq.1
      have hBl : (A ++ (q.take i).flatMap (setF st)).length ≤ 9000 := by
        have := take_flat_len (f := setF st) (l := q) (i := i) (n := 2) fun a _ => setF_len
        rw [List.length_append]; omega
      generalize A ++ (q.take i).flatMap (setF st) = B at hBl h ⊢
      have := fun P hz => duR_turn V (k := k) (hq.2 r (List.mem_of_getElem? hr)) hNM hBl h (P := P) hz
      simp
      exact this _ fun E S' hk' h' => ⟨h', hk2.trans hk'⟩
    · rintro E S2 ⟨h, hk2⟩
      rw [List.length_map, List.take_length] at h
      exact hz _ _ hk2 h
  | whl c b => simp [Sm.d, ofString_inj]; exact idle rfl _
  | ite c b1 b2 => simp [Sm.d, ofString_inj]; exact idle rfl _
  | pause => simp [Sm.d, ofString_inj]; exact idle rfl _
  | push e a => simp [Sm.d, ofString_inj]; exact idle rfl _
  | store a e f => simp [Sm.d, ofString_inj]; exact idle rfl _
  | pop x a => simp [Sm.d, ofString_inj]; exact idle rfl _
  | call f as ts => simp [Sm.d, ofString_inj]; exact idle rfl _
  | give es => simp [Sm.d, ofString_inj]; exact idle rfl _
end K69

set_option Elab.async false
set_option linter.all false
set_option maxRecDepth 100000
set_option maxHeartbeats 1000000
namespace K69
open PySem L2 Y
theorem pNe_fm {f : Fm} {s : Sto} (h : ∀ q ∈ f.2, sOk q.1 = true) : pNe (.tup (f.2.map pD)) (.tup []) s = some (.bl (!f.2.isEmpty), s) := by
  have hd : datS 2 (.tup (f.2.map pD)) = true := by
    simp only [datS]
    rw [datSL_iff]
    intro x hx
    obtain ⟨p, hp, rfl⟩ := List.mem_map.mp hx
    simp [pD, datS, datSL, h p hp]
  rw [(pEq_tups (n := 2) hd (by simp [datS, datSL]) (by decide)).2]
  cases h : f.2 with
  | nil => rfl
  | cons a r => rfl
theorem due_ok {core : List Pr} (W : WF core) {NM : List Str} {p : Pr} (V : WE NM p) (hNM : ∀ x ∈ NM, x.length ≤ 60) (hp : p ∈ core) {k lm : Nat} {Tn : List Str} {s : Sto} (hm : s[lm]? = some (.lst (Tn.map D.str))) :
    callP pg (k + 30) "_law_due" [p.d, .loc lm] s = .ok (.tup ((candF p Tn).map Fm.d)) s := by
  have hi := W.its p hp
  have hlen := W.len p hp
  rw [c__law_due, due_eq]
  refine kp_gc candF_cl ?_
  have hmv : (movF p Tn).length ≤ 3 := Nat.le_trans (List.length_filter_le _ _) hi.1
  have hsl : (statesF p Tn).length ≤ 7 := by
    unfold statesF
    rw [List.length_map, List.length_append]
    have : (p.items.filter fun i => decide (keyF i ∈ Tn)).length ≤ p.items.length := List.length_filter_le _ _
    omega
  have z0 : 0 ≤ sizeLine := Nat.zero_le _
  have z1 : 1 ≤ sizeLine := sz' (by decide)
  have z2 : 2 ≤ sizeLine := sz' (by decide)
  rw [show candF p Tn = (candL p Tn).foldl addF [mOne] from rfl]
  have hcl : candL p Tn = (statesF p Tn).map varF ++ (movF p Tn).flatMap diffF ++ (Sm.allL p.body).flatMap (cmpsS (statesF p Tn)) ++ (Sm.allL p.body).flatMap (setsS (statesF p Tn)) ++ p.hints := rfl
  have hsok := cand_sok V (Tn := Tn)
  have hcm := cmps_sum V (st := statesF p Tn) hlen
  have hse := sets_sum V (st := statesF p Tn) hlen
  have hdl := diff_len (movF p Tn)
  have e1 := lstates_ok (k := k + 27) (p := p) (s := s) hi.2.2 (by omega) (by omega) hm
  rw [show k + 27 + 2 = k + 29 by omega] at e1
  generalize hst : statesF p Tn = st at *
  simp
  refine Res.to_imp e1 fun d S1 hF => ?_
  obtain ⟨lt, rfl, hlt, hk1, hg1⟩ := hF.kp
  have hltl := (List.getElem?_eq_some_iff.mp hg1).1
  simp [z0, z1, z2, get_lt hltl, hg1]
  rw [compLst_on (F := D.str) (f := fun x => (varF x).d) (l := st) (by rw [get_lt hltl]; exact hg1) (sz (by omega))]
  · simp only [to_ok]
    rw [pAdd_loc (xs := [mOne.d]) (ys := st.map fun x => (varF x).d) (by rw [List.append_assoc, get_len]; rfl) (by rw [get_len]; rfl) (sz' (by simp; omega))]
    simp
    have hkA : Kp S1 (S1 ++ [O.lst [D.tup [D.int (-1), D.tup []]], O.lst (st.map fun x => (varF x).d), O.lst (mOne.d :: st.map fun x => (varF x).d)]) := Kp.app
    have hd0 : DI p Tn st s lm lt (mOne :: st.map varF) [some p.d, some (.loc lm), some (.loc lt), some (.loc (S1.length + 2)), none, none, none, none, none, none, none, none, none, none, none, none] (S1 ++ [O.lst [D.tup [D.int (-1), D.tup []]], O.lst (st.map fun x => (varF x).d), O.lst (mOne.d :: st.map fun x => (varF x).d)]) :=
      DI.step hk1 (hk1.get hm) hg1 hkA (by rw [get_len_add]; simp)
    generalize S1 ++ [O.lst [D.tup [D.int (-1), D.tup []]], O.lst (st.map fun x => (varF x).d), O.lst (mOne.d :: st.map fun x => (varF x).d)] = S2 at hd0 ⊢
    generalize S1.length + 2 = lf0 at hd0 ⊢
    rw [pr_d p]
    simp
    rw [← pr_d p]
    refine forFix (fun i E S => DI p Tn st s lm lt ((mOne :: st.map varF) ++ (p.items.take i).flatMap fun i => if keyF i ∈ Tn then diffF i else []) E S) (by simpa using hd0) ?_ ?_
    · rintro i d E S hd h
      obtain ⟨it, hit, rfl⟩ := map_at hd
      have hmem := List.mem_of_getElem? hit
      rw [take_flat hit, ← List.append_assoc]
      have hB : ((mOne :: st.map varF) ++ (p.items.take i).flatMap fun i => if keyF i ∈ Tn then diffF i else []).length ≤ 5000 := by
        have := take_flat_len (f := fun i : It => if keyF i ∈ Tn then diffF i else []) (l := p.items) (i := i) (n := 2) fun a _ => by split <;> simp [diffF, pairF]
        rw [List.length_append, List.length_cons, List.length_map]; omega
      generalize (mOne :: st.map varF) ++ (p.items.take i).flatMap (fun i => if keyF i ∈ Tn then diffF i else []) = B at hB h ⊢
      simp only [gNm_ap, to_ok]
      exact duI_turn V (k := k + 19) hmem (hi.2.2 it (List.mem_append_left _ hmem)) hB h fun E S h => h
    · intro E S3 h
      rw [List.length_map, List.take_length] at h
      have e2 : (p.items.flatMap fun i => if keyF i ∈ Tn then diffF i else []) = (movF p Tn).flatMap diffF := by
        unfold movF
        generalize p.items = l
        induction l with
        | nil => rfl
        | cons a r ih =>
          rw [List.flatMap_cons, List.filter_cons, ih]
          by_cases hk : keyF a ∈ Tn <;> simp [hk]
      rw [e2] at h
      have hB1 : ((mOne :: st.map varF) ++ (movF p Tn).flatMap diffF).length ≤ 20 := by
        rw [List.length_append, List.length_cons, List.length_map]; omega
      generalize hB1e : (mOne :: st.map varF) ++ (movF p Tn).flatMap diffF = B1 at h hB1
      have stm : ∀ (E : Ev) (S : Sto) (A : List Fm) (Q : Src → Sto → Prop) (X : Str → Sto → Prop), DI p Tn st s lm lt A E S → (∀ ls S', Kp S S' → S'[ls]? = some (.lst ((Sm.allL p.body).map Sm.d)) → DI p Tn st s lm lt A E S' → Q (.lst ls) S') → (duL (k + 29) E S).to Q X := fun E S A Q X h hq => by
        obtain ⟨lf, o4, o5, o6, o7, o8, o9, o10, o11, o12, rfl, hk, h1, h2, h3⟩ := h
        unfold duL
        simp
        rw [pr_d p]
        simp
        have f4 := lstmts_ok 9 (k + 20) p.body S (by have := W.dep p hp; omega) (by omega)
        rw [show 9 + (k + 20) = k + 29 by omega] at f4
        refine Res.to_imp f4 fun d S5 hF5 => ?_
        obtain ⟨ls, rfl, hls0, hk5, hls⟩ := hF5.kp
        simp [hls]
        exact hq ls S5 hk5 hls (DI.step hk h1 h2 hk5 (hk5.get h3))
      simp only [st_for, st_cons]
      refine stm _ _ _ _ _ h fun ls S4 hk4 hls h => ?_
      refine forLst (xs := (Sm.allL p.body).map Sm.d) (fun i E S => DI p Tn st s lm lt (B1 ++ ((Sm.allL p.body).take i).flatMap (cmpsS st)) E S ∧ S[ls]? = some (.lst ((Sm.allL p.body).map Sm.d))) (by rw [List.length_map]; unfold fuelMax; omega) (fun i E S h => h.2) ⟨by simpa using h, hls⟩ ?_ ?_
      · rintro i d E S hd ⟨h, hls⟩
        obtain ⟨q, hq, rfl⟩ := map_at hd
        rw [take_flat hq, ← List.append_assoc]
        have := hcm.2 i
        have hB : (B1 ++ ((Sm.allL p.body).take i).flatMap (cmpsS st)).length ≤ 5000 := by rw [List.length_append]; omega
        generalize B1 ++ ((Sm.allL p.body).take i).flatMap (cmpsS st) = B at hB h ⊢
        simp only [gNm_ap, to_ok]
        exact duC_turn V (k := k + 19) (V.st q (List.mem_of_getElem? hq)) hB h fun E S' hk' h' => ⟨h', hk'.get hls⟩
      · rintro E S5 ⟨h, _⟩
        rw [List.length_map, List.take_length] at h
        have hB2 : (B1 ++ (Sm.allL p.body).flatMap (cmpsS st)).length ≤ 3300 := by rw [List.length_append]; omega
        generalize hB2e : B1 ++ (Sm.allL p.body).flatMap (cmpsS st) = B2 at hB2 h
        refine stm _ _ _ _ _ h fun ls S6 hk6 hls h => ?_
        refine forLst (xs := (Sm.allL p.body).map Sm.d) (fun i E S => DI p Tn st s lm lt (B2 ++ ((Sm.allL p.body).take i).flatMap (setsS st)) E S ∧ S[ls]? = some (.lst ((Sm.allL p.body).map Sm.d))) (by rw [List.length_map]; unfold fuelMax; omega) (fun i E S h => h.2) ⟨by simpa using h, hls⟩ ?_ ?_
        · rintro i d E S hd ⟨h, hls⟩
          obtain ⟨q, hq, rfl⟩ := map_at hd
          rw [take_flat hq, ← List.append_assoc]
          have := hse.2 i
          have hB : (B2 ++ ((Sm.allL p.body).take i).flatMap (setsS st)).length ≤ 8000 := by rw [List.length_append]; omega
          generalize B2 ++ ((Sm.allL p.body).take i).flatMap (setsS st) = B at hB h ⊢
          simp only [gNm_ap, to_ok]
          exact duS_turn V hNM (k := k + 19) (V.st q (List.mem_of_getElem? hq)) hB h fun E S' hk' h' => ⟨h', hk'.get hls⟩
        · rintro E S7 ⟨h, _⟩
          rw [List.length_map, List.take_length] at h
          have hB3 : (B2 ++ (Sm.allL p.body).flatMap (setsS st)).length ≤ 4200 := by rw [List.length_append]; omega
          have eX : mOne :: candL p Tn = (B2 ++ (Sm.allL p.body).flatMap (setsS st)) ++ p.hints := by rw [hcl, ← hB2e, ← hB1e]; simp
          generalize B2 ++ (Sm.allL p.body).flatMap (setsS st) = B3 at hB3 h eX
          obtain ⟨lf, o4, o5, o6, o7, o8, o9, o10, o11, o12, rfl, hk, h1, h2, h3⟩ := h
          have hlf := (List.getElem?_eq_some_iff.mp h3).1
          have hh := V.hs.1
          simp [z0, z1, z2]
          rw [pr_d p]
          simp
          rw [← pr_d p]
          rw [pAdd_loc (xs := B3.map Fm.d) (ys := p.hints.map Fm.d) (by rw [get_lt hlf]; exact h3) (by rw [get_len_add]; rfl) (sz' (by simp; omega))]
          simp
          have eL : B3.map Fm.d ++ p.hints.map Fm.d = (mOne :: candL p Tn).map Fm.d := by rw [eX, List.map_append]
          rw [eL]
          have hfl : (mOne :: candL p Tn).length ≤ 5000 := by rw [eX, List.length_append]; omega
          have hso : ∀ f ∈ mOne :: candL p Tn, ∀ q ∈ f.2, sOk q.1 = true := fun f hf => by
            rcases List.mem_cons.mp hf with rfl | hf
            · intro q hq; cases hq
            · exact hsok f hf
          have hend : (mOne :: candL p Tn).foldl addF [mOne] = (candL p Tn).foldl addF [mOne] := by
            rw [List.foldl_cons]; simp [addF, mOne]
          rw [← hend]
          generalize mOne :: candL p Tn = fs at hfl hso ⊢
          have kk : ∀ t, Kp s (S7 ++ t) := fun t => hk.trans Kp.app
          refine forLst (xs := fs.map Fm.d) (fun i E S => ∃ o8 : Option D, E = [some p.d, some (.loc lm), some (.loc lt), some (.loc lf), o4, o5, o6, o7, o8, o9, o10, o11, o12, some (.loc S7.length), none, none] ∧ S = S7 ++ [O.lst (((fs.take i).foldl addF [mOne]).map Fm.d), O.lst (p.hints.map Fm.d), O.lst (fs.map Fm.d)]) (by rw [List.length_map]; unfold fuelMax; omega) ?_ ⟨o8, rfl, by simp [mOne, Fm.d, fD]⟩ ?_ ?_
          · rintro i E S ⟨o8, rfl, rfl⟩
            rw [get_len_add]; rfl
          · rintro i d E S hd ⟨o8, rfl, rfl⟩
            obtain ⟨f, hf, rfl⟩ := map_at hd
            have hst : (fs.take (i + 1)).foldl addF [mOne] = addF ((fs.take i).foldl addF [mOne]) f := by rw [List.take_add_one, hf, List.foldl_append]; rfl
            obtain ⟨a1, a2⟩ := fold_addF (fs.take i) [mOne]
            have hfm := hso f (List.mem_of_getElem? hf)
            have hA : ∀ g ∈ (fs.take i).foldl addF [mOne], ∀ p ∈ g.2, sOk p.1 = true := fun g hg => by
              rcases a2 g hg with h | h
              · rw [List.mem_singleton.mp h]; intro p hp; cases hp
              · exact hso g (List.mem_of_mem_take h)
            have hfd := fm_dat hfm
            rw [hst]
            rw [List.length_take] at a1
            generalize (fs.take i).foldl addF [mOne] = A at a1 hA ⊢
            have hAd : datSL 3 (A.map Fm.d) = true := datSL_iff.mpr fun x hx => by
              obtain ⟨g, hg, rfl⟩ := List.mem_map.mp hx
              exact fm_dat (hA g hg)
            have hz : A.length < sizeLine := sz (by simp at a1; omega)
            have hin := pNotIn_data (s := S7 ++ [O.lst (A.map Fm.d), O.lst (p.hints.map Fm.d), O.lst (fs.map Fm.d)]) (k := S7.length) (ys := A.map Fm.d) (x := f.d) (by simp) hfd hAd (by decide) rfl
            rw [mem_fmD] at hin
            have hpx : f.d = .tup [.int f.1, .tup (f.2.map pD)] := rfl
            unfold duD
            simp [hpx, pNe_fm hfm, z0]
            rw [← hpx, hin]
            unfold addF
            by_cases h0 : f.2 = []
            · simp [h0]
            · by_cases h1 : f ∈ A
              · simp [h0, h1]
              · simp [h0, h1, meth_append (xs := A.map Fm.d), mAppend_ap (xs := A.map Fm.d), hz]
          · rintro E S ⟨o8, rfl, rfl⟩
            simp
            exact kk _
  · intro x hx
    unfold turnC
    simp [noX, Res.ofO, lvar_ok (k := k + 28)]
end K69

set_option Elab.async false
set_option linter.all false
set_option maxRecDepth 100000
set_option maxHeartbeats 1000000
namespace Y
open PySem L2
section
variable {ns : List Int} {i j C : Nat} {s s' : Sto} {d : D}
/-- a result without objects, behind draws -/
theorem gcU {Q : D → Sto → Prop} {X : Str → Sto → Prop} (h : Q d s') (h2 : Q d (s'.take s.length)) : (gc s (.ok d s')).to Q X := gc_both h fun _ => h2
theorem lg {m : Int} (h : m.natAbs ≤ 1000 := by decide) : m.natAbs.log2 < 9000 := Nat.lt_of_le_of_lt (small_log (m := 60) (by omega)) (by decide)
end
end Y
namespace K69
open PySem L2 Y
def Ex.gen (xs ys : List Str) : Ex → Prop
  | .num n => 0 ≤ n ∧ n ≤ 6
  | .nm x => x ∈ xs
  | .len a => a ∈ ys
  | .item a e => a ∈ ys ∧ e.gen xs ys
  | .quo _ e n => (1 ≤ n ∧ n ≤ 4) ∧ e.gen xs ys
  | .scl k e => (k = -1 ∨ k = 2) ∧ e.gen xs ys
  | .bin _ e f => e.gen xs ys ∧ f.gen xs ys
/-- what a drawn value is -/
def VQ (ns : List Int) (i j C : Nat) (xs ys : List Str) (n : Nat) (s : Sto) (d : D) (s' : Sto) : Prop :=
  ∃ e : Ex, d = e.d ∧ e.gen xs ys ∧ e.dep ≤ n ∧ SV ns i j (C + 4 * n + 4) s' ∧ Up i s s'
theorem VQ.gc {ns : List Int} {i j C : Nat} {xs ys : List Str} {n : Nat} {s s' : Sto} {d : D} (hi : i < s.length) (hj : j < s.length) (h : VQ ns i j C xs ys n s d s') : (gc s (.ok d s')).to (VQ ns i j C xs ys n s) NoX := by
  refine gcU h ?_
  obtain ⟨e, h1, h2, h3, h4, h5⟩ := h
  exact ⟨e, h1, h2, h3, h4.take hi hj, h5.take⟩
theorem pick2 {x y : D} {r : Int} (h0 : 0 ≤ r) (h1 : r < 2) : ∃ c : Bool, atI [x, y] r = some (if c = true then y else x) := by
  rcases (show r = 0 ∨ r = 1 by omega) with rfl | rfl
  · exact ⟨false, by simp⟩
  · exact ⟨true, by simp⟩
theorem pick3 {x y : D} {r : Int} (h0 : 0 ≤ r) (h1 : r < 3) : ∃ c : Bool, atI [x, x, y] r = some (if c = true then y else x) := by
  rcases (show r = 0 ∨ r = 1 ∨ r = 2 by omega) with rfl | rfl | rfl
  · exact ⟨false, by simp⟩
  · exact ⟨false, by simp⟩
  · exact ⟨true, by simp⟩
/-- a draw from a list that is written -/
theorem draw_new {ns : List Int} {i j C k : Nat} {s : Sto} {xs : List D} {m : Int} {Q : D → Sto → Prop} {X : Str → Sto → Prop} (h : SV ns i j C s) (hm : 0 < m) (hm2 : m.natAbs ≤ 1000) (hC : C < 2 ^ 60)
    (q : ∀ r s', 0 ≤ r → r < m → SV ns i j (C + 1) s' → Up i s s' → s'[s.length]? = some (.lst xs) → Q (.int r) s') : (callP pg (k + 1) "_law_draw" [.loc i, .int m] (s ++ [.lst xs])).to Q X :=
  hlp.draw_then h.app hm (lg hm2) hC fun r s' h1 h2 h3 u l => q r s' h1 h2 h3 (Up.app.trans u) (u.get (by simp) (by have := h.lt.1; omega))
theorem value_ok {ns : List Int} {i j : Nat} {xs ys : List Str} {li la k : Nat} (hi1 : xs ≠ []) (ha1 : ys ≠ []) (hi2 : xs.length < 1000) (ha2 : ys.length < 1000) (hli : li ≠ i) (hla : la ≠ i) : ∀ (n C : Nat) (s : Sto), C + 4 * n < 2 ^ 50 → SV ns i j C s → s[li]? = some (.lst (xs.map D.str)) → s[la]? = some (.lst (ys.map D.str)) →
    (callP pg (n + k + 3) "_law_wild_value" [.loc i, .loc li, .loc la, .int n] s).to (VQ ns i j C xs ys n s) NoX := by
  have hil : 0 < xs.length := List.length_pos_iff.mpr hi1
  have hal : 0 < ys.length := List.length_pos_iff.mpr ha1
  have z2 : 2 ≤ sizeLine := sz' (by decide)
  have z3 : 3 ≤ sizeLine := sz' (by decide)
  intro n
  induction n with
  | zero =>
    intro C s hC h hI hA
    rw [c__law_wild_value]
    apply gc_to
    unfold m__law_wild_value
    simp
    refine hlp.one_of oneOf h hI hli (by simpa using hil) (by simp; omega) (by omega) fun m d s1 hd h1 u1 l1 => ?_
    obtain ⟨x, hx, rfl⟩ := map_at hd
    simp [z2]
    refine hlp.draw_then h1 (by decide) lg (by omega) fun r s2 r1 r2 h2 u2 l2 => ?_
    simp
    have hlt := h.lt
    have := VQ.gc (C := C) (n := 0) (ys := ys) hlt.1 hlt.2 ⟨.nm x, rfl, List.mem_of_getElem? hx, by simp [Ex.dep], h2.mono (by omega), u1.trans u2⟩
    exact ⟨fun _ => this, fun _ => this⟩
  | succ n ih =>
    intro C s hC h hI hA
    rw [show n + 1 + k + 3 = (n + k + 3) + 1 by omega, c__law_wild_value]
    apply gc_to
    have hlt := h.lt
    unfold m__law_wild_value
    simp
    refine hlp.one_of oneOf h hI hli (by simpa using hil) (by simp; omega) (by omega) fun m d s1 hd h1 u1 l1 => ?_
    obtain ⟨x, hx, rfl⟩ := map_at hd
    simp [z2]
    refine hlp.draw_then (C := C + 1) h1 (by decide) lg (by omega) fun r s2 r1 r2 h2 u2 l2 => ?_
    have u02 := u1.trans u2
    have hK := fun (e : Ex) (s' : Sto) (he : e.gen xs ys) (hd : e.dep ≤ n + 1) (h' : SV ns i j (C + 4 * (n + 1) + 4) s') (u : Up i s s') => VQ.gc (C := C) (n := n + 1) hlt.1 hlt.2 ⟨e, rfl, he, hd, h', u⟩
    simp
    refine ⟨fun _ => hK (.nm x) _ (List.mem_of_getElem? hx) (by simp [Ex.dep]) (h2.mono (by omega)) u02, fun _ => ⟨fun e => by omega, fun _ => ⟨fun _ => ?_, fun _ => ⟨fun _ => ?_, fun _ => ?_⟩⟩⟩⟩
    · refine hlp.draw_then h2 (by decide) lg (by omega) fun q s3 q1 q2 h3 u3 l3 => ?_
      exact hK (.num q) _ ⟨q1, by omega⟩ (by simp [Ex.dep]) (h3.mono (by omega)) (u02.trans u3)
    · refine hlp.one_of oneOf h2 (u02.get hA hla) hla (by simpa using hal) (by simp; omega) (by omega) fun m d s3 hd h3 u3 l3 => ?_
      obtain ⟨a, ha, rfl⟩ := map_at hd
      exact hK (.len a) _ (List.mem_of_getElem? ha) (by simp [Ex.dep]) (h3.mono (by omega)) (u02.trans u3)
    · refine Res.to_imp (ih (C + 2) s2 (by omega) h2 (u02.get hI hli) (u02.get hA hla)) fun d s3 ⟨e, hed, he, hdep, h3, u3⟩ => ?_
      subst hed
      have u03 := u02.trans u3
      simp only [z3, true_and]
      refine ⟨fun _ => ?_, fun _ => ⟨fun _ => ?_, fun _ => ⟨fun _ => ?_, fun _ => ?_⟩⟩⟩
      · refine hlp.one_of oneOf h3 (u03.get hA hla) hla (by simpa using hal) (by simp; omega) (by omega) fun m d s4 hd h4 u4 l4 => ?_
        obtain ⟨a, ha, rfl⟩ := map_at hd
        exact hK (.item a e) _ ⟨List.mem_of_getElem? ha, he⟩ (by simp only [Ex.dep]; omega) (h4.mono (by omega)) (u03.trans u4)
      · refine draw_new h3 (by decide) (by decide) (by omega) fun q s4 q1 q2 h4 u4 g4 => ?_
        obtain ⟨c, hc⟩ := pick2 (x := .str "quotient") (y := .str "remainder") q1 q2
        rw [g4]
        refine ⟨_, by rw [ixO_lst]; exact hc, ?_⟩
        refine hlp.draw_then h4 (by decide) lg (by omega) fun q' s5 q3 q4 h5 u5 l5 => ?_
        simp only [pAdd_int, to_some]
        have := hK (.quo c e (1 + q')) _ ⟨⟨by omega, by omega⟩, he⟩ (by simp only [Ex.dep]; omega) (h5.mono (by omega)) ((u03.trans u4).trans u5)
        cases c <;> exact this
      · refine draw_new h3 (by decide) (by decide) (by omega) fun q s4 q1 q2 h4 u4 g4 => ?_
        rw [g4]
        rcases (show q = 0 ∨ q = 1 by omega) with rfl | rfl
        · exact ⟨.int (-1), by simp, hK (.scl (-1) e) _ ⟨.inl rfl, he⟩ (by simp only [Ex.dep]; omega) (h4.mono (by omega)) (u03.trans u4)⟩
        · exact ⟨.int 2, by simp, hK (.scl 2 e) _ ⟨.inr rfl, he⟩ (by simp only [Ex.dep]; omega) (h4.mono (by omega)) (u03.trans u4)⟩
      · refine draw_new h3 (by decide) (by decide) (by omega) fun q s4 q1 q2 h4 u4 g4 => ?_
        obtain ⟨c, hc⟩ := pick2 (x := .str "plus") (y := .str "minus") q1 q2
        rw [g4]
        refine ⟨_, by rw [ixO_lst]; exact hc, ?_⟩
        refine hlp.draw_then h4 (by decide) lg (by omega) fun q' s5 q3 q4 h5 u5 l5 => ?_
        simp only [pAdd_int, to_some]
        have := hK (.bin (!c) e (.num (1 + q'))) _ ⟨he, by omega, by omega⟩ (by simp only [Ex.dep]; omega) (h5.mono (by omega)) ((u03.trans u4).trans u5)
        cases c <;> exact this
end K69

set_option Elab.async false
set_option linter.all false
set_option maxRecDepth 100000
set_option maxHeartbeats 1000000
namespace K69
open PySem L2 Y
structure Hd where
  name : Str
  its : List It
  pls : List It
  res : List Str
def nmsOf (b : Bool) (l : List It) : List Str := l.filterMap fun i => if i.1 = b then some i.2 else none
def Hd.xs (H : Hd) : List Str := nmsOf false (H.its ++ H.pls)
def Hd.ys (H : Hd) : List Str := nmsOf true (H.its ++ H.pls)
structure Hd.ok (H : Hd) : Prop where
  i3 : H.its.length ≤ 3
  p4 : H.pls.length = 4
  arr1 : (nmsOf true H.its).length ≤ 1
  arr2 : (nmsOf true H.pls).length = 2
  nm : ∀ i ∈ H.its ++ H.pls, sOk i.2 = true ∧ 0 < i.2.length ∧ i.2.length ≤ 10
  res : H.res = [] ∨ H.res = [("result" : Str)]
theorem nms_app {b : Bool} {l m : List It} : nmsOf b (l ++ m) = nmsOf b l ++ nmsOf b m := by unfold nmsOf; rw [List.filterMap_append]
theorem nms_len : ∀ l : List It, (nmsOf false l).length + (nmsOf true l).length = l.length
  | [] => rfl
  | a :: r => by
    have := nms_len r
    unfold nmsOf at this ⊢
    rw [List.filterMap_cons, List.filterMap_cons, List.length_cons]
    cases a.1 <;> simp <;> omega
theorem Hd.ok.ysl {H : Hd} (h : H.ok) : 2 ≤ H.ys.length ∧ H.ys.length ≤ 3 := by
  have h1 := h.arr1
  have h2 := h.arr2
  unfold Hd.ys
  rw [nms_app, List.length_append]; omega
theorem Hd.ok.xsl {H : Hd} (h : H.ok) : 1 ≤ H.xs.length ∧ H.xs.length ≤ 7 := by
  have h1 := h.arr1
  have h2 := h.arr2
  have h3 := nms_len H.pls
  have h4 := nms_len H.its
  have h5 := h.p4
  have h6 := h.i3
  unfold Hd.xs
  rw [nms_app, List.length_append]; omega
theorem mem_nms {b : Bool} {l : List It} {x : Str} : x ∈ nmsOf b l ↔ (b, x) ∈ l := by
  unfold nmsOf
  rw [List.mem_filterMap]
  constructor
  · rintro ⟨⟨c, y⟩, h, e⟩
    split at e
    · rename_i hc
      simp only at hc
      cases e; subst hc; exact h
    · cases e
  · intro h; exact ⟨(b, x), h, by simp⟩
/-- kept: the first n objects but the draws' -/
def Fr (i n : Nat) (s s' : Sto) : Prop := ∀ k, k < n → k ≠ i → s'[k]? = s[k]?
theorem Fr.of {i n : Nat} {s s' : Sto} (h : Up i s s') (hn : n ≤ s.length) : Fr i n s s' := fun k hk hi => h.2 k (by omega) hi
theorem Fr.trans {i n : Nat} {s s' s'' : Sto} (h : Fr i n s s') (h' : Fr i n s' s'') : Fr i n s s'' := fun k hk hi => (h' k hk hi).trans (h k hk hi)
structure HdS (s : Sto) (i n h : Nat) (H : Hd) : Prop where
  ex : ∃ a1 a2 a3 a4, (h < n ∧ h ≠ i) ∧ (a1 < n ∧ a1 ≠ i) ∧ (a2 < n ∧ a2 ≠ i) ∧ (a3 < n ∧ a3 ≠ i) ∧ (a4 < n ∧ a4 ≠ i) ∧
    s[h]? = some (.dic [(.inr "name", .str H.name), (.inr "items", .loc a1), (.inr "places", .loc a2), (.inr "results", .tup (H.res.map .str)), (.inr "ints", .loc a3), (.inr "arrays", .loc a4)]) ∧
    s[a1]? = some (.lst (H.its.map itD)) ∧ s[a2]? = some (.lst (H.pls.map itD)) ∧ s[a3]? = some (.lst (H.xs.map D.str)) ∧ s[a4]? = some (.lst (H.ys.map D.str))
theorem HdS.fr {s s' : Sto} {i n h : Nat} {H : Hd} (q : HdS s i n h H) (f : Fr i n s s') : HdS s' i n h H := by
  obtain ⟨a1, a2, a3, a4, b0, b1, b2, b3, b4, e0, e1, e2, e3, e4⟩ := q
  exact ⟨a1, a2, a3, a4, b0, b1, b2, b3, b4, (f _ b0.1 b0.2).trans e0, (f _ b1.1 b1.2).trans e1, (f _ b2.1 b2.2).trans e2, (f _ b3.1 b3.2).trans e3, (f _ b4.1 b4.2).trans e4⟩
structure HsS (s : Sto) (i n lh : Nat) (hs : List (Nat × Hd)) : Prop where
  pos : lh < n ∧ lh ≠ i
  l : s[lh]? = some (.lst (hs.map fun p => .loc p.1))
  all : ∀ p ∈ hs, HdS s i n p.1 p.2
theorem HsS.fr {s s' : Sto} {i n lh : Nat} {hs : List (Nat × Hd)} (q : HsS s i n lh hs) (f : Fr i n s s') : HsS s' i n lh hs :=
  ⟨q.pos, (f _ q.pos.1 q.pos.2).trans q.l, fun p hp => (q.all p hp).fr f⟩
/-- a call that fits -/
def callOk (hs : List (Nat × Hd)) (H : Hd) : Sm → Prop
  | .call f as ts => (∃ p ∈ hs, f = p.2.name ∧ fits p.2.its as ∧ (p.2.res = [] → ts = [])) ∧ (∀ a ∈ as, match a with | .arr y => y ∈ H.ys | .val e => e.gen H.xs H.ys ∧ e.dep ≤ 1) ∧ ts.length ≤ 1 ∧ ∀ t ∈ ts, t ∈ H.xs
  | _ => False
theorem meth_pop' {s : Sto} {k : Nat} {xs : List D} {a : Sto → Res (List D)} (h : s[k]? = some (.lst xs)) : Res.meth "pop" (.loc k) s a = (a s).bind fun ds s2 => .ofO (mPop (.loc k) ds s2) := meth_pop h
theorem mPop_ap {s : Sto} {k : Nat} {xs : List D} {d : D} (h : s[k]? = some (.lst (xs ++ [d]))) : mPop (.loc k) [] s = some (d, s.set k (.lst xs)) := by
  unfold mPop
  simp [h]
@[simp] theorem key_ne {a b : String} : ((Sum.inr (Str.ofString a) : Key) = Sum.inr (Str.ofString b)) = (a = b) := by
  refine propext ⟨fun h => ?_, fun h => by rw [h]⟩
  have : Str.ofString a = Str.ofString b := by injection h
  rwa [ofString_inj] at this
def CQ (ns : List Int) (i j C : Nat) (hs : List (Nat × Hd)) (H : Hd) (s : Sto) (d : D) (s' : Sto) : Prop :=
  ∃ st : Sm, d = st.d ∧ callOk hs H st ∧ SV ns i j (C + 60) s' ∧ Up i s s'
theorem CQ.gc {ns : List Int} {i j C : Nat} {hs : List (Nat × Hd)} {H : Hd} {s s' : Sto} {d : D} (hi : i < s.length) (hj : j < s.length) (h : CQ ns i j C hs H s d s') : (gc s (.ok d s')).to (CQ ns i j C hs H s) NoX := by
  refine gcU h ?_
  obtain ⟨e, h1, h2, h4, h5⟩ := h
  exact ⟨e, h1, h2, h4.take hi hj, h5.take⟩
/-- the state of the loop over a callee's parameters -/
def CI (ns : List Int) (i j C : Nat) (lh h n lp lg : Nat) (h' : Nat) (P H : Hd) (s : Sto) (t : Nat) (E : Ev) (S : Sto) : Prop :=
  ∃ (o6 o7 : Option D) (ps : List Str) (as : List Ag), E = [some (.loc i), some (.loc lh), some (.loc h), some (.loc h'), some (.loc lp), some (.loc lg), o6, o7, none] ∧ SV ns i j (C + 8 * t) S ∧ Up i s S ∧ S[lp]? = some (.lst (ps.map D.str)) ∧ S[lg]? = some (.lst (as.map Ag.d)) ∧
    (∀ y ∈ ps, y ∈ H.ys) ∧ ps.length + (nmsOf true (P.its.take t)).length = H.ys.length ∧ fits (P.its.take t) as ∧ (∀ a ∈ as, match a with | .arr y => y ∈ H.ys | .val e => e.gen H.xs H.ys ∧ e.dep ≤ 1)
theorem fits_snoc {ps : List It} {as : List Ag} {p : It} {a : Ag} (h : fits ps as) (h2 : Fit p a) : fits (ps ++ [p]) (as ++ [a]) := by
  refine ⟨by rw [List.length_append, List.length_append, h.1]; rfl, fun q hq => ?_⟩
  rw [List.zip_append h.1] at hq
  rcases List.mem_append.mp hq with hq | hq
  · exact h.2 q hq
  · simp at hq; subst hq; exact h2
theorem call_ok {ns : List Int} {i j C k lh h n : Nat} {hs : List (Nat × Hd)} {H : Hd} {s : Sto} (hC : C < 2 ^ 40) (hv : SV ns i j C s) (hh : HsS s i n lh hs) (h0 : HdS s i n h H) (hn : n ≤ s.length) (hok : ∀ p ∈ hs, p.2.ok) (hHok : H.ok) (hs0 : 0 < hs.length) (hs2 : hs.length ≤ 2) :
    (callP pg (k + 6) "_law_wild_call" [.loc i, .loc lh, .loc h] s).to (CQ ns i j C hs H s) NoX := by
  rw [c__law_wild_call]
  apply gc_to
  have hlt := hv.lt
  have z0 : 0 ≤ sizeLine := Nat.zero_le _
  have z1 : 1 ≤ sizeLine := sz' (by decide)
  have z2 : 2 ≤ sizeLine := sz' (by decide)
  have z4 : 4 ≤ sizeLine := sz' (by decide)
  have hxl := hHok.xsl
  have hyl := hHok.ysl
  unfold m__law_wild_call
  simp
  refine hlp.one_of oneOf hv hh.l hh.pos.2 (by simpa using hs0) (by simp; omega) (by omega) fun m d s1 hd h1 u1 l1 => ?_
  obtain ⟨⟨h', P⟩, hp, rfl⟩ := map_at hd
  have hpm := List.mem_of_getElem? hp
  have hPok := hok _ hpm
  simp only at hPok
  have f1 : Fr i n s s1 := Fr.of u1 hn
  obtain ⟨a1, a2, a3, a4, b0, b1, b2, b3, b4, e0, e1, e2, e3, e4⟩ := h0.fr f1
  simp [e0, getA_cons, ofString_inj]
  refine hlp.shuf shuf (C := C + 1) h1 e4 b4.2 (by simp; omega) (by omega) fun lp ys s2 hys hper hlp2 h2 u2 => ?_
  obtain ⟨ps, rfl⟩ : ∃ ps : List Str, ys = ps.map D.str := by
    have : ∀ (l : List D) (m : List Str), l.Perm (m.map D.str) → ∃ ps : List Str, l = ps.map D.str := fun l m hp => by
      have hall : ∀ d ∈ l, ∃ x, d = D.str x := fun d hd => by
        obtain ⟨x, _, rfl⟩ := List.mem_map.mp (hp.mem_iff.mp hd)
        exact ⟨x, rfl⟩
      clear hp
      induction l with
      | nil => exact ⟨[], rfl⟩
      | cons a r ih =>
        obtain ⟨x, rfl⟩ := hall a List.mem_cons_self
        obtain ⟨ps, rfl⟩ := ih fun d hd => hall d (List.mem_cons_of_mem _ hd)
        exact ⟨x :: ps, rfl⟩
    exact this _ _ hper
  have u02 := u1.trans u2
  have f2 : Fr i n s s2 := Fr.of u02 hn
  obtain ⟨c1, c2, c3, c4, g0, g1, g2, g3, g4, q0, q1, q2, q3, q4⟩ := hh.all _ hpm
  simp only at g0 q0 q1 q2 q3 q4
  have hdS := (h0.fr f2)
  have nl2 : n ≤ s2.length := by have := u02.1; omega
  have hlt2 := h2.lt
  have gq : ∀ S, Up i s S → S[h']? = some (.dic [(.inr "name", .str P.name), (.inr "items", .loc c1), (.inr "places", .loc c2), (.inr "results", .tup (P.res.map .str)), (.inr "ints", .loc c3), (.inr "arrays", .loc c4)]) := fun S u => u.get q0 g0.2
  have gq1 : ∀ S, Up i s S → S[c1]? = some (.lst (P.its.map itD)) := fun S u => u.get q1 g1.2
  have hlps := (List.getElem?_eq_some_iff.mp hys).1
  have hmem : ∀ y ∈ ps, y ∈ H.ys := fun y hy => by
    have := hper.mem_iff.mp (List.mem_map.mpr ⟨y, hy, rfl⟩)
    simpa using this
  have hpl : ps.length = H.ys.length := by simpa using hper.length_eq
  have u02a : Up i s (s2 ++ [O.lst []]) := u02.trans Up.app
  have hi3 := hPok.i3
  simp [z0, gq _ u02a, gq1 _ u02a, getA_cons, ofString_inj]
  refine forLst (xs := P.its.map itD) (fun t E S => CI ns i j (C + 5) lh h n lp s2.length h' P H s t E S) (by rw [List.length_map]; unfold fuelMax; omega) ?_ ?_ ?_ ?_
  · rintro t E S ⟨o6, o7, ps, as, rfl, _, u, _⟩
    exact gq1 _ u
  · exact ⟨none, none, ps, [], rfl, (h2.app (t := [O.lst []])).mono (by simp; omega), u02a, by rw [get_lt hlps]; exact hys, by simp, hmem, by simpa [nmsOf] using hpl, ⟨by simp, by simp⟩, by simp⟩
  · rintro t d E S hd ⟨o6, o7, ps, as, rfl, hS, u, hps, has, hm, hcnt, hfit, hall⟩
    obtain ⟨⟨b, x⟩, hit, rfl⟩ := map_at hd
    have htl : t < P.its.length := (List.getElem?_eq_some_iff.mp hit).1
    have hcut : P.its.take (t + 1) = P.its.take t ++ [(b, x)] := by rw [List.take_add_one, hit]; rfl
    have hasl : as.length = t := by rw [← hfit.1, List.length_take]; omega
    have lpl := (List.getElem?_eq_some_iff.mp hps).1
    have lgl := (List.getElem?_eq_some_iff.mp has).1
    have hdd := gq S u
    obtain ⟨a1, a2, a3, a4, b0, b1, b2, b3, b4, e0, e1, e2, e3, e4⟩ := h0.fr (Fr.of u hn)
    have hza : as.length < sizeLine := sz (by omega)
    have hlpn : lp ≠ s2.length := by omega
    have hlpi : lp ≠ i := by have := u1.1; omega
    cases b with
    | true =>
      obtain ⟨ps', y, rfl⟩ : ∃ ps' y, ps = ps' ++ [y] := by
        have hne : ps ≠ [] := fun e => by
          subst e
          have h1 : (nmsOf true (P.its.take (t + 1))).length ≤ 1 := by
            have := hPok.arr1
            have e : nmsOf true P.its = nmsOf true (P.its.take (t + 1)) ++ nmsOf true (P.its.drop (t + 1)) := by rw [← nms_app, List.take_append_drop]
            rw [e, List.length_append] at this; omega
          rw [hcut, nms_app, List.length_append] at h1
          have h3 : (nmsOf true [(true, x)]).length = 1 := rfl
          rw [List.length_nil] at hcnt
          omega
        exact ⟨ps.dropLast, ps.getLast hne, (List.dropLast_concat_getLast hne).symm⟩
      rw [List.map_append] at hps
      have hya : y ∈ H.ys := hm y (by simp)
      simp [itD, ofString_inj, meth_append has, meth_pop' (xs := ps'.map D.str ++ [.str y]) hps, mPop_ap hps, z2]
      rw [mAppend_ap (xs := as.map Ag.d) (by rw [List.getElem?_set_ne hlpn]; exact has)]
      simp [hza]
      refine ⟨_, _, ps', as ++ [.arr y], rfl, (((hS.set hlpi (by have := hS.lt; have := hlt.2; omega)).set (by omega) (by omega))).mono (by omega), (u.setGe (by have := u1.1; omega)).setGe (by omega), ?_, ?_, fun z hz => hm z (by simp [hz]), ?_, ?_, fun a ha => ?_⟩
      · rw [List.getElem?_set_ne (by omega), List.getElem?_set_self (by simpa using lpl)]
      · rw [List.getElem?_set_self (by simpa using lgl)]; simp [Ag.d]
      · have h3 : (nmsOf true [(true, x)]).length = 1 := rfl
        rw [List.length_append] at hcnt
        rw [hcut, nms_app, List.length_append, h3]
        have h4 : [y].length = 1 := rfl
        omega
      · rw [hcut]
        refine fits_snoc hfit ⟨rfl, ?_⟩
        have := (hHok.nm (true, y) (mem_nms.mp hya)).2.2
        simp only at this; omega
      · rcases List.mem_append.mp ha with ha | ha
        · exact hall a ha
        · simp at ha; subst ha; exact hya
    | false =>
      simp [itD, ofString_inj, meth_append has, e0, getA_cons]
      have e9 := value_ok (k := k + 1) (xs := H.xs) (ys := H.ys) (li := a3) (la := a4) (fun e => by rw [e] at hxl; simp at hxl) (fun e => by rw [e] at hyl; simp at hyl) (by omega) (by omega) b3.2 b4.2 1 (C + 5 + 8 * t) S (by omega) hS e3 e4
      rw [show 1 + (k + 1) + 3 = k + 5 by omega] at e9
      refine Res.to_imp e9 fun d S' ⟨e, hed, hg, hdep, hS', u'⟩ => ?_
      subst hed
      have u2' := u.trans u'
      have has' := u'.get has (by omega)
      have lgl' := (List.getElem?_eq_some_iff.mp has').1
      rw [mAppend_ap has']
      simp [hza]
      refine ⟨_, _, ps, as ++ [.val e], rfl, ((hS'.set (by omega) (by omega))).mono (by omega), u2'.setGe (by omega), ?_, ?_, hm, ?_, ?_, fun a ha => ?_⟩
      · rw [List.getElem?_set_ne (by omega)]; exact u'.get hps hlpi
      · rw [List.getElem?_set_self lgl']; simp [Ag.d]
      · have h3 : (nmsOf true [(false, x)]).length = 0 := rfl
        rw [hcut, nms_app, List.length_append, h3]; omega
      · rw [hcut]
        exact fits_snoc hfit rfl
      · rcases List.mem_append.mp ha with ha | ha
        · exact hall a ha
        · simp at ha; subst ha; exact ⟨hg, hdep⟩
  · rintro E S ⟨o6, o7, ps, as, rfl, hS, u, hps, has, hm, hcnt, hfit, hall⟩
    rw [List.length_map] at *
    rw [List.take_length] at hfit hcnt
    have hdd := gq S u
    obtain ⟨a1, a2, a3, a4, b0, b1, b2, b3, b4, e0, e1, e2, e3, e4⟩ := h0.fr (Fr.of u hn)
    have hfin : ∀ (ts : List Str) (S' : Sto), SV ns i j (C + 60) S' → Up i s S' → (P.res = [] → ts = []) → ts.length ≤ 1 → (∀ t ∈ ts, t ∈ H.xs) → (gc s (.ok (.tup [.str (Str.ofString "call"), .str P.name, .tup (as.map Ag.d), .tup (ts.map D.str)]) S')).to (CQ ns i j C hs H s) NoX := fun ts S' h1 h2 h3 h4 h5 => by
      refine CQ.gc hlt.1 hlt.2 ⟨.call P.name as ts, ?_, ⟨⟨_, hpm, rfl, hfit, h3⟩, hall, h4, h5⟩, h1, h2⟩
      simp [Sm.d]
    have hasl : as.length ≤ 3 := by rw [← hfit.1]; exact hi3
    rcases hPok.res with hr | hr
    · rw [hr] at hdd
      have e9 : pNe (.tup []) (.tup []) S = some (.bl false, S) := (pEq_tups (n := 1) (by simp [datS, datSL]) (by simp [datS, datSL]) (by decide)).2
      simp [z0, hdd, getA_cons, ofString_inj, e9, has, z4]
      exact hfin [] S (hS.mono (by omega)) u (fun _ => rfl) (by simp) (by simp)
    · rw [hr] at hdd
      have e9 : pNe (.tup [.str (Str.ofString "result")]) (.tup []) S = some (.bl true, S) := (pEq_tups (n := 1) (by decide +kernel) (by simp [datS, datSL]) (by decide)).2
      simp [z0, hdd, getA_cons, ofString_inj, e9, has, z4, e0]
      refine hlp.draw_then hS (by decide) lg (by omega) fun r S1 r1 r2 h5 u5 l5 => ?_
      have u05 := u.trans u5
      have has5 := u5.get has (by omega)
      have hdd5 := u5.get hdd g0.2
      obtain ⟨a1, a2, a3, a4, b0, b1, b2, b3, b4, e0, e1, e2, e3, e4⟩ := h0.fr (Fr.of u05 hn)
      simp [e0, getA_cons, ofString_inj]
      refine ⟨fun hr0 => ?_, fun hr0 => ?_⟩
      · refine hlp.one_of oneOf h5 e3 b3.2 (by simp; omega) (by simp; omega) (by omega) fun m d S2 hd h6 u6 l6 => ?_
        obtain ⟨x, hx, rfl⟩ := map_at hd
        have hdd6 := u6.get hdd5 g0.2
        have has6 := u6.get has5 (by omega)
        simp [z1, hdd6, getA_cons, ofString_inj, has6]
        exact hfin [x] S2 (h6.mono (by omega)) (u05.trans u6) (fun h => by rw [hr] at h; cases h) (by simp) (fun t ht => by simp at ht; subst ht; exact List.mem_of_getElem? hx)
      · simp [hdd5, getA_cons, ofString_inj, has5]
        exact hfin [] S1 (h5.mono (by omega)) u05 (fun _ => rfl) (by simp) (by simp)
end K69

set_option Elab.async false
set_option linter.all false
set_option maxRecDepth 100000
set_option maxHeartbeats 1000000
namespace K69
open PySem L2 Y
/-- kept but the draws' and the budget -/
def Ub (i b : Nat) (s s' : Sto) : Prop := s.length ≤ s'.length ∧ ∀ k, k < s.length → k ≠ i → k ≠ b → s'[k]? = s[k]?
theorem Up.ub {i b : Nat} {s s' : Sto} (h : Up i s s') : Ub i b s s' := ⟨h.1, fun k h1 h2 _ => h.2 k h1 h2⟩
theorem Ub.refl {i b : Nat} {s : Sto} : Ub i b s s := ⟨Nat.le_refl _, fun _ _ _ _ => rfl⟩
theorem Ub.trans {i b : Nat} {s s' s'' : Sto} (h : Ub i b s s') (h' : Ub i b s' s'') : Ub i b s s'' := ⟨Nat.le_trans h.1 h'.1, fun k hk h1 h2 => (h'.2 k (Nat.lt_of_lt_of_le hk h.1) h1 h2).trans (h.2 k hk h1 h2)⟩
theorem Ub.set {i b : Nat} {s : Sto} {o : O} : Ub i b s (s.set b o) := ⟨by simp, fun k _ _ h => List.getElem?_set_ne (Ne.symm h)⟩
theorem Ub.take {i b : Nat} {s s' : Sto} (h : Ub i b s s') : Ub i b s (s'.take s.length) := ⟨by rw [List.length_take]; have := h.1; omega, fun k hk h1 h2 => by rw [List.getElem?_take_of_lt hk]; exact h.2 k hk h1 h2⟩
theorem Ub.get {i b k : Nat} {s s' : Sto} {o : O} (h : Ub i b s s') (e : s[k]? = some o) (h1 : k ≠ i) (h2 : k ≠ b) : s'[k]? = some o := (h.2 k (List.getElem?_eq_some_iff.mp e).1 h1 h2).trans e
theorem Ub.app {i b : Nat} {s t : Sto} : Ub i b s (s ++ t) := ⟨by simp, fun k hk _ _ => get_lt hk⟩
theorem Fr.ofb {i b n : Nat} {s s' : Sto} (h : Ub i b s s') (hn : n ≤ s.length) (hb : n ≤ b) : Fr i n s s' := fun k hk hi => h.2 k (by omega) hi (by omega)
def BG (b : Nat) (s : Sto) : Prop := ∃ z : Int, s[b]? = some (.lst [.int z])
theorem BG.up {i b : Nat} {s s' : Sto} (h : BG b s) (u : Up i s s') (hb : b ≠ i) : BG b s' := let ⟨z, e⟩ := h; ⟨z, u.get e hb⟩
theorem BG.app {b : Nat} {s t : Sto} (h : BG b s) : BG b (s ++ t) := let ⟨z, e⟩ := h; ⟨z, by rw [get_lt (List.getElem?_eq_some_iff.mp e).1]; exact e⟩
theorem BG.take {b n : Nat} {s : Sto} (h : BG b s) (hb : b < n) : BG b (s.take n) := let ⟨z, e⟩ := h; ⟨z, by rw [List.getElem?_take_of_lt hb]; exact e⟩
theorem BG.lt {b : Nat} {s : Sto} (h : BG b s) : b < s.length := let ⟨z, e⟩ := h; (List.getElem?_eq_some_iff.mp e).1
def Cd.gen (xs ys : List Str) (c : Cd) : Prop := c.dep ≤ 1 ∧ c.comps.length ≤ 2 ∧ ∀ q ∈ c.comps, q.2.1.gen xs ys ∧ q.2.2.gen xs ys ∧ q.2.1.dep ≤ 1 ∧ q.2.2.dep ≤ 1
def TQ (ns : List Int) (i j C : Nat) (xs ys : List Str) (b : Nat) (s : Sto) (d : D) (s' : Sto) : Prop :=
  ∃ c : Cd, d = c.d ∧ c.gen xs ys ∧ SV ns i j (C + 30) s' ∧ Ub i b s s' ∧ BG b s'
theorem TQ.gc {ns : List Int} {i j C : Nat} {xs ys : List Str} {b : Nat} {s s' : Sto} {d : D} (hi : i < s.length) (hj : j < s.length) (hb : b < s.length) (h : TQ ns i j C xs ys b s d s') : (gc s (.ok d s')).to (TQ ns i j C xs ys b s) NoX := by
  refine gcU h ?_
  obtain ⟨e, h1, h2, h4, h5, h6⟩ := h
  exact ⟨e, h1, h2, h4.take hi hj, h5.take, h6.take hb⟩
theorem test_ok {ns : List Int} {i j C k li la b : Nat} {xs ys : List Str} {s : Sto} (hC : C < 2 ^ 40) (hv : SV ns i j C s) (hI : s[li]? = some (.lst (xs.map D.str))) (hA : s[la]? = some (.lst (ys.map D.str))) (hB : BG b s) (hli : li ≠ i ∧ li ≠ b) (hla : la ≠ i ∧ la ≠ b) (hbi : b ≠ i) (hbj : b ≠ j) (hx : xs ≠ [] ∧ xs.length < 1000) (hy : ys ≠ [] ∧ ys.length < 1000) :
    (callP pg (k + 6) "_law_wild_test" [.loc i, .loc li, .loc la, .loc b] s).to (TQ ns i j C xs ys b s) NoX := by
  have hlt := hv.lt
  have hbl := hB.lt
  obtain ⟨z, hz⟩ := hB
  have z2 : 2 ≤ sizeLine := sz' (by decide)
  have z3 : 3 ≤ sizeLine := sz' (by decide)
  have ex0 : ixN 1 0 = some 0 := rfl
  have val := fun (C : Nat) (hC : C < 2 ^ 41) (S : Sto) (h : SV ns i j C S) (h1 : S[li]? = some (.lst (xs.map D.str))) (h2 : S[la]? = some (.lst (ys.map D.str))) => value_ok (k := k + 1) hx.1 hy.1 hx.2 hy.2 hli.1 hla.1 1 C S (by omega) h h1 h2
  simp only [show 1 + (k + 1) + 3 = k + 5 by omega] at val
  rw [c__law_wild_test]
  apply gc_to
  unfold m__law_wild_test
  simp [hz, ex0]
  have s0v : SV ns i j C (s.set b (.lst [.int (z - 1)])) := hv.set hbi hbj
  have s0u : Ub i b s (s.set b (.lst [.int (z - 1)])) := Ub.set
  have s0b : BG b (s.set b (.lst [.int (z - 1)])) := ⟨z - 1, List.getElem?_set_self hbl⟩
  generalize s.set b (.lst [.int (z - 1)]) = S0 at s0v s0u s0b ⊢
  refine Res.to_imp (val C (by omega) S0 s0v (s0u.get hI hli.1 hli.2) (s0u.get hA hla.1 hla.2)) fun d S1 ⟨e, hed, hg, hdep, h1, u1⟩ => ?_
  subst hed
  have u01 := s0u.trans (Up.ub u1)
  refine ⟨z3, ?_⟩
  refine draw_new h1 (by decide) (by decide) (by omega) fun r S2 r1 r2 h2 u2 g2 => ?_
  have u02 := u01.trans (Up.ub u2)
  obtain ⟨q, hq⟩ := pick3 (x := .str "less") (y := .str "same") r1 r2
  rw [g2]
  refine ⟨_, by rw [ixO_lst]; exact hq, ?_⟩
  refine Res.to_imp (val (C + 9) (by omega) S2 (h2.mono (by omega)) (u02.get hI hli.1 hli.2) (u02.get hA hla.1 hla.2)) fun d S3 ⟨f, hfd, hg2, hdep2, h3, u3⟩ => ?_
  subst hfd
  have u03 := u02.trans (Up.ub u3)
  have b3 : BG b S3 := ((s0b.up u1 hbi).up u2 hbi).up u3 hbi
  simp only [z3, true_and]
  refine hlp.draw_then h3 (by decide) lg (by omega) fun r S4 r3 r4 h4 u4 l4 => ?_
  have u04 := u03.trans (Up.ub u4)
  have b4 : BG b S4 := b3.up u4 hbi
  have hcmp : D.tup [if q = true then .str (Str.ofString "same") else .str (Str.ofString "less"), e.d, f.d] = (Cd.cmp q e f).d := by cases q <;> rfl
  have fin := fun (c : Cd) (S : Sto) (hc : c.gen xs ys) (h : SV ns i j (C + 30) S) (u : Ub i b s S) (hb : BG b S) => TQ.gc (C := C) hlt.1 hlt.2 hbl ⟨c, rfl, hc, h, u, hb⟩
  have gcmp : (Cd.cmp q e f).gen xs ys := ⟨by simp [Cd.dep], by simp [Cd.comps], by simp [Cd.comps]; exact ⟨hg, hg2, hdep, hdep2⟩⟩
  have f1 := fin (.cmp q e f) S4 gcmp (h4.mono (by omega)) u04 b4
  have gnt : (Cd.nt (.cmp q e f)).gen xs ys := ⟨by simp [Cd.dep], by simp [Cd.comps], by simp [Cd.comps]; exact ⟨hg, hg2, hdep, hdep2⟩⟩
  have f2 := fin (.nt (.cmp q e f)) S4 gnt (h4.mono (by omega)) u04 b4
  obtain ⟨z4, hz4⟩ := b4
  rw [hcmp]
  simp [z2, hz4]
  refine ⟨fun _ => f2, fun _ => ⟨fun _ => ⟨fun _ => ?_, fun _ => f1⟩, fun _ => f1⟩⟩
  simp [ex0]
  have b4l := (List.getElem?_eq_some_iff.mp hz4).1
  have v5 : SV ns i j (C + 20) (S4.set b (.lst [.int (z4 - 1)])) := (h4.set hbi hbj).mono (by omega)
  have u5 : Ub i b s (S4.set b (.lst [.int (z4 - 1)])) := u04.trans Ub.set
  have b5 : BG b (S4.set b (.lst [.int (z4 - 1)])) := ⟨z4 - 1, List.getElem?_set_self b4l⟩
  have l5 : (S4.set b (.lst [.int (z4 - 1)])).length = S4.length := by simp
  rw [← l5]
  generalize S4.set b (.lst [.int (z4 - 1)]) = S5 at v5 u5 b5 ⊢
  refine draw_new v5 (by decide) (by decide) (by omega) fun r S6 r5 r6 h6 u6 g6 => ?_
  obtain ⟨o, ho⟩ := pick2 (x := .str "and") (y := .str "or") r5 r6
  rw [g6]
  refine ⟨_, by rw [ixO_lst]; exact ho, ?_⟩
  have gb : (Cd.bo o (.cmp q e f) (.cmp false e (.num 3))).gen xs ys := ⟨by simp [Cd.dep], by simp [Cd.comps], by simp [Cd.comps, Ex.gen, Ex.dep]; exact ⟨⟨hg, hg2, hdep, hdep2⟩, hg, hdep⟩⟩
  have := fin _ S6 gb (h6.mono (by omega)) (u5.trans (Up.ub u6)) (b5.up u6 hbi)
  cases o <;> exact this
end K69

set_option Elab.async false
set_option linter.all false
set_option maxRecDepth 100000
set_option maxHeartbeats 1000000
namespace K69
open PySem L2 Y
/-- a drawn statement, what stands in it apart -/
def locOk (hs : List (Nat × Hd)) (H : Hd) : Sm → Prop
  | .push e a => (e.gen H.xs H.ys ∧ e.dep ≤ 1) ∧ a ∈ H.ys
  | .store a e f => a ∈ H.ys ∧ (e.gen H.xs H.ys ∧ e.dep ≤ 1) ∧ f.gen H.xs H.ys ∧ f.dep ≤ 1
  | .pop x a => x ∈ H.xs ∧ a ∈ H.ys
  | .pause => True
  | .call f as ts => callOk hs H (.call f as ts)
  | .whl c _ => c.gen H.xs H.ys
  | .ite c _ _ => c.gen H.xs H.ys
  | .set l => ∃ x e, l = [(x, e)] ∧ x ∈ H.xs ∧ e.gen H.xs H.ys ∧ e.dep ≤ 2
  | .give es => ∃ e, es = [e] ∧ H.res ≠ [] ∧ e.gen H.xs H.ys ∧ e.dep ≤ 1
def SQ (ns : List Int) (i j C : Nat) (hs : List (Nat × Hd)) (H : Hd) (b n : Nat) (s : Sto) (d : D) (s' : Sto) : Prop :=
  ∃ st : Sm, d = st.d ∧ (∀ q ∈ st.all, locOk hs H q) ∧ st.dep ≤ n ∧ st.all.length ≤ 5 ^ n ∧ SV ns i j (C + 100 * 5 ^ n) s' ∧ Ub i b s s' ∧ BG b s'
def BQ (ns : List Int) (i j C : Nat) (hs : List (Nat × Hd)) (H : Hd) (b n : Nat) (s : Sto) (d : D) (s' : Sto) : Prop :=
  ∃ sts : List Sm, d = .tup (sts.map Sm.d) ∧ sts.length ≤ 2 ∧ (∀ q ∈ Sm.allL sts, locOk hs H q) ∧ Sm.depL sts ≤ n ∧ (Sm.allL sts).length ≤ 2 * 5 ^ n ∧ SV ns i j (C + 201 * 5 ^ n) s' ∧ Ub i b s s' ∧ BG b s'
theorem SQ.gc {ns : List Int} {i j C : Nat} {hs : List (Nat × Hd)} {H : Hd} {b n : Nat} {s s' : Sto} {d : D} (hi : i < s.length) (hj : j < s.length) (hb : b < s.length) (h : SQ ns i j C hs H b n s d s') : (gc s (.ok d s')).to (SQ ns i j C hs H b n s) NoX := by
  refine gcU h ?_
  obtain ⟨e, h1, h2, h3, h3', h4, h5, h6⟩ := h
  exact ⟨e, h1, h2, h3, h3', h4.take hi hj, h5.take, h6.take hb⟩
theorem BQ.gc {ns : List Int} {i j C : Nat} {hs : List (Nat × Hd)} {H : Hd} {b n : Nat} {s s' : Sto} {d : D} (hi : i < s.length) (hj : j < s.length) (hb : b < s.length) (h : BQ ns i j C hs H b n s d s') : (gc s (.ok d s')).to (BQ ns i j C hs H b n s) NoX := by
  refine gcU h ?_
  obtain ⟨e, h1, h2, h3, h3', h3'', h4, h5, h6⟩ := h
  exact ⟨e, h1, h2, h3, h3', h3'', h4.take hi hj, h5.take, h6.take hb⟩
section
variable (ns : List Int) (i j k lh h m b : Nat) (hs : List (Nat × Hd)) (H : Hd)
/-- what stands around -/
structure Env (C : Nat) (s : Sto) : Prop where
  v : SV ns i j C s
  hs : HsS s i m lh hs
  h : HdS s i m h H
  n : m ≤ s.length
  g : BG b s
def StmtSpec (n : Nat) : Prop := ∀ (C : Nat) (s : Sto), C + 100 * 5 ^ n < 2 ^ 40 → Env ns i j lh h m b hs H C s → (callP pg (2 * n + k + 8) "_law_wild_statement" [.loc i, .loc lh, .loc h, .int n, .loc b] s).to (SQ ns i j C hs H b n s) NoX
def BlockSpec (n : Nat) : Prop := ∀ (C : Nat) (s : Sto), C + 201 * 5 ^ n < 2 ^ 40 → Env ns i j lh h m b hs H C s → (callP pg (2 * n + k + 9) "_law_wild_block" [.loc i, .loc lh, .loc h, .int n, .loc b] s).to (BQ ns i j C hs H b n s) NoX
end
section
variable {ns : List Int} {i j k lh h m b : Nat} {hs : List (Nat × Hd)} {H : Hd}
theorem Env.step {C C' : Nat} {s s' : Sto} (e : Env ns i j lh h m b hs H C s) (hmb : m ≤ b) (u : Ub i b s s') (v : SV ns i j C' s') (g : BG b s') : Env ns i j lh h m b hs H C' s' :=
  ⟨v, e.hs.fr (Fr.ofb u e.n hmb), e.h.fr (Fr.ofb u e.n hmb), by have := u.1; have := e.n; omega, g⟩
theorem Env.bi {C : Nat} {s : Sto} (hE : Env ns i j lh h m b hs H C s) : b ≠ i := fun e => by
  subst e
  obtain ⟨z, hz⟩ := hE.g
  obtain ⟨_, _, _, _, _, _, _, e1, _⟩ := hE.v
  rw [hz] at e1; simp at e1
theorem five (n : Nat) : 1 ≤ 5 ^ n := Nat.pow_pos (by decide)
theorem block_ok (hmb : m ≤ b) {n : Nat} (hst : StmtSpec ns i j k lh h m b hs H n) : BlockSpec ns i j k lh h m b hs H n := by
  intro C s hC hE
  have h5 := five n
  have hlt := hE.v.lt
  have hbl := hE.g.lt
  rw [show 2 * n + k + 9 = (2 * n + k + 8) + 1 by omega, c__law_wild_block]
  apply gc_to
  unfold m__law_wild_block
  simp
  refine hlp.draw_then hE.v (by decide) lg (by omega) fun r s1 r1 r2 h1 u1 l1 => ?_
  have hE1 := hE.step hmb (Up.ub u1) h1 (hE.g.up u1 (by have := hE.h; intro e; subst e; obtain ⟨z, hz⟩ := hE.g; obtain ⟨_, _, _, _, _, _, _, e1, _⟩ := hE.v; rw [hz] at e1; simp at e1))
  simp
  obtain ⟨t, ht⟩ : ∃ t : Nat, 1 + r = (t : Int) ∧ t ≤ 2 := ⟨(1 + r).toNat, by omega, by omega⟩
  rw [ht.1, rng0]
  refine ⟨fitI_iff.mpr (by omega), ?_⟩
  refine compFix (fun q acc S => ∃ sts : List Sm, acc = sts.map Sm.d ∧ sts.length = q ∧ (∀ q ∈ Sm.allL sts, locOk hs H q) ∧ Sm.depL sts ≤ n ∧ (Sm.allL sts).length ≤ q * 5 ^ n ∧ SV ns i j (C + 1 + q * (100 * 5 ^ n)) S ∧ Ub i b s S ∧ BG b S) (sz' (by rw [List.length_map, List.length_range]; omega)) ?_ ?_ ?_
  · exact ⟨[], rfl, rfl, by simp [Sm.allL], by simp [Sm.depL], by simp [Sm.allL], by simpa using h1, Up.ub u1, hE1.g⟩
  · rintro q d acc S hd ⟨sts, rfl, hq, hall, hdep, hlen, hv, hu, hg⟩
    obtain ⟨_, hq2, rfl⟩ := map_at hd
    have hq3 : q < t := by have := (List.getElem?_eq_some_iff.mp hq2).1; simpa using this
    rw [turnC_to]
    simp
    have hq4 : q * (100 * 5 ^ n) ≤ 1 * (100 * 5 ^ n) := Nat.mul_le_mul_right _ (by omega)
    refine Res.to_imp (hst (C + 1 + q * (100 * 5 ^ n)) S (by omega) (hE.step hmb hu hv hg)) fun d S' ⟨st, hd, h1, h2, h3, h4, h5, h6⟩ => ?_
    subst hd
    refine ⟨sts ++ [st], by simp, by simp [hq], ?_, ?_, ?_, ?_, hu.trans h5, h6⟩
    · rw [allL_append]
      intro z hz
      rcases List.mem_append.mp hz with hz | hz
      · exact hall z hz
      · simp [Sm.allL] at hz; exact h1 z hz
    · have : ∀ l : List Sm, Sm.depL l ≤ n → Sm.depL (l ++ [st]) ≤ n := fun l hl => by
        induction l with
        | nil => simp [Sm.depL]; exact h2
        | cons a r ih => simp only [Sm.depL, List.cons_append] at hl ⊢; have := ih (by omega); omega
      exact this sts hdep
    · rw [allL_append, List.length_append, Nat.add_mul]
      simp [Sm.allL]; omega
    · rw [Nat.add_mul]; exact h4.mono (by omega)
  · rintro acc S ⟨sts, rfl, hq, hall, hdep, hlen, hv, hu, hg⟩
    simp at hq hlen hv
    have ht1 : t * 5 ^ n ≤ 2 * 5 ^ n := Nat.mul_le_mul_right _ ht.2
    have ht2 : t * (100 * 5 ^ n) ≤ 2 * (100 * 5 ^ n) := Nat.mul_le_mul_right _ ht.2
    exact BQ.gc hlt.1 hlt.2 hbl ⟨sts, rfl, by omega, hall, hdep, by omega, hv.mono (by omega), hu, hg⟩
end
end K69

set_option Elab.async false
set_option linter.all false
set_option maxRecDepth 100000
set_option maxHeartbeats 1000000
namespace K69
open PySem L2 Y
section
variable {ns : List Int} {i j k lh h m b : Nat} {hs : List (Nat × Hd)} {H : Hd}
theorem stmt_ok (hmb : m ≤ b) (hbj : b ≠ j) (hok : ∀ p ∈ hs, p.2.ok) (hHok : H.ok) (hs0 : 0 < hs.length) (hs2 : hs.length ≤ 2) {n : Nat} (hbk : ∀ n', n = n' + 1 → BlockSpec ns i j k lh h m b hs H n') : StmtSpec ns i j k lh h m b hs H n := by
  intro C s hC hE
  have h5 := five n
  have hlt := hE.v.lt
  have hbl := hE.g.lt
  have hbi := hE.bi
  have hxl := hHok.xsl
  have hyl := hHok.ysl
  have z1 : 1 ≤ sizeLine := sz' (by decide)
  have z2 : 2 ≤ sizeLine := sz' (by decide)
  have z3 : 3 ≤ sizeLine := sz' (by decide)
  have z4 : 4 ≤ sizeLine := sz' (by decide)
  have ex0 : ixN 1 0 = some 0 := rfl
  have hx0 : H.xs ≠ [] := fun e => by rw [e] at hxl; simp at hxl
  have hy0 : H.ys ≠ [] := fun e => by rw [e] at hyl; simp at hyl
  rw [show 2 * n + k + 8 = (2 * n + k + 7) + 1 by omega, c__law_wild_statement]
  apply gc_to
  obtain ⟨a1, a2, a3, a4, b0, b1, b2, b3, b4, e0, e1, e2, e3, e4⟩ := hE.h
  have nb := hE.n
  have val := fun (d C : Nat) (hd : d ≤ 2) (hC : C < 2 ^ 41) (S : Sto) (h : SV ns i j C S) (h1 : S[a3]? = some (.lst (H.xs.map D.str))) (h2 : S[a4]? = some (.lst (H.ys.map D.str))) => value_ok (k := 2 * n + k + 4 - d) hx0 hy0 (by omega) (by omega) b3.2 b4.2 d C S (by omega) h h1 h2
  have val1 := fun C hC => val 1 C (by decide) hC
  have val2 := fun C hC => val 2 C (by decide) hC
  simp only [show 1 + (2 * n + k + 4 - 1) + 3 = 2 * n + k + 7 by omega] at val1
  simp only [show 2 + (2 * n + k + 4 - 2) + 3 = 2 * n + k + 7 by omega] at val2
  have fin := fun (st : Sm) (S : Sto) (hc : ∀ q ∈ st.all, locOk hs H q) (hd : st.dep ≤ n) (hl : st.all.length ≤ 5 ^ n) (h : SV ns i j (C + 100 * 5 ^ n) S) (u : Ub i b s S) (hb : BG b S) => SQ.gc (C := C) hlt.1 hlt.2 hbl ⟨st, rfl, hc, hd, hl, h, u, hb⟩
  have fin0 := fun (st : Sm) (S : Sto) (he : st.all = [st]) (hc : locOk hs H st) (hd : st.dep = 0) (h : SV ns i j (C + 100) S) (u : Ub i b s S) (hb : BG b S) => fin st S (fun q hq => by rw [he] at hq; rw [List.mem_singleton.mp hq]; exact hc) (by omega) (by rw [he]; exact h5) (h.mono (by omega)) u hb
  unfold m__law_wild_statement
  simp [e0, getA_cons, ofString_inj]
  refine hlp.draw_then hE.v (by decide) lg (by omega) fun r S1 r1 r2 h1 u1 l1 => ?_
  refine hlp.one_of oneOf h1 (u1.get e3 b3.2) b3.2 (by simp; omega) (by simp; omega) (by omega) fun _ d S2 hd h2 u2 l2 => ?_
  obtain ⟨x, hx, rfl⟩ := map_at hd
  have hx := List.mem_of_getElem? hx
  have u02 := u1.trans u2
  refine hlp.one_of oneOf h2 (u02.get e4 b4.2) b4.2 (by simp; omega) (by simp; omega) (by omega) fun _ d S3 hd h3 u3 l3 => ?_
  obtain ⟨a, ha, rfl⟩ := map_at hd
  have ha := List.mem_of_getElem? ha
  have u03 := u02.trans u3
  have g3 : BG b S3 := hE.g.up u03 hbi
  have hE3 := hE.step hmb (Up.ub u03) h3 g3
  have q3 := u03.get e3 b3.2
  have q4 := u03.get e4 b4.2
  obtain ⟨z, hz⟩ := g3
  have b3l := (List.getElem?_eq_some_iff.mp hz).1
  have g3 : BG b S3 := ⟨z, hz⟩
  have ub3 : Ub i b s S3 := Up.ub u03
  have L_set : (callP pg (2 * n + k + 7) "_law_wild_value" [.loc i, .loc a3, .loc a4, .int 2] S3).to (fun a s_1 => (gc s (Res.ok (D.tup [D.str (Str.ofString "set"), D.tup [D.tup [D.str x, a]]]) s_1)).to (SQ ns i j C hs H b n s) NoX) NoX := by
    refine Res.to_imp (val2 (C + 3) (by omega) S3 h3 q3 q4) fun d S4 ⟨e, hd, hg, hdep, h4, u4⟩ => ?_
    subst hd
    exact fin0 (.set [(x, e)]) S4 (by simp [Sm.all]) ⟨x, e, rfl, hx, hg, hdep⟩ (by simp [Sm.dep]) (h4.mono (by omega)) (ub3.trans (Up.ub u4)) (g3.up u4 hbi)
  have L_push : (callP pg (2 * n + k + 7) "_law_wild_value" [.loc i, .loc a3, .loc a4, .int 1] S3).to (fun a_2 s_1 => (gc s (Res.ok (D.tup [D.str (Str.ofString "push"), a_2, D.str a]) s_1)).to (SQ ns i j C hs H b n s) NoX) NoX := by
    refine Res.to_imp (val1 (C + 3) (by omega) S3 h3 q3 q4) fun d S4 ⟨e, hd, hg, hdep, h4, u4⟩ => ?_
    subst hd
    exact fin0 (.push e a) S4 (by simp [Sm.all]) ⟨⟨hg, hdep⟩, ha⟩ (by simp [Sm.dep]) (h4.mono (by omega)) (ub3.trans (Up.ub u4)) (g3.up u4 hbi)
  have L_store : (callP pg (2 * n + k + 7) "_law_wild_value" [.loc i, .loc a3, .loc a4, .int 1] S3).to (fun a_3 s_1 => (callP pg (2 * n + k + 7) "_law_wild_value" [.loc i, .loc a3, .loc a4, .int 1] s_1).to (fun a_4 s_2 => (gc s (Res.ok (D.tup [D.str (Str.ofString "store"), D.str a, a_3, a_4]) s_2)).to (SQ ns i j C hs H b n s) NoX) NoX) NoX := by
    refine Res.to_imp (val1 (C + 3) (by omega) S3 h3 q3 q4) fun d S4 ⟨e, hd, hg, hdep, h4, u4⟩ => ?_
    subst hd
    refine Res.to_imp (val1 (C + 11) (by omega) S4 h4 (u4.get q3 b3.2) (u4.get q4 b4.2)) fun d S5 ⟨f, hd, hg2, hdep2, h5, u5⟩ => ?_
    subst hd
    exact fin0 (.store a e f) S5 (by simp [Sm.all]) ⟨ha, ⟨hg, hdep⟩, hg2, hdep2⟩ (by simp [Sm.dep]) (h5.mono (by omega)) (ub3.trans (Up.ub (u4.trans u5))) (g3.up (u4.trans u5) hbi)
  have L_pop : (gc s (Res.ok (D.tup [D.str (Str.ofString "pop"), D.str x, D.str a]) (List.set S3 b (O.lst [D.int (z - 1)])))).to (SQ ns i j C hs H b n s) NoX :=
    fin0 (.pop x a) _ (by simp [Sm.all]) ⟨hx, ha⟩ (by simp [Sm.dep]) ((h3.set hbi hbj).mono (by omega)) (ub3.trans Ub.set) ⟨z - 1, List.getElem?_set_self b3l⟩
  have L_pause : (gc s (Res.ok (D.tup [D.str (Str.ofString "pause")]) S3)).to (SQ ns i j C hs H b n s) NoX :=
    fin0 .pause _ (by simp [Sm.all]) trivial (by simp [Sm.dep]) (h3.mono (by omega)) ub3 g3
  have L_call : (callP pg (2 * n + k + 7) "_law_wild_call" [.loc i, .loc lh, .loc h] S3).to (fun d s' => (gc s (Res.ok d s')).to (SQ ns i j C hs H b n s) NoX) NoX := by
    have e9 := call_ok (k := 2 * n + k + 1) (s := S3) (C := C + 3) (by omega) h3 hE3.hs hE3.h hE3.n hok hHok hs0 hs2
    simp only [show 2 * n + k + 1 + 6 = 2 * n + k + 7 by omega] at e9
    refine Res.to_imp e9 fun d S4 ⟨st, hd, hc, h4, u4⟩ => ?_
    subst hd
    cases st with
    | call f as ts => exact fin0 _ S4 (by simp [Sm.all]) hc (by simp [Sm.dep]) (h4.mono (by omega)) (ub3.trans (Up.ub u4)) (g3.up u4 hbi)
    | _ => exact hc.elim
  have L_blk : 0 < n → (callP pg (2 * n + k + 7) "_law_wild_test" [.loc i, .loc a3, .loc a4, .loc b] S3).to (fun d s1 => (callP pg (2 * n + k + 7) "_law_wild_block" [.loc i, .loc lh, .loc h, .int (↑n - 1), .loc b] s1).to (fun d_1 s1 => (r = 10 → (callP pg (2 * n + k + 7) "_law_draw" [.loc i, .int 5] s1).to (fun a s_1 => (Res.ofO (pAdd d_1 (D.tup [D.tup [D.str (Str.ofString "set"), D.tup [D.tup [D.str x, D.tup [D.str (Str.ofString "plus"), D.tup [D.str (Str.ofString "name"), D.str x], D.tup [D.str (Str.ofString "number"), D.int 1]]]]]]) s_1)).to (fun a_4 s_2 => (gc s (Res.ok (D.tup [D.str (Str.ofString "while"), D.tup [D.str (Str.ofString "less"), D.tup [D.str (Str.ofString "name"), D.str x], D.tup [D.str (Str.ofString "number"), a]], a_4]) s_2)).to (SQ ns i j C hs H b n s) NoX) NoX) NoX) ∧
      (¬r = 10 → (r = 11 → (gc s (Res.ok (D.tup [D.str (Str.ofString "while"), d, d_1]) s1)).to (SQ ns i j C hs H b n s) NoX) ∧ (¬r = 11 → (callP pg (2 * n + k + 7) "_law_wild_block" [.loc i, .loc lh, .loc h, .int (↑n - 1), .loc b] s1).to (fun a s_1 => (gc s (Res.ok (D.tup [D.str (Str.ofString "if"), d, d_1, a]) s_1)).to (SQ ns i j C hs H b n s) NoX) NoX))) NoX) NoX := fun hn => by
    obtain ⟨n', rfl⟩ : ∃ n', n = n' + 1 := ⟨n - 1, by omega⟩
    have hB := hbk n' rfl
    have h5' := five n'
    have hp5 : 5 ^ (n' + 1) = 5 * 5 ^ n' := by rw [Nat.pow_succ]; omega
    have e8 : ((n' + 1 : Nat) : Int) - 1 = (n' : Int) := by omega
    rw [e8]
    have e9 := test_ok (k := 2 * (n' + 1) + k + 1) (s := S3) (C := C + 3) (by omega) h3 q3 q4 g3 ⟨b3.2, by omega⟩ ⟨b4.2, by omega⟩ hbi hbj ⟨hx0, by omega⟩ ⟨hy0, by omega⟩
    simp only [show 2 * (n' + 1) + k + 1 + 6 = 2 * (n' + 1) + k + 7 by omega] at e9
    refine Res.to_imp e9 fun d S4 ⟨c, hd, hc, h4, u4, g4⟩ => ?_
    subst hd
    have hE4 := hE3.step hmb u4 h4 g4
    have f1 := hB (C + 33) S4 (by omega) ⟨h4.mono (by omega), hE4.hs, hE4.h, hE4.n, g4⟩
    simp only [show 2 * n' + k + 9 = 2 * (n' + 1) + k + 7 by omega] at f1
    refine Res.to_imp f1 fun d S5 ⟨bl, hd, hb1, hb2, hb3, hb4, h5, u5, g5⟩ => ?_
    subst hd
    have u05 := (ub3.trans u4).trans u5
    refine ⟨fun _ => ?_, fun _ => ⟨fun _ => ?_, fun _ => ?_⟩⟩
    · refine hlp.draw_then h5 (by decide) lg (by omega) fun q S6 q1 q2 h6 u6 l6 => ?_
      have hz' : (bl.map Sm.d).length + 1 ≤ sizeLine := sz' (by rw [List.length_map]; omega)
      simp [hb1]
      have hcl : (Sm.allL (bl ++ [Sm.set [(x, .bin true (.nm x) (.num 1))]])) = Sm.allL bl ++ [Sm.set [(x, .bin true (.nm x) (.num 1))]] := by rw [allL_append]; simp [Sm.allL, Sm.all]
      have hdp : ∀ l : List Sm, Sm.depL l ≤ n' → Sm.depL (l ++ [Sm.set [(x, .bin true (.nm x) (.num 1))]]) ≤ n' := fun l hl => by
        induction l with
        | nil => simp [Sm.depL, Sm.dep]
        | cons a r ih => simp only [Sm.depL, List.cons_append] at hl ⊢; have := ih (by omega); omega
      have := fin (.whl (.cmp false (.nm x) (.num q)) (bl ++ [Sm.set [(x, .bin true (.nm x) (.num 1))]])) S6 (fun z hz => ?_) (by simp only [Sm.dep]; have := hdp bl hb3; omega) (by simp only [Sm.all, hcl, List.length_cons, List.length_append, List.length_nil]; omega) (h6.mono (by omega)) (u05.trans (Up.ub u6)) (g5.up u6 hbi)
      · refine ⟨sz' (by omega), ?_⟩
        simpa [Sm.d, Cd.d, Ex.d, dl_map, setD] using this
      · simp only [Sm.all, hcl, List.mem_cons, List.mem_append, List.not_mem_nil, or_false] at hz
        rcases hz with rfl | hz | rfl
        · exact ⟨by simp [Cd.dep], by simp [Cd.comps], by simp [Cd.comps, Ex.gen, Ex.dep]; exact ⟨hx, q1, by omega⟩⟩
        · exact hb2 z hz
        · exact ⟨x, _, rfl, hx, ⟨hx, by decide, by decide⟩, by simp [Ex.dep]⟩
    · have := fin (.whl c bl) S5 (fun z hz => ?_) (by simp only [Sm.dep]; omega) (by simp only [Sm.all, List.length_cons]; omega) (h5.mono (by omega)) u05 g5
      · simpa [Sm.d, dl_map] using this
      · simp only [Sm.all, List.mem_cons] at hz
        rcases hz with rfl | hz
        · exact hc
        · exact hb2 z hz
    · have hE5 := hE4.step hmb u5 h5 g5
      have f2 := hB (C + 33 + 201 * 5 ^ n') S5 (by omega) hE5
      simp only [show 2 * n' + k + 9 = 2 * (n' + 1) + k + 7 by omega] at f2
      refine Res.to_imp f2 fun d S6 ⟨bl2, hd, hb5, hb6, hb7, hb8, h6, u6, g6⟩ => ?_
      subst hd
      have := fin (.ite c bl bl2) S6 (fun z hz => ?_) (by simp only [Sm.dep]; omega) (by simp only [Sm.all, List.length_cons, List.length_append]; omega) (h6.mono (by omega)) (u05.trans u6) g6
      · simpa [Sm.d, dl_map] using this
      · simp only [Sm.all, List.mem_cons, List.mem_append] at hz
        rcases hz with rfl | hz | hz
        · exact hc
        · exact hb2 z hz
        · exact hb6 z hz
  simp [z1, z2, z3, z4, hz, ex0]
  repeat' (first | apply And.intro | intro _)
  all_goals first
    | with_reducible exact L_set
    | with_reducible exact L_push
    | with_reducible exact L_store
    | with_reducible exact L_pop
    | with_reducible exact L_pause
    | with_reducible exact L_call
    | with_reducible exact L_blk (by omega)
end
end K69

set_option Elab.async false
set_option linter.all false
set_option maxRecDepth 100000
set_option maxHeartbeats 1000000
namespace K69
open PySem L2 Y
section
variable {ns : List Int} {i j k lh h m b : Nat} {hs : List (Nat × Hd)} {H : Hd}
theorem blocks_ok (hmb : m ≤ b) (hbj : b ≠ j) (hok : ∀ p ∈ hs, p.2.ok) (hHok : H.ok) (hs0 : 0 < hs.length) (hs2 : hs.length ≤ 2) : ∀ n, BlockSpec ns i j k lh h m b hs H n
  | 0 => block_ok hmb (stmt_ok hmb hbj hok hHok hs0 hs2 fun n' e => by cases e)
  | n + 1 => block_ok hmb (stmt_ok hmb hbj hok hHok hs0 hs2 fun n' e => by cases e; exact blocks_ok hmb hbj hok hHok hs0 hs2 n)
end
/-! ### words -/
def letr (z : Int) : Str := ⟨#[97 + z.toNat]⟩
def wordF (sh : Str) (f : Bool) (st sp : Int) (k : Nat) : Str := if f = true then sh ++ letr ((st + k * sp) % 26) else letr ((st + k * sp) % 26) ++ sh
theorem letters_at {z : Int} {s : Sto} (h : 0 ≤ z) (h2 : z < 26) : pIx (.str "abcdefghijklmnopqrstuvwxyz") (.int z) s = some (.str (letr z), s) := by
  have e : ∀ z, pIx (.str "abcdefghijklmnopqrstuvwxyz") (.int z) s = if (Str.ofString "abcdefghijklmnopqrstuvwxyz").length ≤ sizeLine then (atI (Str.ofString "abcdefghijklmnopqrstuvwxyz").cps.toList z).map fun c => (.str ⟨#[c]⟩, s) else none := fun z => rfl
  rw [e, if_pos (by rw [szEq]; decide +kernel), atI_mod h]
  have key : ∀ t : Fin 26, (Str.ofString "abcdefghijklmnopqrstuvwxyz").cps.toList[t.val]? = some (97 + t.val) := by decide +kernel
  have := key ⟨z.toNat, by omega⟩
  simp only at this
  rw [this]; rfl
theorem letr_ok {z : Int} (h : 0 ≤ z) (h2 : z < 26) : sOk (letr z) = true ∧ (letr z).length = 1 := by
  constructor
  · unfold sOk letr
    simp
    omega
  · rfl
def shOk (sh : Str) : Prop := sOk sh = true ∧ sh.length ≤ 3
theorem word_ok {sh : Str} (h : shOk sh) (f : Bool) (st sp : Int) (k : Nat) : sOk (wordF sh f st sp k) = true ∧ 0 < (wordF sh f st sp k).length ∧ (wordF sh f st sp k).length ≤ 4 := by
  have h1 := Int.emod_nonneg (st + k * sp) (show (26 : Int) ≠ 0 by decide)
  have h2 := Int.emod_lt_of_pos (st + k * sp) (show (0 : Int) < 26 by decide)
  obtain ⟨l1, l2⟩ := letr_ok h1 h2
  have := h.2
  unfold wordF
  cases f
  · simp only [Bool.false_eq_true, if_false]
    exact ⟨sOk_append l1 h.1, by rw [lapp, l2]; omega, by rw [lapp, l2]; omega⟩
  · simp only [if_true]
    exact ⟨sOk_append h.1 l1, by rw [lapp, l2]; omega, by rw [lapp, l2]; omega⟩
theorem app_inj_l {x y z : Str} (h : x ++ y = x ++ z) : y = z := by
  have e : (x ++ y).cps = (x ++ z).cps := by rw [h]
  have e2 : x.cps ++ y.cps = x.cps ++ z.cps := e
  have e3 : y.cps = z.cps := by
    have := congrArg Array.toList e2
    rw [Array.toList_append, Array.toList_append] at this
    exact Array.toList_inj.mp (List.append_cancel_left this)
  cases y; cases z; simp at e3; rw [e3]
theorem app_inj_r {x y z : Str} (h : y ++ x = z ++ x) : y = z := by
  have e : (y ++ x).cps = (z ++ x).cps := by rw [h]
  have e2 : y.cps ++ x.cps = z.cps ++ x.cps := e
  have e3 : y.cps = z.cps := by
    have := congrArg Array.toList e2
    rw [Array.toList_append, Array.toList_append] at this
    exact Array.toList_inj.mp (List.append_cancel_right this)
  cases y; cases z; simp at e3; rw [e3]
theorem word_inj {sh : Str} {f : Bool} {st sp : Int} (hsp : sp = 1 ∨ sp = 3 ∨ sp = 5 ∨ sp = 7 ∨ sp = 9 ∨ sp = 11) {k l : Nat} (hk : k < 26) (hl : l < 26) (e : wordF sh f st sp k = wordF sh f st sp l) : k = l := by
  have e1 : letr ((st + k * sp) % 26) = letr ((st + l * sp) % 26) := by
    unfold wordF at e
    cases f
    · simp only [Bool.false_eq_true, if_false] at e; exact app_inj_r e
    · simp only [if_true] at e; exact app_inj_l e
  have h1 := Int.emod_nonneg (st + k * sp) (show (26 : Int) ≠ 0 by decide)
  have h2 := Int.emod_nonneg (st + l * sp) (show (26 : Int) ≠ 0 by decide)
  have e2 : (st + k * sp) % 26 = (st + l * sp) % 26 := by
    unfold letr at e1
    simp at e1
    omega
  rcases hsp with rfl | rfl | rfl | rfl | rfl | rfl <;> omega
theorem words_nodup {sh : Str} {f : Bool} {st sp : Int} (hsp : sp = 1 ∨ sp = 3 ∨ sp = 5 ∨ sp = 7 ∨ sp = 9 ∨ sp = 11) {m : Nat} (hm : m ≤ 26) : ((List.range m).map (wordF sh f st sp)).Nodup := by
  unfold List.Nodup
  rw [List.pairwise_map]
  refine (List.nodup_range (n := m)).imp_of_mem ?_
  intro a b ha hb hne e
  rw [List.mem_range] at ha hb
  exact hne (word_inj hsp (by omega) (by omega) e)
def WQ (ns : List Int) (i j C m : Nat) (s : Sto) (d : D) (s' : Sto) : Prop :=
  ∃ (l : Nat) (ws : List Str), d = .loc l ∧ s.length ≤ l ∧ s'[l]? = some (.lst (ws.map D.str)) ∧ ws.length = m ∧ ws.Nodup ∧ (∀ w ∈ ws, sOk w = true ∧ 0 < w.length ∧ w.length ≤ 4) ∧ SV ns i j (C + 4) s' ∧ Up i s s'
theorem words_ok {ns : List Int} {i j C k m : Nat} {s : Sto} (hC : C < 2 ^ 40) (hv : SV ns i j C s) (hm : m ≤ 26) : (callP pg (k + 2) "_law_words" [.loc i, .int m] s).to (WQ ns i j C m s) NoX := by
  rw [c__law_words]
  apply gc_to
  have hlt := hv.lt
  unfold m__law_words
  simp
  refine hlp.draw_then hv (by decide) lg (by omega) fun st s1 a1 a2 h1 u1 l1 => ?_
  refine hlp.draw_then h1 (by decide) lg (by omega) fun sp s2 b1 b2 h2 u2 l2 => ?_
  have hl2 : (2 : Int).natAbs.log2 + sp.natAbs.log2 < 1000000 := by
    have := small_log (n := sp.natAbs) (m := 60) (by omega)
    have : (2 : Int).natAbs.log2 ≤ 60 := small_log (by decide)
    omega
  simp at hl2
  simp [hl2]
  refine hlp.draw_then h2 (by decide) lg (by omega) fun q s3 c1 c2 h3 u3 l3 => ?_
  have hq : pSl (.str "qxz") none (some q) s3 = some (.str (cutS "qxz" none (some q)), s3) := by
    rw [pSl_str, if_pos (by rw [szEq]; decide +kernel)]
  have hsh : shOk (cutS "qxz" none (some q)) := by
    rcases (show q = 0 ∨ q = 1 ∨ q = 2 ∨ q = 3 by omega) with rfl | rfl | rfl | rfl <;> exact ⟨by decide +kernel, by decide +kernel⟩
  simp [hq]
  generalize cutS "qxz" none (some q) = sh at hsh ⊢
  refine hlp.draw_then h3 (by decide) lg (by omega) fun f s4 d1 d2 h4 u4 l4 => ?_
  have u04 := ((u1.trans u2).trans u3).trans u4
  have hsp : (1 + 2 * sp) = 1 ∨ (1 + 2 * sp) = 3 ∨ (1 + 2 * sp) = 5 ∨ (1 + 2 * sp) = 7 ∨ (1 + 2 * sp) = 9 ∨ (1 + 2 * sp) = 11 := by omega
  have fin : ∀ b : Bool, (gc s (.ok (.loc s4.length) (s4 ++ [O.lst ((List.range m).map fun k => D.str (wordF sh b st (1 + 2 * sp) k))]))).to (WQ ns i j C m s) NoX := fun b => by
    have : WQ ns i j C m s (.loc s4.length) (s4 ++ [O.lst ((List.range m).map fun k => D.str (wordF sh b st (1 + 2 * sp) k))]) :=
      ⟨s4.length, (List.range m).map (wordF sh b st (1 + 2 * sp)), rfl, u04.1, by rw [get_len]; simp, by simp, words_nodup hsp hm, fun w hw => by
        obtain ⟨k, _, rfl⟩ := List.mem_map.mp hw
        exact word_ok hsh b _ _ k, h4.app.mono (by omega), u04.trans Up.app⟩
    refine gc_both this fun hc => ?_
    have := u04.1
    simp [D.cl] at hc
    omega
  have hturn : ∀ t : Nat, t < m → (t : Int).natAbs.log2 + (1 + 2 * sp).natAbs.log2 < 1000000 := fun t ht => by
    have h1 := small_log (n := (t : Int).natAbs) (m := 60) (by omega)
    have h2 := small_log (n := (1 + 2 * sp).natAbs) (m := 60) (by omega)
    omega
  have hr : rngD 0 (m : Int) = (List.range m).map fun i : Nat => D.int (i : Int) := rng0
  simp [hr]
  refine ⟨fun hf => ⟨fitI_iff.mpr (by omega), ?_⟩, fun hf => ⟨fitI_iff.mpr (by omega), ?_⟩⟩
  · rw [compFix_on (F := fun i : Nat => D.int (i : Int)) (f := fun t => some (.str (wordF sh true st (1 + 2 * sp) t))) (sz' (by rw [List.length_range]; omega))]
    · have := fin true
      simpa using this
    · intro t ht
      have ht := List.mem_range.mp ht
      have m0 := Int.emod_nonneg (st + t * (1 + 2 * sp)) (show (26 : Int) ≠ 0 by decide)
      have m1 := Int.emod_lt_of_pos (st + t * (1 + 2 * sp)) (show (0 : Int) < 26 by decide)
      have hlen : sh.length + (letr ((st + t * (1 + 2 * sp)) % 26)).length ≤ sizeLine := sz' (by rw [(letr_ok m0 m1).2]; have := hsh.2; omega)
      have hx := hturn t ht
      simp at hx
      unfold turnC
      simp [noX, Res.ofO, hx, letters_at m0 m1, hlen, wordF]
  · rw [compFix_on (F := fun i : Nat => D.int (i : Int)) (f := fun t => some (.str (wordF sh false st (1 + 2 * sp) t))) (sz' (by rw [List.length_range]; omega))]
    · have := fin false
      simpa using this
    · intro t ht
      have ht := List.mem_range.mp ht
      have m0 := Int.emod_nonneg (st + t * (1 + 2 * sp)) (show (26 : Int) ≠ 0 by decide)
      have m1 := Int.emod_lt_of_pos (st + t * (1 + 2 * sp)) (show (0 : Int) < 26 by decide)
      have hlen : (letr ((st + t * (1 + 2 * sp)) % 26)).length + sh.length ≤ sizeLine := sz' (by rw [(letr_ok m0 m1).2]; have := hsh.2; omega)
      have hx := hturn t ht
      simp at hx
      unfold turnC
      simp [noX, Res.ofO, hx, letters_at m0 m1, hlen, wordF]
end K69

set_option Elab.async false
set_option linter.all false
set_option maxRecDepth 100000
set_option maxHeartbeats 1000000
namespace K69
open PySem L2 Y
theorem perm_map_inv {α β : Type} {F : α → β} : ∀ {l l' : List β}, l.Perm l' → ∀ m : List α, l' = m.map F → ∃ ps : List α, ps.Perm m ∧ l = ps.map F := by
  intro l l' h
  induction h with
  | nil => intro m e; exact ⟨m, List.Perm.refl _, e⟩
  | cons x _ ih =>
    intro m e
    cases m with
    | nil => cases e
    | cons a r =>
      rw [List.map_cons, List.cons.injEq] at e
      obtain ⟨ps, h1, h2⟩ := ih r e.2
      exact ⟨a :: ps, h1.cons a, by rw [List.map_cons, e.1, h2]⟩
  | swap x y l =>
    intro m e
    cases m with
    | nil => cases e
    | cons a r =>
      cases r with
      | nil => simp at e
      | cons b r =>
        simp only [List.map_cons, List.cons.injEq] at e
        exact ⟨b :: a :: r, List.Perm.swap a b r, by simp [e.1, e.2.1, e.2.2]⟩
  | trans _ _ ih1 ih2 =>
    intro m e
    obtain ⟨ps, h1, h2⟩ := ih2 m e
    obtain ⟨qs, h3, h4⟩ := ih1 ps h2
    exact ⟨qs, h3.trans h1, h4⟩
theorem compLst_onF {α : Type} {g : GM} {t : EM Bool} {e : EM D} {E0 : Ev} {s : Sto} {F : α → D} {f : α → Option D} {l : List α} {k : Nat} (hk : s[k]? = some (.lst (l.map F))) (hl : l.length < sizeLine) (h : ∀ a ∈ l, turnC g t e E0 (F a) s = .ok (f a) s) : compS g t e E0 (.lst k) s = .ok (l.filterMap f) s := by
  have key : ∀ (n i : Nat), l.length < i + n → i ≤ l.length → compK g t e E0 k n i s = .ok ((l.drop i).filterMap f) s := by
    intro n
    induction n with
    | zero => intro i h1 h2; omega
    | succ n ih =>
      intro i h1 h2
      unfold compK
      rw [hk]
      simp only
      cases e' : (l.map F)[i]? with
      | none =>
        have := List.getElem?_eq_none_iff.mp e'
        rw [List.length_map] at this
        have : i = l.length := by omega
        subst this; simp
      | some d =>
        obtain ⟨a, e2, rfl⟩ := map_at e'
        obtain ⟨hi, ea⟩ := List.getElem?_eq_some_iff.mp e2
        simp only
        rw [h a (by rw [← ea]; exact List.getElem_mem hi), Res.bind_ok, ih (i + 1) (by omega) (by omega), Res.bind_ok, List.drop_eq_getElem_cons hi, List.filterMap_cons, ea]
        cases f a <;> rfl
  unfold compS
  have := key sizeLine 0 (by omega) (Nat.zero_le _)
  rw [List.drop_zero] at this
  exact this
theorem nms_perm {b : Bool} {l m : List It} (h : l.Perm m) : (nmsOf b l).length = (nmsOf b m).length := by
  unfold nmsOf; exact (h.filterMap _).length_eq
theorem nms_drop {b : Bool} {l : List It} {r : Nat} : (nmsOf b (l.drop r)).length ≤ (nmsOf b l).length := by
  have : nmsOf b l = nmsOf b (l.take r) ++ nmsOf b (l.drop r) := by rw [← nms_app, List.take_append_drop]
  rw [this, List.length_append]; omega
/-- what a head call gives -/
def HQ (ns : List Int) (i j C : Nat) (x : Str) (s : Sto) (d : D) (s' : Sto) : Prop :=
  ∃ (h : Nat) (H : Hd), d = .loc h ∧ s.length ≤ h ∧ H.name = x ∧ H.ok ∧ HdS s' i s'.length h H ∧ SV ns i j (C + 30) s' ∧ Up i s s'
theorem HQ.gc {ns : List Int} {i j C : Nat} {x : Str} {s s' : Sto} {d : D} (h : HQ ns i j C x s d s') : (gc s (.ok d s')).to (HQ ns i j C x s) NoX := by
  refine gc_both h fun hc => ?_
  obtain ⟨l, H, rfl, hl, _⟩ := h
  simp [D.cl] at hc
  omega
theorem seven {ws : List Str} (h : ws.length = 7) : ∃ w0 w1 w2 w3 w4 w5 w6, ws = [w0, w1, w2, w3, w4, w5, w6] := by
  match ws, h with
  | [a, b, c, d, e, f, g], _ => exact ⟨a, b, c, d, e, f, g, rfl⟩
theorem head_ok {ns : List Int} {i j C k : Nat} {x : Str} {s : Sto} (hC : C < 2 ^ 40) (hv : SV ns i j C s) : (callP pg (k + 3) "_law_wild_head" [.loc i, .str x] s).to (HQ ns i j C x s) NoX := by
  rw [c__law_wild_head]
  apply gc_to
  have hlt := hv.lt
  have z1 : 1 ≤ sizeLine := sz' (by decide)
  have z2 : 2 ≤ sizeLine := sz' (by decide)
  have z3 : 3 ≤ sizeLine := sz' (by decide)
  have z4 : 4 ≤ sizeLine := sz' (by decide)
  unfold m__law_wild_head
  simp
  refine Res.to_imp (words_ok (k := k) (m := 7) hC hv (by decide)) fun d s1 ⟨lw, ws, hd, hlw, hg, hl7, _, hws, h1, u1⟩ => ?_
  subst hd
  obtain ⟨w0, w1, w2, w3, w4, w5, w6, rfl⟩ := seven hl7
  have hwl := (List.getElem?_eq_some_iff.mp hg).1
  simp only [List.map_cons, List.map_nil] at hg
  have q0 := hws w0 (by simp)
  have q1 := hws w1 (by simp)
  have q2 := hws w2 (by simp)
  have q3 := hws w3 (by simp)
  have q4 := hws w4 (by simp)
  have q5 := hws w5 (by simp)
  have q6 := hws w6 (by simp)
  simp [hg, z2, z3]
  have h1a : SV ns i j (C + 4) (s1 ++ [O.lst (([(false, w0), (false, w1), (true, w2)] : List It).map itD)]) := h1.app
  refine hlp.shuf shuf h1a (get_len (t := [_])) (by have := u1.1; omega) (by simp) (by omega) fun li ys s2 hys hper hli h2 u2 => ?_
  obtain ⟨I0, hI0, rfl⟩ := perm_map_inv (F := itD) hper [(false, w0), (false, w1), (true, w2)] rfl
  have u02 := (u1.trans Up.app).trans u2
  have hlil := (List.getElem?_eq_some_iff.mp hys).1
  refine hlp.draw_then h2 (by decide) lg (by simp; omega) fun r s3 r1 r2 h3 u3 l3 => ?_
  have u03 := u02.trans u3
  have hys3 := u3.get hys (by simp at hli; have := u1.1; omega)
  obtain ⟨t, rfl⟩ : ∃ t : Nat, r = t := ⟨r.toNat, by omega⟩
  simp [pSl_loc hys3, cut_from]
  rw [← List.map_drop]
  have hlw : lw ≠ i := by have := u1.1; omega
  have gw3 : s3[lw]? = some (.lst [.str w0, .str w1, .str w2, .str w3, .str w4, .str w5, .str w6]) := (u2.trans u3).get (by rw [get_lt hwl]; exact hg) hlw
  have gw : (s3 ++ [O.lst ((I0.drop t).map itD)])[lw]? = some (.lst [.str w0, .str w1, .str w2, .str w3, .str w4, .str w5, .str w6]) := by rw [get_lt (List.getElem?_eq_some_iff.mp gw3).1]; exact gw3
  have gi : (s3 ++ [O.lst ((I0.drop t).map itD)])[s3.length]? = some (.lst ((I0.drop t).map itD)) := by rw [get_len]; rfl
  have h4 : SV ns i j (C + 8) (s3 ++ [O.lst ((I0.drop t).map itD)]) := h3.app.mono (by simp)
  have u04 : Up i s (s3 ++ [O.lst ((I0.drop t).map itD)]) := u03.trans Up.app
  have ha1 : s.length ≤ s3.length := u03.1
  generalize s3 ++ [O.lst ((I0.drop t).map itD)] = S4 at gw gi h4 u04 ⊢
  generalize s3.length = a1 at gi ha1 ⊢
  have hld : (Str.ofString ".").length = 1 := by decide +kernel
  have hx1 : w4.length + (Str.ofString ".").length ≤ sizeLine := sz' (by rw [hld]; omega)
  have hx2 : (w4 ++ Str.ofString ".").length + w0.length ≤ sizeLine := sz' (by rw [lapp, hld]; omega)
  simp [gw, hx1, hx2, z4]
  have h4a : SV ns i j (C + 8) (S4 ++ [O.lst (([(false, w3), (false, (w4 ++ ("." : Str)) ++ w0), (true, w5), (true, w6)] : List It).map itD)]) := h4.app
  refine hlp.shuf shuf h4a (get_len (t := [_])) (by have := u04.1; omega) (by simp) (by omega) fun a2 ys2 s5 hys2 hper2 hli2 h5 u5 => ?_
  obtain ⟨P0, hP0, rfl⟩ := perm_map_inv (F := itD) hper2 [(false, w3), (false, (w4 ++ ("." : Str)) ++ w0), (true, w5), (true, w6)] rfl
  have u45 : Up i S4 s5 := Up.app.trans u5
  have u05 := u04.trans u45
  have ha1l := (List.getElem?_eq_some_iff.mp gi).1
  have gi5 := u45.get gi (by omega)
  simp at hli2
  have s4l := u04.1
  unfold eDisp fPairs fPairs fPairs fPairs fPairs
  simp [z1]
  refine hlp.draw_then (h5.app (t := [O.dic []])) (by decide) lg (by simp; omega) fun q s6 c1 c2 h6 u6 l6 => ?_
  have u56 : Up i s5 s6 := Up.app.trans u6
  have u06 := u05.trans u56
  obtain ⟨q, rfl⟩ : ∃ t : Nat, q = t := ⟨q.toNat, by omega⟩
  have gd6 : s6[s5.length]? = some (.dic []) := u6.get (get_len (t := [_])) (by have := u05.1; omega)
  have gi6 := u56.get gi5 (by omega)
  have gp6 := u56.get hys2 (by omega)
  have hh6 := (List.getElem?_eq_some_iff.mp gd6).1
  simp [gd6, cut_to]
  have em : mergeA [] [((.inr (Str.ofString "name") : Key), D.str x), (.inr (Str.ofString "items"), .loc a1), (.inr (Str.ofString "places"), .loc a2), (.inr (Str.ofString "results"), .tup (List.take q [D.str (Str.ofString "result")]))] = [(.inr (Str.ofString "name"), D.str x), (.inr (Str.ofString "items"), .loc a1), (.inr (Str.ofString "places"), .loc a2), (.inr (Str.ofString "results"), .tup ((([("result" : Str)]).take q).map D.str))] := by
    rw [List.map_take]
    simp [mergeA, putA, ofString_inj]
  rw [em]
  have hi1 : s5.length ≠ i := by have := u05.1; omega
  have hj1 : s5.length ≠ j := by have := u05.1; omega
  have ha12 : a1 ≠ s5.length := by have := (List.getElem?_eq_some_iff.mp gi5).1; omega
  have ha22 : a2 ≠ s5.length := by have := (List.getElem?_eq_some_iff.mp hys2).1; omega
  have v7 := h6.set (o := .dic [(.inr (Str.ofString "name"), D.str x), (.inr (Str.ofString "items"), .loc a1), (.inr (Str.ofString "places"), .loc a2), (.inr (Str.ofString "results"), .tup ((([("result" : Str)]).take q).map D.str))]) hi1 hj1
  have u07 := u06.setGe (l := s5.length) (o := .dic [(.inr (Str.ofString "name"), D.str x), (.inr (Str.ofString "items"), .loc a1), (.inr (Str.ofString "places"), .loc a2), (.inr (Str.ofString "results"), .tup ((([("result" : Str)]).take q).map D.str))]) u05.1
  have gd7 : (s6.set s5.length (.dic [(.inr (Str.ofString "name"), D.str x), (.inr (Str.ofString "items"), .loc a1), (.inr (Str.ofString "places"), .loc a2), (.inr (Str.ofString "results"), .tup ((([("result" : Str)]).take q).map D.str))]))[s5.length]? = _ := List.getElem?_set_self hh6
  have gi7 : (s6.set s5.length (.dic [(.inr (Str.ofString "name"), D.str x), (.inr (Str.ofString "items"), .loc a1), (.inr (Str.ofString "places"), .loc a2), (.inr (Str.ofString "results"), .tup ((([("result" : Str)]).take q).map D.str))]))[a1]? = _ := (List.getElem?_set_ne ha12.symm).trans gi6
  have gp7 : (s6.set s5.length (.dic [(.inr (Str.ofString "name"), D.str x), (.inr (Str.ofString "items"), .loc a1), (.inr (Str.ofString "places"), .loc a2), (.inr (Str.ofString "results"), .tup ((([("result" : Str)]).take q).map D.str))]))[a2]? = _ := (List.getElem?_set_ne ha22.symm).trans gp6
  have l7 : s.length ≤ s5.length := u05.1
  generalize s6.set s5.length (.dic [(.inr (Str.ofString "name"), D.str x), (.inr (Str.ofString "items"), .loc a1), (.inr (Str.ofString "places"), .loc a2), (.inr (Str.ofString "results"), .tup ((([("result" : Str)]).take q).map D.str))]) = S7 at v7 u07 gd7 gi7 gp7 ⊢
  generalize s5.length = h at *
  generalize hIe : I0.drop t = I at *
  have hIl : I.length ≤ 3 := by rw [← hIe, List.length_drop, hI0.length_eq]; simp
  have hPl : P0.length = 4 := hP0.length_eq
  have hz7 : I.length + P0.length < sizeLine := sz (by omega)
  have bI := (List.getElem?_eq_some_iff.mp gi7).1
  have bP := (List.getElem?_eq_some_iff.mp gp7).1
  have bD := (List.getElem?_eq_some_iff.mp gd7).1
  have nmF : ∀ b : Bool, ((I ++ P0).filterMap fun i : It => if i.1 = b then some (D.str i.2) else none) = (nmsOf b (I ++ P0)).map D.str := fun b => by
    unfold nmsOf
    rw [List.map_filterMap]
    congr 1
    funext i
    split <;> rfl
  rw [pAdd_loc gi7 gp7 (sz' (by simp; omega)), ← List.map_append]
  simp
  rw [compLst_onF (l := I ++ P0) (F := itD) (f := fun i => if i.1 = false then some (.str i.2) else none) (by rw [get_len]; simp) (by rw [List.length_append]; exact hz7)]
  · rw [nmF false]
    simp [get_lt bD, gd7, setO_str, z4]
    refine ⟨_, ⟨sz (by decide), rfl⟩, ?_⟩
    rw [← List.map_append]
    have ep : putA [((.inr (Str.ofString "name") : Key), D.str x), (.inr (Str.ofString "items"), .loc a1), (.inr (Str.ofString "places"), .loc a2), (.inr (Str.ofString "results"), .tup (List.take q [D.str (Str.ofString "result")]))] (.inr (Str.ofString "ints")) (.loc (S7.length + 1)) = [(.inr (Str.ofString "name"), D.str x), (.inr (Str.ofString "items"), .loc a1), (.inr (Str.ofString "places"), .loc a2), (.inr (Str.ofString "results"), .tup (List.take q [D.str (Str.ofString "result")])), (.inr (Str.ofString "ints"), .loc (S7.length + 1))] := by
      simp [putA, ofString_inj]
    rw [ep]
    have v8 := (v7.app (t := [O.lst ((I ++ P0).map itD), O.lst ((nmsOf false (I ++ P0)).map D.str)])).set (o := O.dic [(.inr (Str.ofString "name"), D.str x), (.inr (Str.ofString "items"), .loc a1), (.inr (Str.ofString "places"), .loc a2), (.inr (Str.ofString "results"), .tup (List.take q [D.str (Str.ofString "result")])), (.inr (Str.ofString "ints"), .loc (S7.length + 1))]) hi1 hj1
    have u08 := (u07.trans (Up.app (t := [O.lst ((I ++ P0).map itD), O.lst ((nmsOf false (I ++ P0)).map D.str)]))).setGe (l := h) (o := O.dic [(.inr (Str.ofString "name"), D.str x), (.inr (Str.ofString "items"), .loc a1), (.inr (Str.ofString "places"), .loc a2), (.inr (Str.ofString "results"), .tup (List.take q [D.str (Str.ofString "result")])), (.inr (Str.ofString "ints"), .loc (S7.length + 1))]) l7
    have bD2 : h < (S7 ++ [O.lst ((I ++ P0).map itD), O.lst ((nmsOf false (I ++ P0)).map D.str)]).length := by simp; omega
    have oth : ∀ (k : Nat) (o : O) (o2 : O), S7[k]? = some o → k ≠ h → ((S7 ++ [O.lst ((I ++ P0).map itD), O.lst ((nmsOf false (I ++ P0)).map D.str)]).set h o2)[k]? = some o := fun k o o2 e hk => by
      rw [List.getElem?_set_ne (Ne.symm hk), get_lt (List.getElem?_eq_some_iff.mp e).1]; exact e
    have gi8 := oth a1 _ (O.dic [(.inr (Str.ofString "name"), D.str x), (.inr (Str.ofString "items"), .loc a1), (.inr (Str.ofString "places"), .loc a2), (.inr (Str.ofString "results"), .tup (List.take q [D.str (Str.ofString "result")])), (.inr (Str.ofString "ints"), .loc (S7.length + 1))]) gi7 ha12
    have gp8 := oth a2 _ (O.dic [(.inr (Str.ofString "name"), D.str x), (.inr (Str.ofString "items"), .loc a1), (.inr (Str.ofString "places"), .loc a2), (.inr (Str.ofString "results"), .tup (List.take q [D.str (Str.ofString "result")])), (.inr (Str.ofString "ints"), .loc (S7.length + 1))]) gp7 ha22
    have gd8 : ((S7 ++ [O.lst ((I ++ P0).map itD), O.lst ((nmsOf false (I ++ P0)).map D.str)]).set h (O.dic [(.inr (Str.ofString "name"), D.str x), (.inr (Str.ofString "items"), .loc a1), (.inr (Str.ofString "places"), .loc a2), (.inr (Str.ofString "results"), .tup (List.take q [D.str (Str.ofString "result")])), (.inr (Str.ofString "ints"), .loc (S7.length + 1))]))[h]? = _ := List.getElem?_set_self bD2
    have gx8 : ((S7 ++ [O.lst ((I ++ P0).map itD), O.lst ((nmsOf false (I ++ P0)).map D.str)]).set h (O.dic [(.inr (Str.ofString "name"), D.str x), (.inr (Str.ofString "items"), .loc a1), (.inr (Str.ofString "places"), .loc a2), (.inr (Str.ofString "results"), .tup (List.take q [D.str (Str.ofString "result")])), (.inr (Str.ofString "ints"), .loc (S7.length + 1))]))[S7.length + 1]? = some (.lst ((nmsOf false (I ++ P0)).map D.str)) := by
      rw [List.getElem?_set_ne (by omega), get_len_add]; rfl
    have hx3 : S7.length + 1 ≠ h := by omega
    have hx3s : s.length ≤ S7.length + 1 := by have := u07.1; omega
    generalize (S7 ++ [O.lst ((I ++ P0).map itD), O.lst ((nmsOf false (I ++ P0)).map D.str)]).set h (O.dic [(.inr (Str.ofString "name"), D.str x), (.inr (Str.ofString "items"), .loc a1), (.inr (Str.ofString "places"), .loc a2), (.inr (Str.ofString "results"), .tup (List.take q [D.str (Str.ofString "result")])), (.inr (Str.ofString "ints"), .loc (S7.length + 1))]) = S8 at v8 u08 gi8 gp8 gd8 gx8 ⊢
    generalize S7.length + 1 = a3 at *
    rw [pAdd_loc gi8 gp8 (sz' (by simp; omega)), ← List.map_append]
    have bD8 := (List.getElem?_eq_some_iff.mp gd8).1
    have bI8 := (List.getElem?_eq_some_iff.mp gi8).1
    have bP8 := (List.getElem?_eq_some_iff.mp gp8).1
    have bX8 := (List.getElem?_eq_some_iff.mp gx8).1
    simp
    rw [compLst_onF (l := I ++ P0) (F := itD) (f := fun i => if i.1 = true then some (.str i.2) else none) (by rw [get_len]; simp) (by rw [List.length_append]; exact hz7)]
    · rw [nmF true]
      simp [get_lt bD8, gd8, setO_str, z4]
      refine ⟨_, ⟨sz (by decide), rfl⟩, ?_⟩
      have ep : putA [((.inr (Str.ofString "name") : Key), D.str x), (.inr (Str.ofString "items"), .loc a1), (.inr (Str.ofString "places"), .loc a2), (.inr (Str.ofString "results"), .tup (List.take q [D.str (Str.ofString "result")])), (.inr (Str.ofString "ints"), .loc a3)] (.inr (Str.ofString "arrays")) (.loc (S8.length + 1)) = [(.inr (Str.ofString "name"), D.str x), (.inr (Str.ofString "items"), .loc a1), (.inr (Str.ofString "places"), .loc a2), (.inr (Str.ofString "results"), .tup (List.take q [D.str (Str.ofString "result")])), (.inr (Str.ofString "ints"), .loc a3), (.inr (Str.ofString "arrays"), .loc (S8.length + 1))] := by
        simp [putA, ofString_inj]
      rw [ep]
      have u8l := u08.1
      have oth2 : ∀ (k : Nat) (o : O) (o2 : O), S8[k]? = some o → k ≠ h → ((S8 ++ [O.lst (I.map itD ++ P0.map itD), O.lst ((nmsOf true (I ++ P0)).map D.str)]).set h o2)[k]? = some o := fun k o o2 e hk => by
        rw [List.getElem?_set_ne (Ne.symm hk), get_lt (List.getElem?_eq_some_iff.mp e).1]; exact e
      have hli0 : i < s.length := hlt.1
      refine HQ.gc ⟨h, ⟨x, I, P0, (([("result" : Str)]).take q)⟩, rfl, l7, rfl, ?_, ⟨a1, a2, a3, S8.length + 1, ⟨by simp; omega, by omega⟩, ⟨by simp; omega, by omega⟩, ⟨by simp; omega, by omega⟩, ⟨by simp; omega, by omega⟩, ⟨by simp, by omega⟩, ?_, oth2 _ _ _ gi8 ha12, oth2 _ _ _ gp8 ha22, oth2 _ _ _ gx8 hx3, ?_⟩, ((v8.app.set hi1 hj1).mono (by simp)), (u08.trans Up.app).setGe l7⟩
      · refine ⟨hIl, hPl, ?_, ?_, fun z hz => ?_, ?_⟩
        · rw [← hIe]
          exact Nat.le_trans nms_drop (by rw [nms_perm hI0]; exact Nat.le_refl 1)
        · rw [nms_perm hP0]; rfl
        · have hz' : z ∈ ([(false, w0), (false, w1), (true, w2)] : List It) ∨ z ∈ ([(false, w3), (false, (w4 ++ ("." : Str)) ++ w0), (true, w5), (true, w6)] : List It) := by
            rcases List.mem_append.mp hz with hz | hz
            · rw [← hIe] at hz; exact .inl (hI0.mem_iff.mp (List.mem_of_mem_drop hz))
            · exact .inr (hP0.mem_iff.mp hz)
          have dot : sOk (Str.ofString ".") = true := by decide +kernel
          simp only [List.mem_cons, List.not_mem_nil, or_false] at hz'
          rcases hz' with (rfl | rfl | rfl) | (rfl | rfl | rfl | rfl)
          · exact ⟨q0.1, q0.2.1, by have := q0.2.2; simp only; omega⟩
          · exact ⟨q1.1, q1.2.1, by have := q1.2.2; simp only; omega⟩
          · exact ⟨q2.1, q2.2.1, by have := q2.2.2; simp only; omega⟩
          · exact ⟨q3.1, q3.2.1, by have := q3.2.2; simp only; omega⟩
          · refine ⟨sOk_append (sOk_append q4.1 dot) q0.1, ?_, ?_⟩
            · simp only; rw [lapp, lapp, hld]; omega
            · simp only; rw [lapp, lapp, hld]; omega
          · exact ⟨q5.1, q5.2.1, by have := q5.2.2; simp only; omega⟩
          · exact ⟨q6.1, q6.2.1, by have := q6.2.2; simp only; omega⟩
        · rcases (show q = 0 ∨ q = 1 by omega) with rfl | rfl
          · exact .inl rfl
          · exact .inr rfl
      · rw [List.getElem?_set_self (by simp; omega), List.map_take]
        rfl
      · rw [List.getElem?_set_ne (by omega), get_len_add]; rfl
    · intro i hi
      obtain ⟨b, y⟩ := i
      unfold turnC
      cases b <;> simp [itD, noX, Res.ofO, ofString_inj]
  · intro i hi
    obtain ⟨b, y⟩ := i
    unfold turnC
    cases b <;> simp [itD, noX, Res.ofO, ofString_inj]
end K69

set_option Elab.async false
set_option linter.all false
set_option maxRecDepth 100000
set_option maxHeartbeats 1000000
namespace K69
open PySem L2 Y
theorem HdS.mono {s : Sto} {i n n' h : Nat} {H : Hd} (q : HdS s i n h H) (hn : n ≤ n') : HdS s i n' h H := by
  obtain ⟨a1, a2, a3, a4, b0, b1, b2, b3, b4, r⟩ := q
  exact ⟨a1, a2, a3, a4, ⟨by omega, b0.2⟩, ⟨by omega, b1.2⟩, ⟨by omega, b2.2⟩, ⟨by omega, b3.2⟩, ⟨by omega, b4.2⟩, r⟩
theorem Fr.app {i : Nat} {s t : Sto} : Fr i s.length s (s ++ t) := fun k hk _ => get_lt hk
theorem up_transb {i b : Nat} {s s' s'' : Sto} (h : Up i s s') (h' : Ub i b s' s'') (hb : s.length ≤ b) : Up i s s'' :=
  ⟨Nat.le_trans h.1 h'.1, fun k hk hi => (h'.2 k (by have := h.1; omega) hi (by omega)).trans (h.2 k hk hi)⟩
structure PrOk (hs : List (Nat × Hd)) (H : Hd) (p : Pr) : Prop where
  nm : p.name = H.name
  its : p.items = H.its
  pls : p.places = H.pls
  res : p.res = H.res
  hints : p.hints.length ≤ 100 ∧ ∀ f ∈ p.hints, ∀ q ∈ f.2, sOk q.1 = true
  body : ∀ q ∈ Sm.allL p.body, locOk hs H q
  dep : Sm.depL p.body ≤ 2
  len : (Sm.allL p.body).length ≤ 61
/-- a core as it is drawn -/
structure GenCore (core : List Pr) : Prop where
  ex : ∃ hs : List (Nat × Hd), hs.length = core.length ∧ (∀ (t : Nat) (p : Pr) (q : Nat × Hd), core[t]? = some p → hs[t]? = some q → PrOk hs q.2 p) ∧ (∀ q ∈ hs, q.2.ok)
  nd : (core.map Pr.name).Nodup
  nmok : ∀ p ∈ core, sOk p.name = true ∧ 0 < p.name.length ∧ p.name.length ≤ 4
  one : 0 < core.length
  two : core.length ≤ 2
def GQ (ns : List Int) (i j C : Nat) (s : Sto) (d : D) (s' : Sto) : Prop :=
  ∃ core : List Pr, d = .tup (core.map Pr.d) ∧ GenCore core ∧ SV ns i j (C + 20000) s' ∧ Up i s s'
theorem GQ.gc {ns : List Int} {i j C : Nat} {s s' : Sto} {d : D} (hi : i < s.length) (hj : j < s.length) (h : GQ ns i j C s d s') : (gc s (.ok d s')).to (GQ ns i j C s) NoX := by
  refine gcU h ?_
  obtain ⟨e, h1, h2, h4, h5⟩ := h
  exact ⟨e, h1, h2, h4.take hi hj, h5.take⟩
theorem depL_app {l m : List Sm} {n : Nat} (h : Sm.depL l ≤ n) (h2 : Sm.depL m ≤ n) : Sm.depL (l ++ m) ≤ n := by
  induction l with
  | nil => exact h2
  | cons a r ih => simp only [Sm.depL, List.cons_append] at h ⊢; have := ih (by omega); omega
theorem pNe_res {res : List Str} {s : Sto} (h : res = [] ∨ res = [("result" : Str)]) : pNe (.tup (res.map D.str)) (.tup []) s = some (.bl (!res.isEmpty), s) := by
  rcases h with rfl | rfl
  · exact (pEq_tups (n := 1) (by simp [datS, datSL]) (by simp [datS, datSL]) (by decide)).2
  · exact (pEq_tups (n := 1) (by decide +kernel) (by simp [datS, datSL]) (by decide)).2
/-- the state of the loop over heads -/
def OI (ns : List Int) (i j C lh lc m : Nat) (hs : List (Nat × Hd)) (s : Sto) (t : Nat) (E : Ev) (S : Sto) : Prop :=
  ∃ (o3 o4 o5 o6 : Option D) (ps : List Pr), E = [some (.loc i), some (.loc lh), some (.loc lc), o3, o4, o5, o6, none] ∧ SV ns i j (C + t * 8000) S ∧ HsS S i m lh hs ∧ m ≤ S.length ∧ Up i s S ∧ S[lc]? = some (.lst (ps.map Pr.d)) ∧ ps.length = t ∧ (∀ (t : Nat) (p : Pr) (q : Nat × Hd), ps[t]? = some p → hs[t]? = some q → PrOk hs q.2 p)
def coB (k : Nat) : SM := (sCons (sSet 4 (eA mkLst (aCons (eC (.int 4)) aNil)))
  (sCons (sSet 5 (eBin (pBin .Add) (eCall 5 (callP pg k "_law_wild_block") (aCons (eVar 0) (aCons (eVar 1) (aCons (eVar 3) (aCons (eC (.int 2)) (aCons (eVar 4) aNil)))))) (eCall 5 (callP pg k "_law_wild_block") (aCons (eVar 0) (aCons (eVar 1) (aCons (eVar 3) (aCons (eC (.int 1)) (aCons (eVar 4) aNil))))))))
  (sCons (sIf (tOfB (eBin (pCmp .NotEq) (eBin pIx (eVar 3) (eC (.str "results"))) (eA mkTup aNil))) (sCons (sSet 5 (eBin (pBin .Add) (eVar 5) (eA mkTup (aCons (eA mkTup (aCons (eC (.str "give")) (aCons (eA mkTup (aCons (eCall 4 (callP pg k "_law_wild_value") (aCons (eVar 0) (aCons (eBin pIx (eVar 3) (eC (.str "ints"))) (aCons (eBin pIx (eVar 3) (eC (.str "arrays"))) (aCons (eC (.int 1)) aNil))))) aNil)) aNil))) aNil))))
  sNil) sNil)
  (sCons (sSet 6 (eL lTup (lOfE (eBin pIx (eVar 3) (eC (.str "items"))))))
  (sCons (sExpr (eMeth "append" (eVar 2) (aCons (eA mkTup (aCons (eBin pIx (eVar 3) (eC (.str "name"))) (aCons (eVar 6) (aCons (eBin pIx (eVar 3) (eC (.str "results"))) (aCons (eL lTup (lOfE (eBin pIx (eVar 3) (eC (.str "places"))))) (aCons (eA mkTup aNil) (aCons (eA mkTup aNil) (aCons (eA mkTup aNil) (aCons (eA mkTup aNil) (aCons (eVar 5) aNil)))))))))) aNil)))
  sNil)))))
theorem core_eq {k : Nat} : m__law_wild_core k = (sCons (sSet 1 (eAlloc (fLc (iFix (fSorted (eCall 2 (callP pg k "_law_words") (aCons (eVar 0) (aCons (eBin (pBin .Add) (eC (.int 1)) (eCall 2 (callP pg k "_law_draw") (aCons (eVar 0) (aCons (eC (.int 2)) aNil)))) aNil))))) (gNm 7) tYesM (eCall 2 (callP pg k "_law_wild_head") (aCons (eVar 0) (aCons (eVar 7) aNil))) [7])))
  (sCons (sSet 2 (eA mkLst aNil))
  (sCons (sFor (iVal (eVar 1)) (gNm 3) (coB k))
  (sCons (sRet (eL lTup (lOfE (eVar 2))))
  sNil)))) := rfl
theorem coB_turn {ns : List Int} {i j C lh lc m k : Nat} {hs : List (Nat × Hd)} {s S : Sto} {t : Nat} {E : Ev} {q : Nat × Hd} (hC : C < 2 ^ 30) (ht : hs[t]? = some q) (hok : ∀ p ∈ hs, p.2.ok) (hs2 : hs.length ≤ 2) (hlc : s.length ≤ lc) (hi0 : i < s.length) (hj0 : j < s.length) (hml : m ≤ lc) (h : OI ns i j C lh lc m hs s t E S) {P : Post} (hz : ∀ E S, OI ns i j C lh lc m hs s (t + 1) E S → P.nx E S) :
    (coB (k + 19) (E.set 3 (some (.loc q.1))) S).to P := by
  obtain ⟨o3, o4, o5, o6, ps, rfl, hv, hhs, hm, hu, hlcS, hpl, hps⟩ := h
  have hlci : lc ≠ i := by omega
  have hlcj : lc ≠ j := by omega
  obtain ⟨h, H⟩ := q
  have htl : t < hs.length := (List.getElem?_eq_some_iff.mp ht).1
  have hmem := List.mem_of_getElem? ht
  have hHok := hok _ hmem
  have hH := hhs.all _ hmem
  simp only at hHok hH
  have hlt := hv.lt
  have hu1 := hu.1
  have lcl := (List.getElem?_eq_some_iff.mp hlcS).1
  have z0 : 0 ≤ sizeLine := Nat.zero_le _
  have z1 : 1 ≤ sizeLine := sz' (by decide)
  have z2 : 2 ≤ sizeLine := sz' (by decide)
  have z9 : 9 ≤ sizeLine := sz' (by decide)
  have p52 : (5:Nat) ^ 2 = 25 := by decide
  have p51 : (5:Nat) ^ 1 = 5 := by decide
  unfold coB
  simp [z1]
  have hE : Env ns i j lh h m S.length hs H (C + t * 8000) (S ++ [O.lst [D.int 4]]) :=
    ⟨hv.app, hhs.fr (fun k hk hi => get_lt (by omega)), hH.fr (fun k hk hi => get_lt (by omega)), by simp; omega, ⟨4, get_len (t := [_])⟩⟩
  have hbj : S.length ≠ j := by omega
  have B2 := blocks_ok (k := k + 6) hm hbj hok hHok (by omega) hs2 2 (C + t * 8000) _ (by omega) hE
  simp only [show 2 * 2 + (k + 6) + 9 = k + 19 by omega] at B2
  refine Res.to_imp B2 fun d S1 ⟨bl, hd, hb1, hb2, hb3, hb4, h5, u5, g5⟩ => ?_
  subst hd
  have hE1 := hE.step hm u5 h5 g5
  have B1 := blocks_ok (k := k + 8) hm hbj hok hHok (by omega) hs2 1 (C + t * 8000 + 201 * 5 ^ 2) S1 (by omega) hE1
  simp only [show 2 * 1 + (k + 8) + 9 = k + 19 by omega] at B1
  show Res.to _ _ _
  refine Res.to_imp B1 fun d S2 ⟨bl2, hd, hc1, hc2, hc3, hc4, h6, u6, g6⟩ => ?_
  subst hd
  have hE2 := hE1.step hm u6 h6 g6
  have ub2 : Ub i S.length S S2 := ⟨by have := u5.1; have := u6.1; simp at *; omega, fun k hk h1 h2 => ((u5.trans u6).2 k (by simp; omega) h1 h2).trans (get_lt hk)⟩
  have up2 : Up i s S2 := up_transb hu ub2 hu1
  have hlc2 : S2[lc]? = some (.lst (ps.map Pr.d)) := ub2.get hlcS hlci (by omega)
  obtain ⟨a1, a2, a3, a4, b0, b1, b2, b3, b4, e0, e1, e2, e3, e4⟩ := hE2.h
  have hres := hHok.res
  have hxl := hHok.xsl
  have hyl := hHok.ysl
  have hz2 : (bl.map Sm.d).length + (bl2.map Sm.d).length ≤ sizeLine := sz' (by simp; omega)
  simp at hz2
  simp [hz2, e0, getA_cons, ofString_inj, z0, pNe_res hres]
  -- the procedure's end
  have fin : ∀ (body : List Sm) (S3 : Sto) (C3 : Nat), C3 ≤ C + (t + 1) * 8000 → SV ns i j C3 S3 → Up i S2 S3 → (∀ q ∈ Sm.allL body, locOk hs H q) → Sm.depL body ≤ 2 → (Sm.allL body).length ≤ 61 →
      OI ns i j C lh lc m hs s (t + 1) [some (.loc i), some (.loc lh), some (.loc lc), some (.loc h), some (.loc S.length), some (.tup (body.map Sm.d)), some (.tup (H.its.map itD)), none] (S3.set lc (.lst ((ps ++ [(⟨H.name, H.its, H.res, H.pls, [], body⟩ : Pr)]).map Pr.d))) := fun body S3 C3 hC3 h7 u7 q1 q2 q3 => by
    refine ⟨_, _, _, _, ps ++ [(⟨H.name, H.its, H.res, H.pls, [], body⟩ : Pr)], rfl, (h7.set hlci hlcj).mono hC3, ?_, ?_, (up2.trans u7).setGe hlc, ?_, by simp [hpl], ?_⟩
    · exact hhs.fr fun k hk hi => by
        rw [List.getElem?_set_ne (by omega)]
        exact (u7.2 k (by have := ub2.1; omega) hi).trans (ub2.2 k (by omega) hi (by omega))
    · simp; have := u7.1; have := ub2.1; omega
    · rw [List.getElem?_set_self (by have := u7.1; have := ub2.1; omega)]
    · intro t' p' q' h1 h2
      by_cases ht' : t' < ps.length
      · rw [List.getElem?_append_left ht'] at h1
        exact hps t' p' q' h1 h2
      · have : t' = ps.length := by
          have := (List.getElem?_eq_some_iff.mp h1).1
          simp at this; omega
        subst this
        rw [List.getElem?_append_right (Nat.le_refl _)] at h1
        simp at h1
        subst h1
        rw [hpl, ht] at h2
        cases h2
        exact ⟨rfl, rfl, rfl, rfl, ⟨by simp, by simp⟩, q1, q2, q3⟩
  have dapp : Sm.depL (bl ++ bl2) ≤ 2 := depL_app hb3 (by omega)
  have lapp2 : (Sm.allL (bl ++ bl2)).length ≤ 60 := by rw [allL_append, List.length_append]; omega
  have oapp : ∀ q ∈ Sm.allL (bl ++ bl2), locOk hs H q := fun q hq => by
    rw [allL_append] at hq
    rcases List.mem_append.mp hq with hq | hq
    · exact hb2 q hq
    · exact hc2 q hq
  have hzp : ps.length < sizeLine := sz (by omega)
  have hpd : ∀ body : List Sm, D.tup [.str H.name, .tup (H.its.map itD), .tup (H.res.map D.str), .tup (H.pls.map itD), .tup [], .tup [], .tup [], .tup [], .tup (body.map Sm.d)] = (⟨H.name, H.its, H.res, H.pls, [], body⟩ : Pr).d := fun body => rfl
  have hz60 : (bl ++ bl2).length ≤ 4 := by rw [List.length_append]; omega
  rcases hres with hr | hr
  · have f1 := hz _ _ (fin (bl ++ bl2) S2 _ (by omega) h6 Up.refl oapp dapp (by omega))
    simp [e0, getA_cons, ofString_inj, e1, e2, meth_append hlc2, z0, z9, mAppend_ap hlc2, hzp, hr]
    simp [pr_d, hr] at f1
    exact f1
  · have hne : H.res.isEmpty = false := by rw [hr]; rfl
    have V := value_ok (k := k + 15) (xs := H.xs) (ys := H.ys) (li := a3) (la := a4) (fun e => by rw [e] at hxl; simp at hxl) (fun e => by rw [e] at hyl; simp at hyl) (by omega) (by omega) b3.2 b4.2 1 _ S2 (by omega) h6 e3 e4
    simp only [show 1 + (k + 15) + 3 = k + 19 by omega] at V
    have hz3 : bl.length + bl2.length + 1 ≤ sizeLine := sz' (by omega)
    refine ⟨fun _ => ?_, fun hbad => by rw [hr] at hbad; cases hbad⟩
    refine Res.to_imp V fun d S3 ⟨e, hd, hg, hdep, h7, u7⟩ => ?_
    subst hd
    have hallg : Sm.allL ((bl ++ bl2) ++ [Sm.give [e]]) = Sm.allL (bl ++ bl2) ++ [Sm.give [e]] := by rw [allL_append]; simp [Sm.allL, Sm.all]
    have f1 := hz _ _ (fin ((bl ++ bl2) ++ [Sm.give [e]]) S3 _ (by omega) h7 u7 (fun q hq => by
      rw [hallg] at hq
      rcases List.mem_append.mp hq with hq | hq
      · exact oapp q hq
      · simp at hq; subst hq; exact ⟨e, rfl, by rw [hr]; simp, hg, hdep⟩) (depL_app dapp (by simp [Sm.depL, Sm.dep])) (by rw [hallg, List.length_append]; simp; omega))
    have e0' := u7.get e0 b0.2
    have e1' := u7.get e1 b1.2
    have e2' := u7.get e2 b2.2
    have hlc3 := u7.get hlc2 hlci
    simp [z1, z2, hz3, e0', getA_cons, ofString_inj, e1', e2', meth_append hlc3, z0, z9, mAppend_ap hlc3, hzp, hr]
    simp [pr_d, hr, Sm.d] at f1
    exact f1
end K69

set_option Elab.async false
set_option linter.all false
set_option maxRecDepth 100000
set_option maxHeartbeats 1000000
namespace K69
open PySem L2 Y
/-- the state of the comprehension of heads -/
def HI (ns : List Int) (i j C : Nat) (xs : List Str) (s : Sto) (t : Nat) (acc : List D) (S : Sto) : Prop :=
  ∃ hs : List (Nat × Hd), acc = hs.map (fun p => D.loc p.1) ∧ hs.length = t ∧ (∀ (t : Nat) (x : Str) (p : Nat × Hd), xs[t]? = some x → hs[t]? = some p → p.2.name = x) ∧ (∀ p ∈ hs, p.2.ok) ∧ (∀ p ∈ hs, HdS S i S.length p.1 p.2) ∧ SV ns i j (C + 5 + 30 * t) S ∧ Up i s S
theorem core_ok {ns : List Int} {i j C k : Nat} {s : Sto} (hC : C < 2 ^ 29) (hv : SV ns i j C s) : (callP pg (k + 20) "_law_wild_core" [.loc i] s).to (GQ ns i j C s) NoX := by
  rw [c__law_wild_core, core_eq]
  apply gc_to
  have hlt := hv.lt
  have z0 : 0 ≤ sizeLine := Nat.zero_le _
  simp
  refine hlp.draw_then hv (by decide) lg (by omega) fun r s1 r1 r2 h1 u1 l1 => ?_
  simp
  obtain ⟨n, hn, hn1, hn2⟩ : ∃ n : Nat, 1 + r = (n : Int) ∧ 1 ≤ n ∧ n ≤ 2 := ⟨(1 + r).toNat, by omega, by omega, by omega⟩
  rw [hn]
  have W := words_ok (k := k + 17) (m := n) (C := C + 1) (by omega) h1 (by omega)
  simp only [show k + 17 + 2 = k + 19 by omega] at W
  refine Res.to_imp W fun d s2 ⟨lw, ws, hd, hlw, hg, hwl, hnd, hws, h2, u2⟩ => ?_
  subst hd
  have u02 := u1.trans u2
  rw [srtDS_str hg]
  have hsp := srtS_perm ws
  simp
  have hslen : (srtS ws).length = n := by rw [hsp.length_eq, hwl]
  refine compFix (xs := (srtS ws).map D.str) (HI ns i j C (srtS ws) s) (sz' (by rw [List.length_map]; omega)) ?_ ?_ ?_
  · exact ⟨[], rfl, rfl, by simp, by simp, by simp, h2.mono (by omega), u02⟩
  · rintro t d acc S hd ⟨hs, rfl, hl, hnm, hok, hst, hv2, hu2⟩
    obtain ⟨x, hx, rfl⟩ := map_at hd
    have htl : t < (srtS ws).length := (List.getElem?_eq_some_iff.mp hx).1
    rw [turnC_to]
    simp
    have HK := head_ok (k := k + 16) (x := x) (C := C + 5 + 30 * t) (by omega) hv2
    simp only [show k + 16 + 3 = k + 19 by omega] at HK
    refine Res.to_imp HK fun d S' ⟨h, H, hd, hh, hHn, hHok, hHS, hv3, hu3⟩ => ?_
    subst hd
    refine ⟨hs ++ [(h, H)], by simp, by simp [hl], fun t' x' p' e1 e2 => ?_, fun p hp => ?_, fun p hp => ?_, hv3.mono (by omega), hu2.trans hu3⟩
    · by_cases ht' : t' < hs.length
      · rw [List.getElem?_append_left ht'] at e2
        exact hnm t' x' p' e1 e2
      · have : t' = hs.length := by
          have := (List.getElem?_eq_some_iff.mp e2).1
          simp at this; omega
        subst this
        rw [List.getElem?_append_right (Nat.le_refl _)] at e2
        simp at e2
        subst e2
        rw [hl, hx] at e1
        cases e1
        exact hHn
    · rcases List.mem_append.mp hp with hp | hp
      · exact hok p hp
      · simp at hp; subst hp; exact hHok
    · rcases List.mem_append.mp hp with hp | hp
      · exact ((hst p hp).fr (Fr.of hu3 (Nat.le_refl _))).mono hu3.1
      · simp at hp; subst hp; exact hHS
  · rintro acc S ⟨hs, rfl, hl, hnm, hok, hst, hv2, hu2⟩
    rw [List.length_map, hslen] at hl hv2
    have hu2l := hu2.1
    have hHs : HsS (S ++ [O.lst (hs.map fun p => D.loc p.1), O.lst []]) i (S.length + 1) S.length hs :=
      ⟨⟨by omega, by omega⟩, by rw [get_len]; rfl, fun p hp => ((hst p hp).fr Fr.app).mono (by omega)⟩
    refine forLst (xs := hs.map fun p => D.loc p.1) (OI ns i j (C + 100) S.length (S.length + 1) (S.length + 1) hs s) (by rw [List.length_map]; unfold fuelMax; omega) ?_ ?_ ?_ ?_
    · rintro t E S ⟨o3, o4, o5, o6, ps, rfl, _, h, _⟩
      exact h.l
    · exact ⟨_, _, _, _, [], rfl, (hv2.app).mono (by omega), hHs, by simp, hu2.trans Up.app, by rw [get_len_add]; rfl, rfl, by simp⟩
    · rintro t d E S2 hd h
      obtain ⟨p, hp, rfl⟩ := map_at hd
      have hE : 3 < E.length := by obtain ⟨o3, o4, o5, o6, ps, rfl, _⟩ := h; simp
      simp only [gNm_ap, to_ok]
      exact coB_turn (k := k) (by omega) hp hok (by omega) (by omega) hlt.1 hlt.2 (Nat.le_refl _) h fun E S h => h
    · rintro E S2 ⟨o3, o4, o5, o6, ps, rfl, hv3, hh3, hm3, hu3, hlc3, hpl, hps⟩
      rw [List.length_map] at hpl hv3
      simp [hlc3]
      have hnameq : ps.map Pr.name = srtS ws := by
        apply List.ext_getElem?
        intro t
        rw [List.getElem?_map]
        by_cases ht : t < hs.length
        · have e1 : ps[t]? = some ps[t] := List.getElem?_eq_getElem (by omega)
          have e2 : hs[t]? = some hs[t] := List.getElem?_eq_getElem ht
          have e3 : (srtS ws)[t]? = some (srtS ws)[t] := List.getElem?_eq_getElem (by omega)
          rw [e1, e3]
          have := (hps t _ _ e1 e2).nm
          rw [hnm t _ _ e3 e2] at this
          simp [this]
        · rw [List.getElem?_eq_none (by omega), List.getElem?_eq_none (by omega)]; rfl
      refine GQ.gc (C := C) hlt.1 hlt.2 ⟨ps, rfl, ⟨⟨hs, by omega, hps, hok⟩, ?_, fun p hp => ?_, by omega, by omega⟩, hv3.mono (by omega), hu3⟩
      · rw [hnameq]; exact hsp.nodup_iff.mpr hnd
      · have : p.name ∈ srtS ws := by rw [← hnameq]; exact List.mem_map.mpr ⟨p, hp, rfl⟩
        exact hws _ (hsp.mem_iff.mp this)
end K69

set_option Elab.async false
set_option linter.all false
set_option maxRecDepth 100000
set_option maxHeartbeats 1000000
namespace K69
open PySem L2 Y
theorem key_ys {i : It} {l : List It} (h : i ∈ l) : (i.1 = true → i.2 ∈ nmsOf true l) ∧ (i.1 = false → i.2 ∈ nmsOf false l) := by
  obtain ⟨b, x⟩ := i
  exact ⟨fun e => mem_nms.mpr (by simp only at e; subst e; exact h), fun e => mem_nms.mpr (by simp only at e; subst e; exact h)⟩
theorem sOk_h : sOk (Str.ofString "#") = true := by decide +kernel
theorem sOk_at : sOk (Str.ofString "@") = true := by decide +kernel
theorem keyF_ok {i : It} (h : sOk i.2 = true ∧ 0 < i.2.length ∧ i.2.length ≤ 10) : sOk (keyF i) = true ∧ 0 < (keyF i).length ∧ (keyF i).length ≤ 11 := by
  unfold keyF
  split
  · exact ⟨sOk_append sOk_h h.1, by rw [lapp, l2]; omega, by rw [lapp, l2]; omega⟩
  · exact ⟨h.1, h.2.1, by omega⟩
/-- the names of a procedure's forms -/
def nmL (p : Pr) : List Str := (p.items ++ p.places).map keyF ++ (p.items ++ p.places).map fun i => ("@" : Str) ++ keyF i
theorem nmL_key {p : Pr} {i : It} (h : i ∈ p.items ++ p.places) : keyF i ∈ nmL p ∧ (("@" : Str) ++ keyF i) ∈ nmL p :=
  ⟨List.mem_append_left _ (List.mem_map.mpr ⟨i, h, rfl⟩), List.mem_append_right _ (List.mem_map.mpr ⟨i, h, rfl⟩)⟩
theorem gen_ok {NM xs ys : List Str} (hx : ∀ x ∈ xs, x.length ≤ 30 ∧ x ∈ NM ∧ (("@" : Str) ++ x) ∈ NM) (hy : ∀ a ∈ ys, a.length ≤ 30 ∧ (("#" : Str) ++ a) ∈ NM ∧ (("@" : Str) ++ (("#" : Str) ++ a)) ∈ NM) : ∀ e : Ex, e.gen xs ys → e.ok NM
  | .num n, h => by simp only [Ex.gen] at h; simp only [Ex.ok]; omega
  | .nm x, h => hx x h
  | .len a, h => hy a h
  | .item a e, h => gen_ok hx hy e h.2
  | .quo _ e _, h => gen_ok hx hy e h.2
  | .scl k e, h => ⟨by rcases h.1 with rfl | rfl <;> decide, gen_ok hx hy e h.2⟩
  | .bin _ e f, h => ⟨gen_ok hx hy e h.1, gen_ok hx hy f h.2⟩
theorem prok_of {core : List Pr} (G : GenCore core) {p : Pr} (hp : p ∈ core) : ∃ (hs : List (Nat × Hd)) (q : Nat × Hd), q ∈ hs ∧ q.2.ok ∧ PrOk hs q.2 p ∧ (∀ q ∈ hs, ∃ p' ∈ core, PrOk hs q.2 p' ∧ q.2.ok) := by
  obtain ⟨hs, hl, h1, h2⟩ := G.ex
  obtain ⟨t, ht, hpt⟩ := List.getElem_of_mem hp
  have e1 : core[t]? = some p := by rw [List.getElem?_eq_getElem ht, hpt]
  have e2 : hs[t]? = some hs[t] := List.getElem?_eq_getElem (by omega)
  refine ⟨hs, hs[t], List.getElem_mem _, h2 _ (List.getElem_mem _), h1 t p _ e1 e2, fun q hq => ?_⟩
  obtain ⟨u, hu, hqu⟩ := List.getElem_of_mem hq
  have e3 : hs[u]? = some q := by rw [List.getElem?_eq_getElem hu, hqu]
  have e4 : core[u]? = some core[u] := List.getElem?_eq_getElem (by omega)
  exact ⟨core[u], List.getElem_mem _, h1 u _ q e4 e3, h2 q hq⟩
theorem gen_wf {core : List Pr} (G : GenCore core) : WF core := by
  refine ⟨G.two, G.nd, fun p hp st hst => ?_, fun p hp => ?_, fun p hp => ?_, fun p hp => ?_, fun p hp => ?_⟩
  · obtain ⟨hs, ⟨h, H⟩, hq, hok, P, hall⟩ := prok_of G hp
    have hl := P.body st hst
    have short : ∀ a ∈ H.ys, a.length ≤ 30 := fun a ha => by
      have := (hok.nm (true, a) (mem_nms.mp ha)).2.2
      simp only at this; omega
    constructor
    · cases st with
      | call f as ts =>
        obtain ⟨⟨q', hq', rfl, hf, _⟩, _⟩ := hl
        obtain ⟨p', hp', P', _⟩ := hall q' hq'
        refine ⟨p', ?_, by rw [P'.its]; exact hf⟩
        rw [← P'.nm]; exact firstP_of G.nd hp'
      | _ => trivial
    · cases st with
      | pop x a => exact short a hl.2
      | push e a => exact short a hl.2
      | _ => trivial
  · obtain ⟨hs, q, hq, hok, P, hall⟩ := prok_of G hp
    have := P.dep; omega
  · obtain ⟨hs, q, hq, hok, P, hall⟩ := prok_of G hp
    have := P.len; omega
  · obtain ⟨hs, ⟨h, H⟩, hq, hok, P, hall⟩ := prok_of G hp
    have h1 := flat_len (f := Sm.keys) (n := 2) (l := Sm.allL p.body) fun a ha => by
      have hl := P.body a ha
      cases a with
      | call f as ts => have := hl.2.2.1; simp only [Sm.keys]; omega
      | set l => obtain ⟨x, e, rfl, _⟩ := hl; simp [Sm.keys]
      | _ => simp [Sm.keys]
    have := P.len
    unfold assigned; omega
  · obtain ⟨hs, ⟨h, H⟩, hq, hok, P, hall⟩ := prok_of G hp
    have a1 := P.its
    have a2 := P.pls
    simp only at a1 a2 hok
    rw [a1, a2]
    exact ⟨hok.i3, by have := hok.p4; omega, fun i hi => by have := (hok.nm i hi).2.2; omega⟩
theorem gen_wa {core : List Pr} (G : GenCore core) : WA core := by
  have arrsE : ∀ p : Pr, arrs p = (nmsOf true (p.items ++ p.places)).map fun x => ("#" : Str) ++ x := fun p => by
    unfold arrs nmsOf
    rw [List.map_filterMap]
    congr 1
    funext i
    split <;> rfl
  refine ⟨fun p hp => ?_, fun p hp f as ts hst y hy => ?_⟩
  · obtain ⟨hs, ⟨h, H⟩, hq, hok, P, hall⟩ := prok_of G hp
    have a1 := P.its
    have a2 := P.pls
    simp only at a1 a2 hok
    rw [arrsE, List.length_map, a1, a2]
    exact hok.ysl.2
  · obtain ⟨hs, ⟨h, H⟩, hq, hok, P, hall⟩ := prok_of G hp
    have a1 := P.its
    have a2 := P.pls
    simp only at a1 a2 hok
    have hl := P.body _ hst
    have := hl.2.1 _ hy
    simp only at this
    rw [arrsE, a1, a2]
    exact List.mem_map.mpr ⟨y, this, rfl⟩
theorem gen_we {core : List Pr} (G : GenCore core) {p : Pr} (hp : p ∈ core) : WE (nmL p) p ∧ ∀ x ∈ nmL p, x.length ≤ 60 := by
  obtain ⟨hs, ⟨h, H⟩, hq, hok, P, hall⟩ := prok_of G hp
  have a1 := P.its
  have a2 := P.pls
  simp only at a1 a2 hok
  have hnm : ∀ i ∈ p.items ++ p.places, sOk i.2 = true ∧ 0 < i.2.length ∧ i.2.length ≤ 10 := by rw [a1, a2]; exact hok.nm
  have hmem : ∀ x ∈ nmL p, sOk x = true ∧ 0 < x.length ∧ x.length ≤ 12 := fun x hx => by
    unfold nmL at hx
    rcases List.mem_append.mp hx with hx | hx
    · obtain ⟨i, hi, rfl⟩ := List.mem_map.mp hx
      have := keyF_ok (hnm i hi)
      exact ⟨this.1, this.2.1, by omega⟩
    · obtain ⟨i, hi, rfl⟩ := List.mem_map.mp hx
      have := keyF_ok (hnm i hi)
      exact ⟨sOk_append sOk_at this.1, by rw [lapp, l1]; omega, by rw [lapp, l1]; omega⟩
  have hx : ∀ x ∈ H.xs, x.length ≤ 30 ∧ x ∈ nmL p ∧ (("@" : Str) ++ x) ∈ nmL p := fun x hx => by
    have hi : (false, x) ∈ p.items ++ p.places := by rw [a1, a2]; exact mem_nms.mp hx
    have h1 := nmL_key hi
    have h2 := (hnm _ hi).2.2
    have e : keyF (false, x) = x := rfl
    rw [e] at h1
    exact ⟨by simp only at h2; omega, h1⟩
  have hy : ∀ a ∈ H.ys, a.length ≤ 30 ∧ (("#" : Str) ++ a) ∈ nmL p ∧ (("@" : Str) ++ (("#" : Str) ++ a)) ∈ nmL p := fun a ha => by
    have hi : (true, a) ∈ p.items ++ p.places := by rw [a1, a2]; exact mem_nms.mp ha
    have h1 := nmL_key hi
    have h2 := (hnm _ hi).2.2
    have e : keyF (true, a) = ("#" : Str) ++ a := rfl
    rw [e] at h1
    exact ⟨by simp only at h2; omega, h1⟩
  have gok := gen_ok hx hy
  have hlen : (nmL p).length ≤ 14 := by
    unfold nmL
    rw [List.length_append, List.length_map, List.length_map, a1, a2, List.length_append]
    have := hok.i3
    have := hok.p4
    omega
  refine ⟨⟨by omega, fun x hx => ⟨(hmem x hx).1, (hmem x hx).2.1⟩, fun i hi => nmL_key (List.mem_append_left _ hi), fun i hi => (nmL_key (List.mem_append_right _ hi)).1, fun st hst => ?_, P.hints⟩, fun x hx => by have := (hmem x hx).2.2; omega⟩
  have hl := P.body st hst
  have cgen : ∀ c : Cd, c.gen H.xs H.ys → c.dep ≤ 3 ∧ c.comps.length ≤ 4 ∧ ∀ q ∈ c.comps, q.2.1.ok (nmL p) ∧ q.2.2.ok (nmL p) ∧ q.2.1.dep ≤ 3 ∧ q.2.2.dep ≤ 3 := fun c hc =>
    ⟨by have := hc.1; omega, by have := hc.2.1; omega, fun q hq => by
      obtain ⟨b1, b2, b3, b4⟩ := hc.2.2 q hq
      exact ⟨gok _ b1, gok _ b2, by omega, by omega⟩⟩
  cases st with
  | whl c b => exact cgen c hl
  | ite c b1 b2 => exact cgen c hl
  | set l =>
    obtain ⟨x, e, rfl, h1, h2, h3⟩ := hl
    refine ⟨by simp, fun r hr => ?_⟩
    simp at hr
    subst hr
    exact ⟨(hx x h1).2.1, gok _ h2, by simp only; omega⟩
  | _ => trivial
end K69

set_option Elab.async false
set_option linter.all false
set_option maxRecDepth 100000
set_option maxHeartbeats 1000000
namespace K69
open PySem L2 Y
def HtQ (ns : List Int) (i j C : Nat) (p : Pr) (s : Sto) (d : D) (s' : Sto) : Prop :=
  ∃ hs : List Fm, d = ({ p with hints := hs } : Pr).d ∧ (hs.length ≤ 100 ∧ ∀ f ∈ hs, ∀ q ∈ f.2, sOk q.1 = true) ∧ (∀ f ∈ hs, f.2.length ≤ 60) ∧ SV ns i j (C + 400) s' ∧ Up i s s'
theorem HtQ.gc {ns : List Int} {i j C : Nat} {p : Pr} {s s' : Sto} {d : D} (hi : i < s.length) (hj : j < s.length) (h : HtQ ns i j C p s d s') : (gc s (.ok d s')).to (HtQ ns i j C p s) NoX := by
  refine gcU h ?_
  obtain ⟨e, h1, h2, h3, h4, h5⟩ := h
  exact ⟨e, h1, h2, h3, h4.take hi hj, h5.take⟩
theorem up_kp {i : Nat} {s s' : Sto} (h : Kp s s') : Up i s s' := ⟨h.1, fun k hk _ => h.2 k hk⟩
theorem sv_kp {ns : List Int} {i j C : Nat} {s s' : Sto} (v : SV ns i j C s) (h : Kp s s') : SV ns i j C s' := by
  obtain ⟨t, rfl⟩ := h.eq
  exact v.app
theorem pMul_loc {k : Nat} {xs : List D} {j : Int} {s : Sto} (h : s[k]? = some (.lst xs)) : pMul (.loc k) (.int j) s = if fitI j = true ∧ xs.length * j.toNat ≤ sizeLine then some (.loc s.length, s ++ [.lst (List.replicate j.toNat xs).flatten]) else none := by
  unfold pMul; simp only [h]
/-- the state of the loop over hints -/
def TI2 (ns : List Int) (i j C : Nat) (p : Pr) (lm ln : Nat) (nms : List Str) (s : Sto) (t : Nat) (E : Ev) (S : Sto) : Prop :=
  ∃ (l4 : Nat) (o5 o6 : Option D) (hs : List Fm), E = [some (.loc i), some p.d, some (.loc lm), some (.loc ln), some (.loc l4), o5, o6, none, none] ∧ SV ns i j (C + 30 * t) S ∧ Up i s S ∧ S[ln]? = some (.lst (nms.map D.str)) ∧ S[l4]? = some (.lst (hs.map Fm.d)) ∧ s.length ≤ l4 ∧ hs.length ≤ 2 * t ∧ ∀ f ∈ hs, f.2.length ≤ 60 ∧ ∀ q ∈ f.2, q.1 ∈ nms
/-- the state of the comprehension of names with numbers -/
def NI (ns : List Int) (i j C : Nat) (ln : Nat) (nms : List Str) (s : Sto) (t : Nat) (acc : List D) (S : Sto) : Prop :=
  ∃ ps : Ps, acc = ps.map pD ∧ ps.length ≤ t ∧ (∀ p ∈ ps, p.1 ∈ nms) ∧ SV ns i j (C + 2 * t) S ∧ Up i s S ∧ S[ln]? = some (.lst (nms.map D.str))
theorem hinted_ok {ns : List Int} {i j C k lm : Nat} {p : Pr} {Tn : List Str} {s : Sto} (hC : C < 2 ^ 30) (hv : SV ns i j C s) (hi : ∀ i ∈ p.items ++ p.places, i.2.length ≤ 30) (hok : ∀ i ∈ p.items ++ p.places, sOk i.2 = true) (h3 : p.items.length ≤ 3) (h4 : p.places.length ≤ 4) (hm : s[lm]? = some (.lst (Tn.map D.str))) :
    (callP pg (k + 10) "_law_hinted" [.loc i, p.d, .loc lm] s).to (HtQ ns i j C p s) NoX := by
  rw [c__law_hinted]
  apply gc_to
  have hlt := hv.lt
  have z0 : 0 ≤ sizeLine := Nat.zero_le _
  have z1 : 1 ≤ sizeLine := sz' (by decide)
  have z2 : 2 ≤ sizeLine := sz' (by decide)
  have hmv : (p.items.filter fun i => decide (keyF i ∈ Tn)).length ≤ p.items.length := List.length_filter_le _ _
  have hsl : (statesF p Tn).length ≤ 7 := by
    unfold statesF
    rw [List.length_map, List.length_append]; omega
  unfold m__law_hinted
  simp [ix_items]
  rw [compFix_on (F := itD) (f := fun i => some (.str (("@" : Str) ++ keyF i))) (sz' (by omega))]
  · simp
    have e1 := lstates_ok (k := k + 7) (p := p) (s := s ++ [O.lst (p.items.map fun i => D.str (("@" : Str) ++ keyF i))]) hi (by omega) (by omega) (by rw [get_lt (List.getElem?_eq_some_iff.mp hm).1]; exact hm)
    rw [show k + 7 + 2 = k + 9 by omega] at e1
    refine Res.to_imp e1 fun d s1 hF => ?_
    obtain ⟨lt, rfl, hlt1, hk1, hg1⟩ := hF.kp
    have hnk : s1[s.length]? = some (.lst (p.items.map fun i => D.str (("@" : Str) ++ keyF i))) := hk1.get (get_len (t := [_]))
    have hk01 : Kp s s1 := Kp.app.trans hk1
    show Res.to _ _ _
    rw [pAdd_loc hnk hg1 (sz' (by simp; omega))]
    simp [z0]
    let nms : List Str := (p.items.map fun i => ("@" : Str) ++ keyF i) ++ statesF p Tn
    have hnl : nms.length ≤ 10 := by simp only [nms, List.length_append, List.length_map]; omega
    have hnok : ∀ x ∈ nms, sOk x = true := fun x hx => by
      rcases List.mem_append.mp hx with hx | hx
      · obtain ⟨i, hi', rfl⟩ := List.mem_map.mp hx
        have := hok i (List.mem_append_left _ hi')
        refine sOk_append sOk_at ?_
        unfold keyF; split
        · exact sOk_append sOk_h this
        · exact this
      · unfold statesF at hx
        obtain ⟨i, hi', rfl⟩ := List.mem_map.mp hx
        have := hok i (by
          rcases List.mem_append.mp hi' with h | h
          · exact List.mem_append_left _ (List.mem_filter.mp h).1
          · exact List.mem_append_right _ h)
        unfold keyF; split
        · exact sOk_append sOk_h this
        · exact this
    have hS : (s1 ++ [O.lst ((p.items.map fun i => D.str (("@" : Str) ++ keyF i)) ++ (statesF p Tn).map D.str), O.lst []])[s1.length]? = some (.lst (nms.map D.str)) := by
      rw [get_len]; simp [nms]
    have hS4 : (s1 ++ [O.lst ((p.items.map fun i => D.str (("@" : Str) ++ keyF i)) ++ (statesF p Tn).map D.str), O.lst []])[s1.length + 1]? = some (.lst ([] : List D)) := by
      rw [get_len_add]; rfl
    have hkS : Kp s (s1 ++ [O.lst ((p.items.map fun i => D.str (("@" : Str) ++ keyF i)) ++ (statesF p Tn).map D.str), O.lst []]) := hk01.trans Kp.app
    have hl4 : s.length ≤ s1.length + 1 := by have := hk01.1; omega
    have hln : s.length ≤ s1.length := hk01.1
    generalize s1 ++ [O.lst ((p.items.map fun i => D.str (("@" : Str) ++ keyF i)) ++ (statesF p Tn).map D.str), O.lst []] = S at hS hS4 hkS ⊢
    generalize s1.length + 1 = l4 at hS4 hl4 ⊢
    generalize s1.length = ln at hS hln ⊢
    have hlni : ln ≠ i := by omega
    generalize nms = nms at hnl hnok hS
    refine hlp.draw_then (sv_kp hv hkS) (by decide) lg (by omega) fun r S1 r1 r2 g1 u1 l1 => ?_
    have u01 : Up i s S1 := (up_kp hkS).trans u1
    obtain ⟨t, rfl⟩ : ∃ t : Nat, r = t := ⟨r.toNat, by omega⟩
    simp [rng0]
    refine ⟨fitI_iff.mpr (by omega), ?_⟩
    refine forFix (TI2 ns i j (C + 1) p lm ln nms s) ⟨l4, none, none, [], rfl, g1.mono (by omega), u01, u1.get hS hlni, u1.get hS4 (by omega), hl4, by simp, by simp⟩ ?_ ?_
    · rintro t' d E S2 hd ⟨l4, o5, o6, hs, rfl, v2, u2, gn, g4, hl4, hhl, hhm⟩
      obtain ⟨_, ht2, rfl⟩ := map_at hd
      have ht3 : t' < t := by have := (List.getElem?_eq_some_iff.mp ht2).1; simpa using this
      simp
      refine hlp.draw_then v2 (by decide) lg (by omega) fun c S3 c1 c2 v3 u3 l3 => ?_
      have gn3 := u3.get gn hlni
      simp [gn3]
      refine compLst (xs := nms.map D.str) (NI ns i j (C + 1 + 30 * t' + 1) ln nms S3) (sz (by rw [List.length_map]; omega)) (fun q acc S h => by obtain ⟨ps, _, _, _, _, _, h⟩ := h; exact h) ⟨[], rfl, by simp, by simp, v3, Up.refl, gn3⟩ ?_ ?_
      · rintro q d acc S4 hd ⟨ps, rfl, hpl, hpm, v4, u4, gn4⟩
        obtain ⟨x, hx, rfl⟩ := map_at hd
        have hq : q < nms.length := (List.getElem?_eq_some_iff.mp hx).1
        rw [turnC_to]
        simp
        refine hlp.draw_then v4 (by decide) lg (by omega) fun a S5 a1 a2 v5 u5 l5 => ?_
        simp
        refine ⟨fun _ => ?_, fun _ => ⟨ps, by simp, by omega, hpm, v5.mono (by omega), u4.trans u5, u5.get gn4 hlni⟩⟩
        refine hlp.draw_then v5 (by decide) lg (by omega) fun b S6 b1 b2 v6 u6 l6 => ?_
        simp [z2]
        refine ⟨ps ++ [(x, b - 1)], by simp [pD], by simp; omega, fun p hp => ?_, v6.mono (by omega), (u4.trans u5).trans u6, (u5.trans u6).get gn4 hlni⟩
        rcases List.mem_append.mp hp with hp | hp
        · exact hpm p hp
        · simp at hp; subst hp; exact List.mem_of_getElem? hx
      · rintro acc S4 ⟨ps, rfl, hpl, hpm, v4, u4, gn4⟩
        rw [List.length_map] at hpl v4
        have e5 := law_form_ok K69.lf (k := k + 8) (c := c - 2) (d := .loc S4.length) (ps := ps) (s := S4 ++ [O.lst (ps.map pD)]) (NM := nms) (by rw [seq_loc, get_len]; rfl) hpm (by omega) (by omega)
        simp only [show k + 8 + 1 = k + 9 by omega] at e5
        show Res.to _ _ _
        rw [e5]
        simp [z1]
        have u24 := u3.trans u4
        have g44 := u24.get g4 (by have := u2.1; have := hlt.1; omega)
        have l44 := (List.getElem?_eq_some_iff.mp g44).1
        refine hlp.draw_then ((v4.app (t := [O.lst (ps.map pD), O.lst [fD (c - 2) (formL ps)]]))) (by decide) lg (by omega) fun a S5 a1 a2 v5 u5 l5 => ?_
        have gf5 : S5[S4.length + 1]? = some (.lst [fD (c - 2) (formL ps)]) := u5.get (by rw [get_len_add]; rfl) (by have := v4.lt.1; omega)
        have g45 : S5[l4]? = some (.lst (hs.map Fm.d)) := u5.get (by rw [get_lt l44]; exact g44) (by have := hlt.1; omega)
        have u45 : Up i S4 S5 := Up.app.trans u5
        have ll5 := (List.getElem?_eq_some_iff.mp g45).1
        have fin : ∀ (o5 : Option D) (z : Nat), z = 1 ∨ z = 2 → TI2 ns i j (C + 1) p lm ln nms s (t' + 1) [some (.loc i), some p.d, some (.loc lm), some (.loc ln), some (.loc (S5.length + 1)), o5, some (fD (c - 2) (formL ps)), none, none] (S5 ++ [O.lst (List.replicate z (fD (c - 2) (formL ps))), O.lst (hs.map Fm.d ++ List.replicate z (fD (c - 2) (formL ps)))]) := fun o5 z hz => by
          refine ⟨S5.length + 1, _, _, hs ++ List.replicate z (c - 2, formL ps), rfl, (v5.app).mono (by omega), ((u2.trans u24).trans u45).trans Up.app, ?_, by rw [get_len_add]; simp; exact .inr rfl, by have := (u2.trans (u24.trans u45)).1; omega, by simp; omega, fun f hf => ?_⟩
          · have := u45.get gn4 hlni
            rw [get_lt (List.getElem?_eq_some_iff.mp this).1]; exact this
          · rcases List.mem_append.mp hf with hf | hf
            · exact hhm f hf
            · have := List.eq_of_mem_replicate hf
              subst this
              exact ⟨by have := formL_len hpm; simp only; omega, formL_names hpm⟩
        have hb : ∀ b : Bool, pMul (.loc (S4.length + 1)) (.int (1 + if b = true then 1 else 0)) S5 = some (.loc S5.length, S5 ++ [.lst (List.replicate (if b = true then 2 else 1) (fD (c - 2) (formL ps)))]) := fun b => by
          rw [pMul_loc gf5]
          cases b
          · rw [if_pos ⟨fitI_iff.mpr (by decide), sz' (by simp)⟩]; rfl
          · rw [if_pos ⟨fitI_iff.mpr (by decide), sz' (by simp)⟩]; rfl
        simp [hb]
        have hb' := hb (decide (a = 0))
        simp at hb'
        rw [hb']
        simp
        rw [pAdd_loc (xs := hs.map Fm.d) (ys := List.replicate (if a = 0 then 2 else 1) (fD (c - 2) (formL ps))) (by rw [get_lt ll5]; exact g45) (by rw [get_len]; rfl) (sz' (by simp; split <;> omega))]
        simp
        exact fin _ (if a = 0 then 2 else 1) (by split <;> simp)
    · rintro E S2 ⟨l4, o5, o6, hs, rfl, v2, u2, gn, g4, hl4, hhl, hhm⟩
      simp at hhl v2
      simp [g4]
      rw [pr_d p]
      have c5 : cutA [D.str p.name, .tup (p.items.map itD), .tup (p.res.map D.str), .tup (p.places.map itD), .tup [], .tup (p.hints.map Fm.d), .tup [], .tup [], .tup (p.body.map Sm.d)] none (some 5) = [D.str p.name, .tup (p.items.map itD), .tup (p.res.map D.str), .tup (p.places.map itD), .tup []] := by
        have := cut_to (xs := [D.str p.name, .tup (p.items.map itD), .tup (p.res.map D.str), .tup (p.places.map itD), .tup [], .tup (p.hints.map Fm.d), .tup [], .tup [], .tup (p.body.map Sm.d)]) (i := 5)
        simpa using this
      have c6 : cutA [D.str p.name, .tup (p.items.map itD), .tup (p.res.map D.str), .tup (p.places.map itD), .tup [], .tup (p.hints.map Fm.d), .tup [], .tup [], .tup (p.body.map Sm.d)] (some 6) none = [.tup [], .tup [], .tup (p.body.map Sm.d)] := by
        have := cut_from (xs := [D.str p.name, .tup (p.items.map itD), .tup (p.res.map D.str), .tup (p.places.map itD), .tup [], .tup (p.hints.map Fm.d), .tup [], .tup [], .tup (p.body.map Sm.d)]) (i := 6)
        simpa using this
      simp [g4, c5, c6, z1, sz' (show 5 + 1 < 100000 by decide), sz' (show 6 + 3 < 100000 by decide)]
      have := HtQ.gc (C := C) (p := p) hlt.1 hlt.2 ⟨hs, rfl, ⟨by omega, fun f hf q hq => hnok _ ((hhm f hf).2 q hq)⟩, fun f hf => (hhm f hf).1, v2.mono (by omega), u2⟩
      simpa [pr_d] using this
  · intro i hi'
    have hx : (Str.ofString "@").length + (keyF i).length ≤ sizeLine := sz' (by have := key_len (hi i (List.mem_append_left _ hi')); rw [l1]; omega)
    unfold turnC
    simp [noX, Res.ofO, lkey_ok (k := k + 8) (hi i (List.mem_append_left _ hi')), hx]
end K69

set_option Elab.async false
set_option linter.all false
set_option maxRecDepth 100000
set_option maxHeartbeats 1000000
namespace K69
open PySem L2 Y
theorem TS.up {ns : List Int} {i j C m : Nat} {s s' : Sto} {nms : List Str} {L : Str → Nat} {R : Row} (h : TS s m nms L R) (v : SV ns i j C s) (u : Up i s s') : TS s' m nms L R := by
  obtain ⟨_, _, _, _, _, _, _, e1, _⟩ := v
  refine ⟨u.get h.dic fun e => ?_, fun x hx => u.get (h.row x hx) fun e => ?_, h.inj⟩
  · have := h.dic
    rw [e, e1] at this; cases this
  · have := h.row x hx
    rw [e, e1] at this
    simp at this
    cases hr : R x with
    | nil => rw [hr] at this; simp at this
    | cons a r => rw [hr] at this; simp at this
def strip (p : Pr) : Pr := { p with hints := [] }
theorem firstP_strip {core : List Pr} {x : Str} : firstP (core.map strip) x = (firstP core x).map strip := by
  unfold firstP
  rw [List.filter_map, List.getElem?_map]
  rfl
theorem passS_strip {core : List Pr} {R : Row} {st : Sm} : passS (core.map strip) R st = passS core R st := by
  cases st with
  | call f as ts =>
    simp only [passS, firstP_strip]
    cases firstP core f <;> rfl
  | _ => rfl
theorem passF_strip {core : List Pr} {R : Row} {p : Pr} : passF (core.map strip) R (strip p) = passF core R p := by
  unfold passF
  have : passS (core.map strip) R = passS core R := funext fun st => passS_strip
  rw [this]; rfl
theorem clo_strip {core : List Pr} {R : Row} : Clo (core.map strip) R ↔ Clo core R := by
  unfold Clo
  constructor
  · intro h p hp y hy
    exact h (strip p) (List.mem_map.mpr ⟨p, hp, rfl⟩) y (by rw [passF_strip]; exact hy)
  · intro h p hp y hy
    obtain ⟨q, hq, rfl⟩ := List.mem_map.mp hp
    rw [passF_strip] at hy
    exact h q hq y hy
theorem le_strip {core : List Pr} {R R' : Row} : LeR (core.map strip) R R' ↔ LeR core R R' := by
  constructor
  · intro h p hp y hy
    exact h (strip p) (List.mem_map.mpr ⟨p, hp, rfl⟩) y hy
  · intro h p hp y hy
    obtain ⟨q, hq, rfl⟩ := List.mem_map.mp hp
    exact h q hq y hy
theorem has_strip {core : List Pr} {R : Row} : (∀ p ∈ core.map strip, ∀ y ∈ assigned p, y ∈ R p.name) ↔ ∀ p ∈ core, ∀ y ∈ assigned p, y ∈ R p.name := by
  constructor
  · intro h p hp y hy
    exact h (strip p) (List.mem_map.mpr ⟨p, hp, rfl⟩) y hy
  · intro h p hp y hy
    obtain ⟨q, hq, rfl⟩ := List.mem_map.mp hp
    exact h q hq y hy
theorem lst_strip {core : List Pr} {R : Row} : Lst (core.map strip) R ↔ Lst core R :=
  ⟨fun h => ⟨has_strip.mp h.has, fun R' a b => le_strip.mp (h.least R' (has_strip.mpr a) (clo_strip.mpr b))⟩, fun h => ⟨has_strip.mpr h.has, fun R' a b => le_strip.mpr (h.least R' (has_strip.mp a) (clo_strip.mp b))⟩⟩
theorem same_rows {core core' : List Pr} (hc : core.map strip = core'.map strip) {R R' : Row} (h : Lst core R) (c : Clo core R) (h' : Lst core' R') (c' : Clo core' R') : ∀ p ∈ core', ∀ y, y ∈ R p.name ↔ y ∈ R' p.name :=
  least_same (lst_strip.mp (hc ▸ lst_strip.mpr h)) (clo_strip.mp (hc ▸ clo_strip.mpr c)) h' c'
theorem cand_gf {NM : List Str} {p : Pr} (W : WE NM p) {Tn : List Str} : ∀ f ∈ candL p Tn, (∃ B, GF NM B f) ∨ f ∈ p.hints := fun f hf => by
  unfold candL at hf
  simp only [List.mem_append] at hf
  rcases hf with (((hf | hf) | hf) | hf) | hf
  · obtain ⟨x, hx, rfl⟩ := List.mem_map.mp hf
    exact .inl ⟨_, varF_g (states_nm W x hx)⟩
  · obtain ⟨i, hi, hf⟩ := List.mem_flatMap.mp hf
    have := W.its i (List.mem_filter.mp hi).1
    exact .inl ⟨_, pairF_g (varF_g this.1) (varF_g this.2) hf⟩
  · obtain ⟨s, hs, hf⟩ := List.mem_flatMap.mp hf
    have hw := W.st s hs
    have go : ∀ c : Cd, (∀ q ∈ c.comps, q.2.1.ok NM ∧ q.2.2.ok NM ∧ q.2.1.dep ≤ 3 ∧ q.2.2.dep ≤ 3) → f ∈ c.comps.flatMap (cmpF (statesF p Tn)) → ∃ B, GF NM B f := fun c hc hf => by
      obtain ⟨z, hz, hf⟩ := List.mem_flatMap.mp hf
      obtain ⟨a1, a2, a3, a4⟩ := hc z hz
      exact cmpF_g a1 a2 a3 a4 hf
    cases s with
    | whl c b => exact .inl (go c hw.2.2 hf)
    | ite c b1 b2 => exact .inl (go c hw.2.2 hf)
    | _ => cases hf
  · obtain ⟨s, hs, hf⟩ := List.mem_flatMap.mp hf
    have hw := W.st s hs
    cases s with
    | set l =>
      obtain ⟨z, hz, hf⟩ := List.mem_flatMap.mp hf
      obtain ⟨a1, a2, a3⟩ := hw.2 z hz
      exact .inl (setF_g a1 a2 a3 hf)
    | _ => cases hf
  · exact .inr hf
theorem cand_dat {NM : List Str} {p : Pr} (W : WE NM p) (hl : (Sm.allL p.body).length ≤ 200) (h3 : p.items.length ≤ 3) (h4 : p.places.length ≤ 4) (hh : ∀ f ∈ p.hints, f.2.length ≤ 60) {Tn : List Str} : datB 4 (.tup ((candF p Tn).map Fm.d)) = true := by
  have hmv : (movF p Tn).length ≤ 3 := Nat.le_trans (List.length_filter_le _ _) h3
  have hsl : (statesF p Tn).length ≤ 7 := by
    unfold statesF
    rw [List.length_map, List.length_append]
    have : (p.items.filter fun i => decide (keyF i ∈ Tn)).length ≤ p.items.length := List.length_filter_le _ _
    omega
  have hcm := (cmps_sum W (st := statesF p Tn) hl).1
  have hse := (sets_sum W (st := statesF p Tn) hl).1
  have hdl := diff_len (movF p Tn)
  have hh1 := W.hs.1
  have hcl : (candL p Tn).length ≤ 5000 := by
    unfold candL
    simp only [List.length_append, List.length_map]
    omega
  obtain ⟨a1, a2⟩ := fold_addF (candL p Tn) [mOne]
  simp only [datB, Bool.and_eq_true, decide_eq_true_eq, List.all_eq_true]
  refine ⟨sz' (by rw [List.length_map]; unfold candF; simp at a1; omega), fun d hd => ?_⟩
  obtain ⟨f, hf, rfl⟩ := List.mem_map.mp hd
  refine fD_dat (sz' ?_)
  rcases a2 f hf with h | h
  · rw [List.mem_singleton.mp h]; decide
  · rcases cand_gf W f h with ⟨B, g⟩ | h
    · have := g.len; have := W.nm; omega
    · have := hh f h; omega
/-- the state of the law's turns -/
def LI (ns : List Int) (t : Nat) (E : Ev) (S : Sto) : Prop :=
  ∃ (o2 o3 o4 o5 : Option D), E = [some (.ro (ns.map D.int)), some (.loc 1), o2, o3, o4, o5] ∧ SV ns 1 0 (t * 30000) S
/-- the state of the comprehension of hints -/
def LH (ns : List Int) (core : List Pr) (C : Nat) (S0 : Sto) (t : Nat) (acc : List D) (S : Sto) : Prop :=
  ∃ ps : List Pr, acc = ps.map Pr.d ∧ ps.map strip = (core.take t).map strip ∧ (∀ p ∈ ps, (p.hints.length ≤ 100 ∧ ∀ f ∈ p.hints, ∀ q ∈ f.2, sOk q.1 = true) ∧ ∀ f ∈ p.hints, f.2.length ≤ 60) ∧ SV ns 1 0 (C + 400 * t) S ∧ Up 1 S0 S
theorem gen_hint {core ps : List Pr} (G : GenCore core) (he : ps.map strip = core.map strip) (hh : ∀ p ∈ ps, p.hints.length ≤ 100 ∧ ∀ f ∈ p.hints, ∀ q ∈ f.2, sOk q.1 = true) : GenCore ps := by
  have hl : ps.length = core.length := by
    have := congrArg List.length he
    simpa using this
  have hn : ps.map Pr.name = core.map Pr.name := by
    have := congrArg (List.map Pr.name) he
    simpa [List.map_map, Function.comp_def, strip] using this
  have hat : ∀ (t : Nat) (p p' : Pr), ps[t]? = some p → core[t]? = some p' → strip p = strip p' := fun t p p' h1 h2 => by
    have := congrArg (fun l : List Pr => l[t]?) he
    simp only [List.getElem?_map, h1, h2, Option.map_some, Option.some.injEq] at this
    exact this
  obtain ⟨hs, h1, h2, h3⟩ := G.ex
  refine ⟨⟨hs, by omega, fun t p q e1 e2 => ?_, h3⟩, by rw [hn]; exact G.nd, fun p hp => ?_, by have := G.one; omega, by have := G.two; omega⟩
  · have ht : t < core.length := by have := (List.getElem?_eq_some_iff.mp e1).1; omega
    have e3 : core[t]? = some core[t] := List.getElem?_eq_getElem ht
    have P := h2 t _ q e3 e2
    have hst := hat t p _ e1 e3
    generalize core[t] = p' at P hst
    unfold strip at hst
    obtain ⟨a, b, c, d, e, f⟩ := p
    obtain ⟨a', b', c', d', e', f'⟩ := p'
    simp at hst
    obtain ⟨rfl, rfl, rfl, rfl, rfl⟩ := hst
    exact ⟨P.nm, P.its, P.pls, P.res, hh _ (List.mem_of_getElem? e1), P.body, P.dep, P.len⟩
  · have : p.name ∈ core.map Pr.name := by rw [← hn]; exact List.mem_map.mpr ⟨p, hp, rfl⟩
    obtain ⟨q, hq, e⟩ := List.mem_map.mp this
    rw [← e]; exact G.nmok q hq
def lwC (k : Nat) : SM := (sSet 3 (eL lTup (fLc (iVal (eVar 3)) (gNm 5) tYesM (eCall 3 (callP pg k "_law_hinted") (aCons (eVar 1) (aCons (eVar 5) (aCons (eBin pIx (eVar 4) (eBin pIx (eVar 5) (eC (.int 0)))) aNil)))) [5])))
def lwD (k : Nat) : SM := (sFor (iVal (eVar 3)) (gNm 5) (sCons (sIf (tNt (tOfT (eCall 2 (callP pg k "_law_same") (aCons (eCall 2 (callP pg k "point_candidates") (aCons (eVar 3) (aCons (eBin pIx (eVar 5) (eC (.int 0))) aNil))) (aCons (eCall 2 (callP pg k "_law_due") (aCons (eVar 5) (aCons (eBin pIx (eVar 4) (eBin pIx (eVar 5) (eC (.int 0)))) aNil))) aNil))))) (sCons (sRet (eC (.bl false)))
  sNil) sNil)
  sNil))
theorem lw_eq {k : Nat} : m_law k = (sCons (sSet 1 (eCall 1 (callP pg k "_law_start") (aCons (eVar 0) aNil)))
  (sCons (sFor (iRng1' (aCons (eC (.int 2)) aNil)) (gNm 2) (sCons (sSet 3 (eCall 1 (callP pg k "_law_wild_core") (aCons (eVar 1) aNil)))
  (sCons (sSet 4 (eCall 1 (callP pg k "_law_moves") (aCons (eVar 3) aNil)))
  (sCons (lwC k) (sCons (lwD k) sNil)))))
  (sCons (sRet (eC (.bl true)))
  sNil))) := rfl
theorem lwC_ok {ns : List Int} {core : List Pr} {k m C : Nat} {L : Str → Nat} {R : Row} {S : Sto} {o2 o5 : Option D} {sc : D} {P : Post} (hC : C < 2 ^ 29) (two : core.length ≤ 2) (hp : ∀ p ∈ core, (∀ i ∈ p.items ++ p.places, i.2.length ≤ 30) ∧ (∀ i ∈ p.items ++ p.places, sOk i.2 = true) ∧ p.items.length ≤ 3 ∧ p.places.length ≤ 4) (hT : TS S m (core.map Pr.name) L R) (hv : SV ns 1 0 C S)
    (hz : ∀ (ps : List Pr) (S' : Sto), ps.map strip = core.map strip → (∀ p ∈ ps, (p.hints.length ≤ 100 ∧ ∀ f ∈ p.hints, ∀ q ∈ f.2, sOk q.1 = true) ∧ ∀ f ∈ p.hints, f.2.length ≤ 60) → SV ns 1 0 (C + 800) S' → TS S' m (core.map Pr.name) L R → P.nx [some sc, some (.loc 1), o2, some (.tup (ps.map Pr.d)), some (.loc m), o5] S') :
    (lwC (k + 10) [some sc, some (.loc 1), o2, some (.tup (core.map Pr.d)), some (.loc m), o5] S).to P := by
  unfold lwC
  simp only [st_set, eL_ap, fLc_ap, to_bind, wipe_cons, wipe_nil]
  simp
  refine compFix (LH ns core C S) (sz' (by rw [List.length_map]; omega)) ⟨[], rfl, by simp, by simp, hv, Up.refl⟩ ?_ ?_
  · rintro t d acc S2 hd ⟨ps, rfl, he, hh, v2, u2⟩
    obtain ⟨p, hpt, rfl⟩ := map_at hd
    have hpm := List.mem_of_getElem? hpt
    have ht : t < core.length := (List.getElem?_eq_some_iff.mp hpt).1
    have T2 := hT.up hv u2
    have hpn : p.name ∈ core.map Pr.name := List.mem_map.mpr ⟨p, hpm, rfl⟩
    have key : ixO S2[m]? (.str p.name) = some (.loc (L p.name)) := by rw [T2.dic, ixO_str, T2.get hpn]
    obtain ⟨h1, h2, h3, h4⟩ := hp p hpm
    rw [turnC_to]
    simp [ix_name, key]
    refine Res.to_imp (hinted_ok (k := k) (by omega) v2 h1 h2 h3 h4 (T2.row _ hpn)) fun d S3 ⟨hs, hd, hk, hk2, v3, u3⟩ => ?_
    subst hd
    refine ⟨ps ++ [{ p with hints := hs }], by simp, ?_, fun q hq => ?_, v3.mono (by omega), u2.trans u3⟩
    · rw [List.take_add_one, hpt, List.map_append, List.map_append, he]
      rfl
    · rcases List.mem_append.mp hq with hq | hq
      · exact hh q hq
      · simp at hq; subst hq; exact ⟨hk, hk2⟩
  · rintro acc S2 ⟨ps, rfl, he, hh, v2, u2⟩
    rw [List.length_map] at he v2
    rw [List.take_length] at he
    exact hz ps S2 he hh (v2.mono (by omega)) (hT.up hv u2)
theorem lwD_ok {ps : List Pr} {k m : Nat} {nms : List Str} {L : Str → Nat} {R : Row} {S : Sto} {o2 o5 : Option D} {sc : D} {P : Post} (W : WF ps)
    (hq : ∀ p ∈ ps, ∃ ds : List D, callP pg (k + 40) "point_candidates" [.tup (ps.map Pr.d), .str p.name] S = .ok (.tup ds) S ∧ callP pg (k + 40) "_law_due" [p.d, .loc (L p.name)] S = .ok (.tup ds) S ∧ datB 4 (.tup ds) = true)
    (hT : TS S m nms L R) (hn : ∀ p ∈ ps, p.name ∈ nms) (hz : ∀ E, (∃ o5, E = [some sc, some (.loc 1), o2, some (.tup (ps.map Pr.d)), some (.loc m), o5]) → P.nx E S) :
    (lwD (k + 40) [some sc, some (.loc 1), o2, some (.tup (ps.map Pr.d)), some (.loc m), o5] S).to P := by
  unfold lwD
  simp
  refine forFix (fun t E S' => S' = S ∧ ∃ o5, E = [some sc, some (.loc 1), o2, some (.tup (ps.map Pr.d)), some (.loc m), o5]) ⟨rfl, _, rfl⟩ ?_ ?_
  · rintro t d E S' hd ⟨rfl, o5, rfl⟩
    obtain ⟨p, hpt, rfl⟩ := map_at hd
    have hpm := List.mem_of_getElem? hpt
    obtain ⟨ds, e1, e2, e3⟩ := hq p hpm
    have key : ixO S'[m]? (.str p.name) = some (.loc (L p.name)) := by rw [hT.dic, ixO_str, hT.get (hn p hpm)]
    have es := hlp.same_ok 4 (k + 34) (.tup ds) S' e3
    simp only [show 4 + (k + 34) + 2 = k + 40 by omega] at es
    simp [ix_name, e1, key, e2, es]
  · rintro E S' ⟨rfl, h⟩
    exact hz E h
theorem law_eq' {k : Nat} (ns : List Int) (hl : ns.length ≤ 63) : (callP pg (k + 41) "law" [.ro (ns.map D.int)] []).to (fun d _ => d = .bl true) NoX := by
  rw [c_law, lw_eq]
  apply gc_to
  have hs := hlp.start_ok (k := k + 39) (ns.map D.int) (sz' (by rw [List.length_map]; omega))
  simp [hs]
  have e2 : rngD 0 2 = (List.range 2).map fun i : Nat => D.int (i : Int) := rng0 (n := 2)
  rw [e2]
  refine forFix (LI ns) ⟨none, none, none, none, rfl, ⟨0, 0, 0, by decide, by decide, by decide, by decide, rfl, rfl⟩⟩ ?_ ?_
  · rintro t d E S hd ⟨o2, o3, o4, o5, rfl, hv⟩
    obtain ⟨_, ht2, rfl⟩ := map_at hd
    have ht3 : t < 2 := by have := (List.getElem?_eq_some_iff.mp ht2).1; simpa using this
    simp
    have CK := core_ok (k := k + 20) (C := t * 30000) (by omega) hv
    simp only [show k + 20 + 20 = k + 40 by omega] at CK
    refine Res.to_imp CK fun d S1 ⟨core, hd, G, v1, u1⟩ => ?_
    subst hd
    have hlt := hv.lt
    have W := gen_wf G
    have A := gen_wa G
    have MT := ltable_ok W A (n := 9) (k := k + 29) (s := S1) (by omega)
    simp only [show 9 + (k + 29) + 2 = k + 40 by omega] at MT
    show Res.to _ _ _
    refine Res.to_imp MT fun d S2 ⟨m, L, R, hd, hk2, hm, hT, hLst, hClo⟩ => ?_
    subst hd
    have v2 := sv_kp v1 hk2
    have two := G.two
    have hpn : ∀ p ∈ core, p.name ∈ core.map Pr.name := fun p hp => List.mem_map.mpr ⟨p, hp, rfl⟩
    refine lwC_ok (k := k + 30) (by omega) two (fun p hp => ⟨(W.its p hp).2.2, fun i hi => ((prok_of G hp).elim fun hs h => h.elim fun q h => by
      rw [h.2.2.1.its, h.2.2.1.pls] at hi
      exact (h.2.1.nm i hi).1), (W.its p hp).1, (W.its p hp).2.1⟩) hT v2 ?_
    intro ps S3 he hh v3 hT3
    have G' := gen_hint G he fun p hp => (hh p hp).1
    have W' := gen_wf G'
    have A' := gen_wa G'
    have hnm : ps.map Pr.name = core.map Pr.name := by
      have := congrArg (List.map Pr.name) he
      simpa [List.map_map, Function.comp_def, strip] using this
    refine lwD_ok (k := k) W' (fun p hp => ?_) hT3 (fun p hp => by rw [← hnm]; exact List.mem_map.mpr ⟨p, hp, rfl⟩) ?_
    · obtain ⟨V, hN⟩ := gen_we G' hp
      obtain ⟨R', ⟨hL', hC'⟩, e1⟩ := pcand_ok W' A' V hp (k := k + 10) (s := S3)
      have e3 : candF p (R' p.name) = candF p (R p.name) := by
        have hs := same_rows he.symm hLst hClo hL' hC' p hp
        unfold candF candL
        rw [states_congr hs, mov_congr hs]
      refine ⟨(candF p (R p.name)).map Fm.d, ?_, ?_, cand_dat V (W'.len p hp) (W'.its p hp).1 (W'.its p hp).2.1 (hh p hp).2⟩
      · rw [e3] at e1
        exact e1
      · exact due_ok W' V hN hp (k := k + 10) (hT3.row _ (by rw [← hnm]; exact List.mem_map.mpr ⟨p, hp, rfl⟩))
    · intro E hE
      obtain ⟨o5, rfl⟩ := hE
      exact ⟨_, _, _, _, rfl, v3.mono (by omega)⟩
  · rintro E S ⟨o2, o3, o4, o5, rfl, hv⟩
    simp
    exact gc_both rfl fun _ => rfl
def depth : Nat := 50
theorem law_eq : ∀ ns : List Int, ns.length ≤ 63 → (∀ z ∈ ns, Builtin.Int.intBits z ≤ 1048576) → ∃ s, callP pg depth "law" [.ro (ns.map D.int)] [] = .ok (.bl true) s := fun ns h _ => by
  obtain ⟨d, s, e, h⟩ := Res.to_ex (law_eq' (k := 9) ns h)
  exact ⟨s, by rw [← h]; exact e⟩
end K69

open PySem PySem.W PyProof.Rows in
set_option maxRecDepth 100000 in
set_option maxHeartbeats 0 in
theorem PySem.Challenge.cw_testsenough_k69_candidates_holds : PySem.Challenge.rw_testsenough_k69_candidates.Holds := by
  w_on; o_law; k_head; (case hw => w_witness2)
  k_fill
  refine Y.walkY (l := PySem.Challenge.rw_testsenough_k69_candidates) (T := K69.pg) (k := K69.depth) (dl := K69.d_law) ⟨rfl, by decide, by decide⟩ rfl rfl (fun w h Y => PySem.W.kIn_of Y) rfl rfl K69.law_eq ?F
  case F =>
    intro w mg fa h KX G hmg
    refine' K69.all_mk KX G hmg ?a0 ?l0 ?c0 ?k0 ?a1 ?l1 ?c1 ?k1 ?a2 ?l2 ?c2 ?k2 ?a3 ?l3 ?c3 ?k3 ?a4 ?l4 ?c4 ?k4 ?a5 ?l5 ?c5 ?k5 ?a6 ?l6 ?c6 ?k6 ?a7 ?l7 ?c7 ?k7 ?a8 ?l8 ?c8 ?k8 ?a9 ?l9 ?c9 ?k9 ?a10 ?l10 ?c10 ?k10 ?a11 ?l11 ?c11 ?k11 ?a12 ?l12 ?c12 ?k12 ?a13 ?l13 ?c13 ?k13 ?a14 ?l14 ?c14 ?k14 ?a15 ?l15 ?c15 ?k15 ?a16 ?l16 ?c16 ?k16 ?a17 ?l17 ?c17 ?k17 ?a18 ?l18 ?c18 ?k18 ?a19 ?l19 ?c19 ?k19 ?a20 ?l20 ?c20 ?k20 ?a21 ?l21 ?c21 ?k21 ?a22 ?l22 ?c22 ?k22 ?a23 ?l23 ?c23 ?k23 ?a24 ?l24 ?c24 ?k24 ?a25 ?l25 ?c25 ?k25 ?a26 ?l26 ?c26 ?k26 ?a27 ?l27 ?c27 ?k27 ?a28 ?l28 ?c28 ?k28 ?a29 ?l29 ?c29 ?k29 ?a30 ?l30 ?c30 ?k30 ?a31 ?l31 ?c31 ?k31 ?a32 ?l32 ?c32 ?k32 ?a33 ?l33 ?c33 ?k33 ?a34 ?l34 ?c34 ?k34 ?a35 ?l35 ?c35 ?k35 ?a36 ?l36 ?c36 ?k36 ?a37 ?l37 ?c37 ?k37 ?a38 ?l38 ?c38 ?k38 ?a39 ?l39 ?c39 ?k39 ?a40 ?l40 ?c40 ?k40 ?a41 ?l41 ?c41 ?k41 ?a42 ?l42 ?c42 ?k42 ?a43 ?l43 ?c43 ?k43 ?a44 ?l44 ?c44 ?k44 ?a45 ?l45 ?c45 ?k45 ?a46 ?l46 ?c46 ?k46 ?a47 ?l47 ?c47 ?k47 ?a48 ?l48 ?c48 ?k48 ?a49 ?l49 ?c49 ?k49 ?a50 ?l50 ?c50 ?k50 ?a51 ?l51 ?c51 ?k51 ?n0 ?v0_0 ?v0_1 ?n1 ?v1_0 ?v1_1 ?b0 ?b1 ?b2 ?b3 ?b4 ?b5 ?b6 ?b7 ?b8 ?b9 ?b10 ?b11
    (case a0 => k_is)
    (case l0 => k_is)
    (case c0 => k_is)
    (case k0 => k_is)
    (case a1 => k_is)
    (case l1 => k_is)
    (case c1 => k_is)
    (case k1 => k_is)
    (case a2 => k_is)
    (case l2 => k_is)
    (case c2 => k_is)
    (case k2 => k_is)
    (case a3 => k_is)
    (case l3 => k_is)
    (case c3 => k_is)
    (case k3 => k_is)
    (case a4 => k_is)
    (case l4 => k_is)
    (case c4 => k_is)
    (case k4 => k_is)
    (case a5 => k_is)
    (case l5 => k_is)
    (case c5 => k_is)
    (case k5 => k_is)
    (case a6 => k_is)
    (case l6 => k_is)
    (case c6 => k_is)
    (case k6 => k_is)
    (case a7 => k_is)
    (case l7 => k_is)
    (case c7 => k_is)
    (case k7 => k_is)
    (case a8 => k_is)
    (case l8 => k_is)
    (case c8 => k_is)
    (case k8 => k_is)
    (case a9 => k_is)
    (case l9 => k_is)
    (case c9 => k_is)
    (case k9 => k_is)
    (case a10 => k_is)
    (case l10 => k_is)
    (case c10 => k_is)
    (case k10 => k_is)
    (case a11 => k_is)
    (case l11 => k_is)
    (case c11 => k_is)
    (case k11 => k_is)
    (case a12 => k_is)
    (case l12 => k_is)
    (case c12 => k_is)
    (case k12 => k_is)
    (case a13 => k_is)
    (case l13 => k_is)
    (case c13 => k_is)
    (case k13 => k_is)
    (case a14 => k_is)
    (case l14 => k_is)
    (case c14 => k_is)
    (case k14 => k_is)
    (case a15 => k_is)
    (case l15 => k_is)
    (case c15 => k_is)
    (case k15 => k_is)
    (case a16 => k_is)
    (case l16 => k_is)
    (case c16 => k_is)
    (case k16 => k_is)
    (case a17 => k_is)
    (case l17 => k_is)
    (case c17 => k_is)
    (case k17 => k_is)
    (case a18 => k_is)
    (case l18 => k_is)
    (case c18 => k_is)
    (case k18 => k_is)
    (case a19 => k_is)
    (case l19 => k_is)
    (case c19 => k_is)
    (case k19 => k_is)
    (case a20 => k_is)
    (case l20 => k_is)
    (case c20 => k_is)
    (case k20 => k_is)
    (case a21 => k_is)
    (case l21 => k_is)
    (case c21 => k_is)
    (case k21 => k_is)
    (case a22 => k_is)
    (case l22 => k_is)
    (case c22 => k_is)
    (case k22 => k_is)
    (case a23 => k_is)
    (case l23 => k_is)
    (case c23 => k_is)
    (case k23 => k_is)
    (case a24 => k_is)
    (case l24 => k_is)
    (case c24 => k_is)
    (case k24 => k_is)
    (case a25 => k_is)
    (case l25 => k_is)
    (case c25 => k_is)
    (case k25 => k_is)
    (case a26 => k_is)
    (case l26 => k_is)
    (case c26 => k_is)
    (case k26 => k_is)
    (case a27 => k_is)
    (case l27 => k_is)
    (case c27 => k_is)
    (case k27 => k_is)
    (case a28 => k_is)
    (case l28 => k_is)
    (case c28 => k_is)
    (case k28 => k_is)
    (case a29 => k_is)
    (case l29 => k_is)
    (case c29 => k_is)
    (case k29 => k_is)
    (case a30 => k_is)
    (case l30 => k_is)
    (case c30 => k_is)
    (case k30 => k_is)
    (case a31 => k_is)
    (case l31 => k_is)
    (case c31 => k_is)
    (case k31 => k_is)
    (case a32 => k_is)
    (case l32 => k_is)
    (case c32 => k_is)
    (case k32 => k_is)
    (case a33 => k_is)
    (case l33 => k_is)
    (case c33 => k_is)
    (case k33 => k_is)
    (case a34 => k_is)
    (case l34 => k_is)
    (case c34 => k_is)
    (case k34 => k_is)
    (case a35 => k_is)
    (case l35 => k_is)
    (case c35 => k_is)
    (case k35 => k_is)
    (case a36 => k_is)
    (case l36 => k_is)
    (case c36 => k_is)
    (case k36 => k_is)
    (case a37 => k_is)
    (case l37 => k_is)
    (case c37 => k_is)
    (case k37 => k_is)
    (case a38 => k_is)
    (case l38 => k_is)
    (case c38 => k_is)
    (case k38 => k_is)
    (case a39 => k_is)
    (case l39 => k_is)
    (case c39 => k_is)
    (case k39 => k_is)
    (case a40 => k_is)
    (case l40 => k_is)
    (case c40 => k_is)
    (case k40 => k_is)
    (case a41 => k_is)
    (case l41 => k_is)
    (case c41 => k_is)
    (case k41 => k_is)
    (case a42 => k_is)
    (case l42 => k_is)
    (case c42 => k_is)
    (case k42 => k_is)
    (case a43 => k_is)
    (case l43 => k_is)
    (case c43 => k_is)
    (case k43 => k_is)
    (case a44 => k_is)
    (case l44 => k_is)
    (case c44 => k_is)
    (case k44 => k_is)
    (case a45 => k_is)
    (case l45 => k_is)
    (case c45 => k_is)
    (case k45 => k_is)
    (case a46 => k_is)
    (case l46 => k_is)
    (case c46 => k_is)
    (case k46 => k_is)
    (case a47 => k_is)
    (case l47 => k_is)
    (case c47 => k_is)
    (case k47 => k_is)
    (case a48 => k_is)
    (case l48 => k_is)
    (case c48 => k_is)
    (case k48 => k_is)
    (case a49 => k_is)
    (case l49 => k_is)
    (case c49 => k_is)
    (case k49 => k_is)
    (case a50 => k_is)
    (case l50 => k_is)
    (case c50 => k_is)
    (case k50 => k_is)
    (case a51 => k_is)
    (case l51 => k_is)
    (case c51 => k_is)
    (case k51 => k_is)
    (case n0 => k_is)
    (case v0_0 => k_is)
    (case v0_1 => k_is)
    (case n1 => k_is)
    (case v1_0 => k_is)
    (case v1_1 => k_is)
    (case b0 => k_is)
    (case b1 => k_is)
    (case b2 => k_is)
    (case b3 => k_is)
    (case b4 => k_is)
    (case b5 => k_is)
    (case b6 => k_is)
    (case b7 => k_is)
    (case b8 => k_is)
    (case b9 => k_is)
    (case b10 => k_is)
    (case b11 => k_is)
