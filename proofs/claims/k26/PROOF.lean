import PyProof.Rows.All
import Wide.All
import OpenK.AllK
import Wide.FinOn
import HandS.ForExc
import HandS.Comp
import HandS.Dict
import HandS.Iter
import HandS.Text
import HandS.Wide
import HandS.IsInst
import HandS.Style
import HandS.Small
import PySem.Challenge.RW_likehalves_k26_next_ones_that_keep_all
set_option Elab.async false
set_option linter.all false
set_option maxRecDepth 100000
set_option maxHeartbeats 4000000
/-! VL, part A: trees, sites, the relation between a value-level state and the heap. -/
namespace VL
open PySem L2

/-- pure data -/
inductive Tr where
  | non | bl (b : Bool) | int (i : Int) | str (x : Str) | ty (n : String) | cls (n : Str)
  | scr (xs : List Int)
  | lst (xs : List Tr) | tup (xs : List Tr) | dic (kvs : List (Key × Tr)) | ins (c : Str) (fs : List (Str × Tr))
/-- what a name holds: data, an owned object's site, an ambient thing -/
inductive Dv where
  | t (x : Tr) | loc (j : Nat) | hnd (i : Nat)
abbrev Env := List (Option Dv)
abbrev Sto := List (Option Tr)

def Tr.flat : Tr → Bool
  | .non => true | .bl _ => true | .int _ => true | .str _ => true | .ty _ => true
  | _ => false

/-- the ambient: a thing at hd i, its objects at B, what is true of them -/
structure Rsc where
  Z : Hp → (Nat → Addr) → (Addr → Prop) → Prop
  st : ∀ H H' hd B, (∀ a, B a → H' a = H a) → Z H hd B → Z H' hd B
  dm : ∀ H hd B, Z H hd B → ∀ a, B a → H a ≠ none
  /-- how many sites were handed in -/
  n0 : Nat
def Z0 : Rsc := ⟨fun _ _ B => ∀ a, ¬ B a, fun _ _ _ _ _ h => h, fun _ _ _ h a q => absurd q (h a), 0⟩

inductive Rep (K : PySem.W.Frag) (mg : Str → Option Value) (R : Hp) : V → Tr → Prop
  | non : Rep K mg R .non .non
  | bl (b : Bool) : Rep K mg R (.bl b) (.bl b)
  | int (i : Int) : Rep K mg R (.int i) (.int i)
  | str (x : Str) : Rep K mg R (.str x) (.str x)
  | ty (n : String) : Rep K mg R (.ty n) (.ty n)
  | cls {n : Str} {a : Addr} : mg n = some (.ref a) → Rep K mg R (.ref a) (.cls n)
  | scr {a : Addr} {xs : List Int} : SqL K R a (xs.map V.int) → Rep K mg R (.ref a) (.scr xs)
  | lst {a : Addr} {xs : List V} {ts : List Tr} : R a = some (.lst xs) → xs.length = ts.length → (∀ (i : Nat) x t, xs[i]? = some x → ts[i]? = some t → Rep K mg R x t) → Rep K mg R (.ref a) (.lst ts)
  | tup {a : Addr} {xs : List V} {ts : List Tr} : R a = some (.tup xs) → xs.length = ts.length → (∀ (i : Nat) x t, xs[i]? = some x → ts[i]? = some t → Rep K mg R x t) → Rep K mg R (.ref a) (.tup ts)
  | dic {a : Addr} {xs : List (Key × V)} {ts : List (Key × Tr)} : Rd R a (.dK xs) → xs.map (·.1) = ts.map (·.1) → (∀ (i : Nat) k x k' t, xs[i]? = some (k, x) → ts[i]? = some (k', t) → Rep K mg R x t) → Rep K mg R (.ref a) (.dic ts)
  | ins {a C dx : Addr} {c : Str} {xs : List (Str × V)} {ts : List (Str × Tr)} : mg c = some (.ref C) → R a = some (.ins C dx xs) → xs.map (·.1) = ts.map (·.1) → (∀ (i : Nat) k x k' t, xs[i]? = some (k, x) → ts[i]? = some (k', t) → Rep K mg R x t) → Rep K mg R (.ref a) (.ins c ts)

section
variable {K : PySem.W.Frag} {mg : Str → Option Value} {R R' H : Hp}
theorem same_rd {a : Addr} {u : HO} (s : Same R R') (h : Rd R a u) : Rd R' a u := by
  rcases h with h | ⟨o, h⟩
  · exact .inl (s _ _ h)
  · exact .inr ⟨o, s _ _ h⟩
theorem Rep.mono {v : V} {x : Tr} (s : Same R R') (h : Rep K mg R v x) : Rep K mg R' v x := by
  induction h with
  | non => exact .non
  | bl b => exact .bl b
  | int i => exact .int i
  | str x => exact .str x
  | ty n => exact .ty n
  | cls h => exact .cls h
  | scr h => exact .scr (s.seq h)
  | lst h l _ ih => exact .lst (s _ _ h) l ih
  | tup h l _ ih => exact .tup (s _ _ h) l ih
  | dic h l _ ih => exact .dic (same_rd s h) l ih
  | ins m h l _ ih => exact .ins m (s _ _ h) l ih
theorem Rep.flat {v : V} {x : Tr} (h : Rep K mg R v x) (f : x.flat = true) : Rep K mg R' v x := by
  cases h with
  | non => exact .non
  | bl b => exact .bl b
  | int i => exact .int i
  | str x => exact .str x
  | ty n => exact .ty n
  | cls h => cases f
  | scr h => cases f
  | lst h l _ => cases f
  | tup h l _ => cases f
  | dic h l _ => cases f
  | ins m h l _ => cases f
abbrev Reps (K : PySem.W.Frag) (mg : Str → Option Value) (R : Hp) : List V → List Tr → Prop := Paired (Rep K mg R)
abbrev RepsP {κ : Type} (K : PySem.W.Frag) (mg : Str → Option Value) (R : Hp) : List (κ × V) → List (κ × Tr) → Prop := Paired fun p q => p.1 = q.1 ∧ Rep K mg R p.2 q.2
theorem paired_of {α β : Type} {F : α → β → Prop} : ∀ {l : List α} {m : List β}, l.length = m.length → (∀ (i : Nat) a b, l[i]? = some a → m[i]? = some b → F a b) → Paired F l m
  | [], [], _, _ => .nil
  | a :: l, b :: m, h, f => .cons (f 0 a b rfl rfl) (paired_of (by simpa using h) fun i x y hx hy => f (i + 1) x y (by simpa using hx) (by simpa using hy))
  | [], _ :: _, h, _ => by simp at h
  | _ :: _, [], h, _ => by simp at h
theorem paired_at {α β : Type} {F : α → β → Prop} : ∀ {l : List α} {m : List β}, Paired F l m → ∀ (i : Nat) a b, l[i]? = some a → m[i]? = some b → F a b
  | _, _, .nil, i, a, b, h, _ => by simp at h
  | _, _, .cons r t, 0, a, b, h, h' => by simp at h h'; subst h; subst h'; exact r
  | _, _, .cons r t, i + 1, a, b, h, h' => paired_at t i a b (by simpa using h) (by simpa using h')
theorem Rep.lstP {a : Addr} {xs : List V} {ts : List Tr} (h : R a = some (.lst xs)) (p : Reps K mg R xs ts) : Rep K mg R (.ref a) (.lst ts) := .lst h p.length (paired_at p)
theorem Rep.tupP {a : Addr} {xs : List V} {ts : List Tr} (h : R a = some (.tup xs)) (p : Reps K mg R xs ts) : Rep K mg R (.ref a) (.tup ts) := .tup h p.length (paired_at p)
theorem paired_keys {κ : Type} {xs : List (κ × V)} {ts : List (κ × Tr)} (p : RepsP K mg R xs ts) : xs.map (·.1) = ts.map (·.1) := by
  induction p with
  | nil => rfl
  | cons r _ ih => rw [List.map_cons, List.map_cons, ih, r.1]
theorem pairedP_of {κ : Type} : ∀ {xs : List (κ × V)} {ts : List (κ × Tr)}, xs.map (·.1) = ts.map (·.1) → (∀ (i : Nat) k x k' t, xs[i]? = some (k, x) → ts[i]? = some (k', t) → Rep K mg R x t) → RepsP K mg R xs ts
  | [], [], _, _ => .nil
  | (k, x) :: l, (k', t) :: m, h, f => by
    rw [List.map_cons, List.map_cons] at h
    obtain ⟨h1, h2⟩ := List.cons.inj h
    exact .cons ⟨h1, f 0 k x k' t rfl rfl⟩ (pairedP_of h2 fun i a b c d ha hb => f (i + 1) a b c d (by simpa using ha) (by simpa using hb))
  | [], _ :: _, h, _ => by simp at h
  | _ :: _, [], h, _ => by simp at h
theorem Rep.dicP {a : Addr} {xs : List (Key × V)} {ts : List (Key × Tr)} (h : Rd R a (.dK xs)) (p : RepsP K mg R xs ts) : Rep K mg R (.ref a) (.dic ts) := .dic h (paired_keys p) fun i k x k' t h1 h2 => (paired_at p i _ _ h1 h2).2
theorem Rep.insP {a C dx : Addr} {c : Str} {xs : List (Str × V)} {ts : List (Str × Tr)} (m : mg c = some (.ref C)) (h : R a = some (.ins C dx xs)) (p : RepsP K mg R xs ts) : Rep K mg R (.ref a) (.ins c ts) := .ins m h (paired_keys p) fun i k x k' t h1 h2 => (paired_at p i _ _ h1 h2).2
theorem Rep.lst_inv {v : V} {ts : List Tr} (h : Rep K mg R v (.lst ts)) : ∃ a xs, v = .ref a ∧ R a = some (.lst xs) ∧ Reps K mg R xs ts := by
  cases h with
  | lst h l f => exact ⟨_, _, rfl, h, paired_of l f⟩
theorem Rep.tup_inv {v : V} {ts : List Tr} (h : Rep K mg R v (.tup ts)) : ∃ a xs, v = .ref a ∧ R a = some (.tup xs) ∧ Reps K mg R xs ts := by
  cases h with
  | tup h l f => exact ⟨_, _, rfl, h, paired_of l f⟩
theorem Rep.dic_inv {v : V} {ts : List (Key × Tr)} (h : Rep K mg R v (.dic ts)) : ∃ a xs, v = .ref a ∧ Rd R a (.dK xs) ∧ RepsP K mg R xs ts := by
  cases h with
  | dic h l f => exact ⟨_, _, rfl, h, pairedP_of l f⟩
theorem Rep.ins_inv {v : V} {c : Str} {ts : List (Str × Tr)} (h : Rep K mg R v (.ins c ts)) : ∃ a C dx xs, v = .ref a ∧ mg c = some (.ref C) ∧ R a = some (.ins C dx xs) ∧ RepsP K mg R xs ts := by
  cases h with
  | ins m h l f => exact ⟨_, _, _, _, rfl, m, h, pairedP_of l f⟩
theorem Reps.mono {xs : List V} {ts : List Tr} (s : Same R R') (h : Reps K mg R xs ts) : Reps K mg R' xs ts := Paired.mapP h fun _ _ r => r.mono s
theorem RepsP.mono {κ : Type} {xs : List (κ × V)} {ts : List (κ × Tr)} (s : Same R R') (h : RepsP K mg R xs ts) : RepsP K mg R' xs ts := Paired.mapP h fun _ _ r => ⟨r.1, r.2.mono s⟩
theorem Reps.get {xs : List V} {ts : List Tr} (h : Reps K mg R xs ts) {i : Nat} {t : Tr} (e : ts[i]? = some t) : ∃ x, xs[i]? = some x ∧ Rep K mg R x t := by
  have hl := Paired.length h
  obtain ⟨hi, _⟩ := List.getElem?_eq_some_iff.mp e
  have hx : xs[i]? = some (xs[i]'(by omega)) := List.getElem?_eq_getElem (by omega)
  exact ⟨_, hx, paired_at h i _ _ hx e⟩
theorem Reps.get' {xs : List V} {ts : List Tr} (h : Reps K mg R xs ts) {i : Nat} {x : V} (e : xs[i]? = some x) : ∃ t, ts[i]? = some t ∧ Rep K mg R x t := by
  have hl := Paired.length h
  obtain ⟨hi, _⟩ := List.getElem?_eq_some_iff.mp e
  have hx : ts[i]? = some (ts[i]'(by omega)) := List.getElem?_eq_getElem (by omega)
  exact ⟨_, hx, paired_at h i _ _ e hx⟩
theorem paired_append {α β : Type} {F : α → β → Prop} : ∀ {l l' : List α} {m m' : List β}, Paired F l m → Paired F l' m' → Paired F (l ++ l') (m ++ m')
  | _, _, _, _, .nil, q => q
  | _, _, _, _, .cons r t, q => .cons r (paired_append t q)
theorem paired_take {α β : Type} {F : α → β → Prop} : ∀ {l : List α} {m : List β} (n : Nat), Paired F l m → Paired F (l.take n) (m.take n)
  | _, _, 0, _ => .nil
  | _, _, _ + 1, .nil => .nil
  | _, _, n + 1, .cons r t => .cons r (paired_take n t)
theorem paired_drop {α β : Type} {F : α → β → Prop} : ∀ {l : List α} {m : List β} (n : Nat), Paired F l m → Paired F (l.drop n) (m.drop n)
  | _, _, 0, h => h
  | _, _, _ + 1, .nil => .nil
  | _, _, n + 1, .cons r t => paired_drop n t
theorem paired_reverse {α β : Type} {F : α → β → Prop} {l : List α} {m : List β} (h : Paired F l m) : Paired F l.reverse m.reverse := by
  induction h with
  | nil => exact .nil
  | cons r _ ih =>
    rw [List.reverse_cons, List.reverse_cons]
    exact paired_append ih (.cons r .nil)
theorem reps_ints {ns : List Int} : ∀ {xs : List V}, Reps K mg R xs (ns.map Tr.int) → xs = ns.map V.int := by
  induction ns with
  | nil => intro xs h; cases h; rfl
  | cons n ns ih =>
    intro xs h
    rw [List.map_cons] at h
    cases h with
    | cons r t => cases r; rw [ih t]; rfl
theorem ints_reps : ∀ ns : List Int, Reps K mg R (ns.map V.int) (ns.map Tr.int)
  | [] => .nil
  | n :: ns => .cons (.int n) (ints_reps ns)
/-- a list of whole numbers, of texts, of truths -/
def intsOf : List Tr → Option (List Int)
  | [] => some []
  | .int i :: r => (intsOf r).map (i :: ·)
  | _ :: _ => none
theorem intsOf_map : ∀ ns : List Int, intsOf (ns.map Tr.int) = some ns
  | [] => rfl
  | n :: ns => by rw [List.map_cons, intsOf, intsOf_map ns]; rfl
theorem intsOf_eq : ∀ {ts : List Tr} {ns : List Int}, intsOf ts = some ns → ts = ns.map Tr.int
  | [], ns, h => by simp [intsOf] at h; subst h; rfl
  | t :: ts, ns, h => by
    cases t <;> simp [intsOf] at h
    obtain ⟨ms, h1, rfl⟩ := h
    rw [intsOf_eq h1]; rfl
end

/-- an owned object: its root at a, its children known -/
def Own (K : PySem.W.Frag) (mg : Str → Option Value) (R H : Hp) (a : Addr) : Tr → Prop
  | .lst ts => ∃ xs, H a = some (.lst xs) ∧ Reps K mg R xs ts
  | .dic ts => ∃ xs, H a = some (.dK xs) ∧ RepsP K mg R xs ts
  | .ins c ts => ∃ C dx xs, mg c = some (.ref C) ∧ H a = some (.ins C dx xs) ∧ RepsP K mg R xs ts
  | _ => False

inductive DRep (K : PySem.W.Frag) (mg : Str → Option Value) (R : Hp) (hd : Nat → Addr) (as : List Addr) : V → Dv → Prop
  | t {v : V} {x : Tr} : Rep K mg R v x → DRep K mg R hd as v (.t x)
  | loc {j : Nat} {a : Addr} : as[j]? = some a → DRep K mg R hd as (.ref a) (.loc j)
  | hnd (i : Nat) : DRep K mg R hd as (.ref (hd i)) (.hnd i)

/-- one run of a def: the entry's heap, what was known then, the owned objects that were handed in, the ambient -/
structure Pm where
  H0 : Hp
  R0 : Hp
  mu : Addr → Prop
  hd : Nat → Addr
  B : Addr → Prop

structure Rel (K : PySem.W.Frag) (mg : Str → Option Value) (Z : Rsc) (P : Pm) (R : Hp) (as : List Addr) (G : Env) (m : Sto) (σ : St) (H : Hp) : Prop where
  ex : Same R H
  len : G.length = σ.length
  env : ∀ (i : Nat) d, G[i]? = some (some d) → ∃ x, σ[i]? = some (some x) ∧ DRep K mg R P.hd as x d
  sto : ∀ (j : Nat) x, m[j]? = some (some x) → ∃ a, as[j]? = some a ∧ Own K mg R H a x ∧ R a = none ∧ ¬ P.B a ∧ (P.H0 a = none ∨ (P.mu a ∧ j < Z.n0))
  inj : ∀ (j k : Nat) x y a, m[j]? = some (some x) → m[k]? = some (some y) → as[j]? = some a → as[k]? = some a → j = k
  vol : Z.Z H P.hd P.B
  rb : ∀ a, P.B a → R a = none
  frame : ∀ a o, P.H0 a = some o → ¬ P.mu a → ¬ P.B a → H a = some o
  dom : ∀ a, P.H0 a ≠ none → H a ≠ none
  fresh : ∀ a, R a ≠ none → P.R0 a ≠ none ∨ P.H0 a = none
  r0 : Same P.R0 R
  la : as.length = m.length

/-- what a name's thing is, as data -/
def view (m : Sto) : Dv → Option Tr
  | .t x => some x
  | .loc j => m.getD j none
  | .hnd _ => none

/-- an expression's step: all but the ambient stands, more may be known, of what is new alone -/
structure Nx (P : Pm) (R H R' H' : Hp) : Prop where
  r : Same R R'
  h : ∀ a o, ¬ P.B a → H a = some o → H' a = some o
  n : ∀ a, R' a ≠ none → R a ≠ none ∨ H a = none
  d : ∀ a, H a ≠ none → H' a ≠ none
theorem Nx.refl {P : Pm} {R H : Hp} : Nx P R H R H := ⟨Same.refl _, fun _ _ _ h => h, fun _ h => .inl h, fun _ h => h⟩
theorem Nx.trans {P : Pm} {R H R1 H1 R2 H2 : Hp} (a : Nx P R H R1 H1) (b : Nx P R1 H1 R2 H2) : Nx P R H R2 H2 :=
  ⟨a.r.trans b.r, fun c o n h => b.h c o n (a.h c o n h), fun c h => by
    rcases b.n c h with z | z
    · exact a.n c z
    · right
      cases q : H c with
      | none => rfl
      | some o => exact absurd z (a.d c (by rw [q]; simp)), fun c h => b.d c (a.d c h)⟩

section
variable {K : PySem.W.Frag} {mg : Str → Option Value} {Z : Rsc} {P : Pm} {R R' H H' : Hp} {as : List Addr} {G : Env} {m : Sto} {σ : St}
theorem DRep.mono {v : V} {d : Dv} {hd : Nat → Addr} (s : Same R R') (h : DRep K mg R hd as v d) : DRep K mg R' hd as v d := by
  cases h with
  | t h => exact .t (h.mono s)
  | loc h => exact .loc h
  | hnd i => exact .hnd i
theorem Own.mono {a : Addr} {x : Tr} (s : Same R R') (e : ∀ o, H a = some o → H' a = some o) (h : Own K mg R H a x) : Own K mg R' H' a x := by
  cases x with
  | lst ts => obtain ⟨xs, h1, h2⟩ := h; exact ⟨xs, e _ h1, Reps.mono s h2⟩
  | dic ts => obtain ⟨xs, h1, h2⟩ := h; exact ⟨xs, e _ h1, RepsP.mono s h2⟩
  | ins c ts => obtain ⟨C, dx, xs, h0, h1, h2⟩ := h; exact ⟨C, dx, xs, h0, e _ h1, RepsP.mono s h2⟩
  | _ => exact h.elim
theorem Own.there {a : Addr} {x : Tr} (h : Own K mg R H a x) : ∃ o, H a = some o := by
  cases x with
  | lst ts => obtain ⟨xs, h1, h2⟩ := h; exact ⟨_, h1⟩
  | dic ts => obtain ⟨xs, h1, h2⟩ := h; exact ⟨_, h1⟩
  | ins c ts => obtain ⟨C, dx, xs, h0, h1, h2⟩ := h; exact ⟨_, h1⟩
  | _ => exact h.elim
theorem Own.rep {a : Addr} {x : Tr} (s : Same R H) (h : Own K mg R H a x) : Rep K mg H (.ref a) x := by
  cases x with
  | lst ts => obtain ⟨xs, h1, h2⟩ := h; exact .lstP h1 (Reps.mono s h2)
  | dic ts => obtain ⟨xs, h1, h2⟩ := h; exact .dicP (.inl h1) (RepsP.mono s h2)
  | ins c ts => obtain ⟨C, dx, xs, h0, h1, h2⟩ := h; exact .insP h0 h1 (RepsP.mono s h2)
  | _ => exact h.elim
theorem getD_some {α : Type} {l : List (Option α)} {j : Nat} {x : α} (h : l.getD j none = some x) : l[j]? = some (some x) := by
  rw [List.getD_eq_getElem?_getD] at h
  cases e : l[j]? with
  | none => rw [e] at h; cases h
  | some o => rw [e] at h; simp at h; rw [h]
/-- the data of a value stand in the heap -/
theorem Rel.repd {v : V} {d : Dv} {x : Tr} (r : Rel K mg Z P R as G m σ H) (h : DRep K mg R P.hd as v d) (e : view m d = some x) : Rep K mg H v x := by
  cases h with
  | t h => simp [VL.view] at e; subst e; exact h.mono r.ex
  | loc h =>
    obtain ⟨a, h1, h2, _⟩ := r.sto _ _ (getD_some e)
    rw [h1] at h; cases h
    exact h2.rep r.ex
  | hnd i => cases e
/-- an address that is new -/
theorem Rel.newR (r : Rel K mg Z P R as G m σ H) {p : Addr} (hp : H p = none) : R p = none := Same.free r.ex hp
theorem Rel.newB (r : Rel K mg Z P R as G m σ H) {p : Addr} (hp : H p = none) : ¬ P.B p := fun b => Z.dm _ _ _ r.vol p b hp
theorem Rel.new0 (r : Rel K mg Z P R as G m σ H) {p : Addr} (hp : H p = none) : P.H0 p = none := by
  cases e : P.H0 p with
  | none => rfl
  | some o => exact absurd hp (r.dom p (by rw [e]; simp))
theorem Rel.newA (r : Rel K mg Z P R as G m σ H) {p : Addr} (hp : H p = none) {j : Nat} {x : Tr} (h : m[j]? = some (some x)) : as[j]? ≠ some p := fun e => by
  obtain ⟨a, h1, h2, _⟩ := r.sto j x h
  rw [h1] at e; cases e
  obtain ⟨o, h3⟩ := h2.there
  rw [hp] at h3; cases h3
theorem same_new {p : Addr} {o : HO} (hp : H p = none) : Same H (upd H p o) := fun b u e => by rw [upd_ne (ne_of_none e hp)]; exact e
theorem same_both {p : Addr} {o : HO} (s : Same R H) : Same (upd R p o) (upd H p o) := fun b u e => by
  by_cases hb : b = p
  · subst hb; rw [upd_same] at e ⊢; exact e
  · rw [upd_ne hb] at e ⊢; exact s _ _ e
theorem same_put {p : Addr} {o : HO} (hp : R p = none) (s : Same R H) : Same R (upd H p o) := fun b u e => by
  rw [upd_ne (ne_of_none e hp)]; exact s _ _ e
/-- the heap grows by things that are not known -/
theorem Rel.step (r : Rel K mg Z P R as G m σ H) (x : Nx P R H R' H') (ex : Same R' H') (vol : Z.Z H' P.hd P.B) : Rel K mg Z P R' as G m σ H' where
  ex := ex
  len := r.len
  env := fun i d e => let ⟨v, h1, h2⟩ := r.env i d e; ⟨v, h1, h2.mono x.r⟩
  sto := fun j y e => by
    obtain ⟨a, h1, h2, h3, h4, h5⟩ := r.sto j y e
    refine ⟨a, h1, h2.mono x.r fun o q => x.h a o h4 q, ?_, h4, h5⟩
    cases q : R' a with
    | none => rfl
    | some o =>
      rcases x.n a (by rw [q]; simp) with z | z
      · exact absurd h3 z
      · obtain ⟨o, h6⟩ := h2.there
        rw [z] at h6; cases h6
  inj := r.inj
  vol := vol
  rb := fun a b => by
    cases q : R' a with
    | none => rfl
    | some o =>
      rcases x.n a (by rw [q]; simp) with z | z
      · exact absurd (r.rb a b) z
      · exact absurd z (Z.dm _ _ _ r.vol a b)
  frame := fun a o e n b => x.h a o b (r.frame a o e n b)
  dom := fun a e => x.d a (r.dom a e)
  fresh := fun a e => by
    rcases x.n a e with z | z
    · exact r.fresh a z
    · exact .inr (r.new0 z)
  r0 := r.r0.trans x.r
  la := r.la
/-- a new object is laid and known -/
theorem Rel.laid (r : Rel K mg Z P R as G m σ H) {p : Addr} {o : HO} (hp : H p = none) : Rel K mg Z P (upd R p o) as G m σ (upd H p o) ∧ Nx P R H (upd R p o) (upd H p o) := by
  have sr : Same R (upd R p o) := same_new (r.newR hp)
  have sh : Same H (upd H p o) := same_new hp
  have x : Nx P R H (upd R p o) (upd H p o) := ⟨sr, fun a u _ e => sh a u e, fun a e => by
    by_cases h : a = p
    · subst h; exact .inr hp
    · rw [upd_ne h] at e; exact .inl e, fun a e => by
    cases q : H a with
    | none => exact absurd q e
    | some u => rw [sh a u q]; simp⟩
  exact ⟨r.step x (same_both r.ex) (Z.st _ _ _ _ (fun a b => upd_ne fun z => r.newB hp (by rw [← z]; exact b)) r.vol), x⟩
end
end VL

/-! VL, part B: expressions. -/
namespace VL
open PySem L2

abbrev DK := Dv → Prop
abbrev XK := Str → Prop
abbrev VE := Env → Sto → DK → XK → Prop
abbrev VT := Env → Sto → (Bool → Prop) → XK → Prop
abbrev VA := Env → Sto → (List Dv → Prop) → XK → Prop

/-- what is wanted behind an expression -/
structure Kn (K : PySem.W.Frag) (mg : Str → Option Value) (Z : Rsc) (W : WX) (P : Pm) (R : Hp) (as : List Addr) (G : Env) (m : Sto) (σ : L2.St) (H : Hp) (k : DK) (x : XK) (Q : VK) : Prop where
  ok : ∀ d v R' H', k d → Nx P R H R' H' → Rel K mg Z P R' as G m σ H' → DRep K mg R' P.hd as v d → Q v H'
  er : ∀ nm cl R' H', x nm → mg nm = some cl → Nx P R H R' H' → Rel K mg Z P R' as G m σ H' → W cl none σ H'
structure KnT (K : PySem.W.Frag) (mg : Str → Option Value) (Z : Rsc) (W : WX) (P : Pm) (R : Hp) (as : List Addr) (G : Env) (m : Sto) (σ : L2.St) (H : Hp) (k : Bool → Prop) (x : XK) (Q : Bool → Hp → Prop) : Prop where
  ok : ∀ b R' H', k b → Nx P R H R' H' → Rel K mg Z P R' as G m σ H' → Q b H'
  er : ∀ nm cl R' H', x nm → mg nm = some cl → Nx P R H R' H' → Rel K mg Z P R' as G m σ H' → W cl none σ H'
structure KnA (K : PySem.W.Frag) (mg : Str → Option Value) (Z : Rsc) (W : WX) (P : Pm) (R : Hp) (as : List Addr) (G : Env) (m : Sto) (σ : L2.St) (H : Hp) (k : List Dv → Prop) (x : XK) (Q : List V → Hp → Prop) : Prop where
  ok : ∀ ds vs R' H', k ds → Nx P R H R' H' → Rel K mg Z P R' as G m σ H' → Paired (DRep K mg R' P.hd as) vs ds → Q vs H'
  er : ∀ nm cl R' H', x nm → mg nm = some cl → Nx P R H R' H' → Rel K mg Z P R' as G m σ H' → W cl none σ H'
def LE (K : PySem.W.Frag) (mg : Str → Option Value) (Z : Rsc) (W : WX) (e : VE) : TE := fun σ H Q => ∃ P R as G m k x, Rel K mg Z P R as G m σ H ∧ e G m k x ∧ Kn K mg Z W P R as G m σ H k x Q
def LT (K : PySem.W.Frag) (mg : Str → Option Value) (Z : Rsc) (W : WX) (e : VT) : TT := fun σ H Q => ∃ P R as G m k x, Rel K mg Z P R as G m σ H ∧ e G m k x ∧ KnT K mg Z W P R as G m σ H k x Q
def LA (K : PySem.W.Frag) (mg : Str → Option Value) (Z : Rsc) (W : WX) (e : VA) : TA := fun σ H Q => ∃ P R as G m k x, Rel K mg Z P R as G m σ H ∧ e G m k x ∧ KnA K mg Z W P R as G m σ H k x Q

theorem PE.imp {X : Cx} {e : Expr} {t t' : TE} (h : PE X e t) (hi : ∀ σ H Q, t' σ H Q → t σ H Q) : PE X e t' := ⟨fun pins s σ H Q I q => h.run pins s σ H Q I (hi σ H Q q)⟩
theorem PT.imp {X : Cx} {e : Expr} {t t' : TT} (h : PT X e t) (hi : ∀ σ H Q, t' σ H Q → t σ H Q) : PT X e t' := ⟨fun pins s σ H Q I q => h.run pins s σ H Q I (hi σ H Q q)⟩
theorem PA.imp {X : Cx} {e : List Expr} {t t' : TA} (h : PA X e t) (hi : ∀ σ H Q, t' σ H Q → t σ H Q) : PA X e t' := ⟨fun pos pins s σ H Q I q => h.run pos pins s σ H Q I (hi σ H Q q)⟩
theorem PS.imp {X : Cx} {e : Stmt} {t t' : TS} (h : PS X e t) (hi : ∀ D σ H, t' D σ H → t D σ H) : PS X e t' := ⟨fun pins s σ H D I q => h.run pins s σ H D I (hi D σ H q)⟩
theorem PSs.imp {X : Cx} {e : List Stmt} {t t' : TS} (h : PSs X e t) (hi : ∀ D σ H, t' D σ H → t D σ H) : PSs X e t' := ⟨fun pins s σ H D I q => h.run pins s σ H D I (hi D σ H q)⟩
theorem PE.or {X : Cx} {e : Expr} {t t' : TE} (h : PE X e t) (h' : PE X e t') : PE X e (fun σ H Q => t σ H Q ∨ t' σ H Q) := ⟨fun pins s σ H Q I q => q.elim (h.run pins s σ H Q I) (h'.run pins s σ H Q I)⟩

section
variable {K : PySem.W.Frag} {mg : Str → Option Value} {Z : Rsc} {W : WX} {P : Pm} {R R' H H' : Hp} {as : List Addr} {G : Env} {m : Sto} {σ : L2.St}
theorem Kn.step {k : DK} {x : XK} {Q : VK} (n : Kn K mg Z W P R as G m σ H k x Q) (s : Nx P R H R' H') : Kn K mg Z W P R' as G m σ H' k x Q :=
  ⟨fun d v R2 H2 a b c e => n.ok d v R2 H2 a (s.trans b) c e, fun nm cl R2 H2 a b c e => n.er nm cl R2 H2 a b (s.trans c) e⟩
theorem KnT.step {k : Bool → Prop} {x : XK} {Q : Bool → Hp → Prop} (n : KnT K mg Z W P R as G m σ H k x Q) (s : Nx P R H R' H') : KnT K mg Z W P R' as G m σ H' k x Q :=
  ⟨fun d R2 H2 a b c => n.ok d R2 H2 a (s.trans b) c, fun nm cl R2 H2 a b c e => n.er nm cl R2 H2 a b (s.trans c) e⟩
theorem KnA.step {k : List Dv → Prop} {x : XK} {Q : List V → Hp → Prop} (n : KnA K mg Z W P R as G m σ H k x Q) (s : Nx P R H R' H') : KnA K mg Z W P R' as G m σ H' k x Q :=
  ⟨fun d v R2 H2 a b c e => n.ok d v R2 H2 a (s.trans b) c e, fun nm cl R2 H2 a b c e => n.er nm cl R2 H2 a b (s.trans c) e⟩
/-- an expression within another: what is wanted of it -/
theorem LE.go {e : VE} {k : DK} {x : XK} {Q : VK} (r : Rel K mg Z P R as G m σ H) (h : e G m k x)
    (ok : ∀ d v R' H', k d → Nx P R H R' H' → Rel K mg Z P R' as G m σ H' → DRep K mg R' P.hd as v d → Q v H')
    (er : ∀ nm cl R' H', x nm → mg nm = some cl → Nx P R H R' H' → Rel K mg Z P R' as G m σ H' → W cl none σ H') : LE K mg Z W e σ H Q := ⟨P, R, as, G, m, k, x, r, h, ok, er⟩
theorem LT.go {e : VT} {k : Bool → Prop} {x : XK} {Q : Bool → Hp → Prop} (r : Rel K mg Z P R as G m σ H) (h : e G m k x)
    (ok : ∀ d R' H', k d → Nx P R H R' H' → Rel K mg Z P R' as G m σ H' → Q d H')
    (er : ∀ nm cl R' H', x nm → mg nm = some cl → Nx P R H R' H' → Rel K mg Z P R' as G m σ H' → W cl none σ H') : LT K mg Z W e σ H Q := ⟨P, R, as, G, m, k, x, r, h, ok, er⟩
theorem LA.go {e : VA} {k : List Dv → Prop} {x : XK} {Q : List V → Hp → Prop} (r : Rel K mg Z P R as G m σ H) (h : e G m k x)
    (ok : ∀ d v R' H', k d → Nx P R H R' H' → Rel K mg Z P R' as G m σ H' → Paired (DRep K mg R' P.hd as) v d → Q v H')
    (er : ∀ nm cl R' H', x nm → mg nm = some cl → Nx P R H R' H' → Rel K mg Z P R' as G m σ H' → W cl none σ H') : LA K mg Z W e σ H Q := ⟨P, R, as, G, m, k, x, r, h, ok, er⟩
end

/-! ### names, constants -/
def vVar (i : Nat) : VE := fun G _ k _ => ∃ d, G[i]? = some (some d) ∧ k d
abbrev vC (x : Tr) : VE := fun _ _ k _ => k (.t x)
theorem vVar_i {i : Nat} {G : Env} {m : Sto} {k : DK} {x : XK} {d : Dv} (h : G[i]? = some (some d)) (q : k d) : vVar i G m k x := ⟨d, h, q⟩
theorem vC_i {c : Tr} {G : Env} {m : Sto} {k : DK} {x : XK} (q : k (.t c)) : vC c G m k x := q
section
variable {X : Cx} {Z : Rsc} {W : WX}
theorem v_var (i : Nat) {x : Str} {pos : Pos} (hN : X.N[i]? = some x := by rfl) (hv : Vis X.env.scope x := by first | exact Or.inl rfl | exact Or.inr (Or.inl rfl) | exact Or.inr (Or.inr rfl)) (hd : (x == ("__debug__" : Str)) = false := by decide)
    (hcd : (x == ("__classdict__" : Str)) = false := by decide) : PE X (.Name x pos) (LE X.K X.mg Z W (vVar i)) :=
  PE.imp (pe_var hN hv hd hcd) fun σ H Q ⟨P, R, as, G, m, k, xk, r, ⟨d, hd, hk⟩, n⟩ => by
    obtain ⟨v, h1, h2⟩ := r.env i d hd
    exact ⟨v, h1, n.ok d v R H hk .refl r h2⟩
theorem v_int {i : Int} {j : Nat} {pos : Pos} : PE X (.Constant (.int i) j pos) (LE X.K X.mg Z W (vC (.int i))) := PE.imp pe_int fun σ H Q ⟨P, R, as, G, m, k, xk, r, hk, n⟩ => n.ok _ _ R H hk .refl r (.t (.int i))
theorem v_bl {b : Bool} {j : Nat} {pos : Pos} : PE X (.Constant (.bool b) j pos) (LE X.K X.mg Z W (vC (.bl b))) := PE.imp pe_bl fun σ H Q ⟨P, R, as, G, m, k, xk, r, hk, n⟩ => n.ok _ _ R H hk .refl r (.t (.bl b))
theorem v_non {j : Nat} {pos : Pos} : PE X (.Constant .none j pos) (LE X.K X.mg Z W (vC .non)) := PE.imp pe_non fun σ H Q ⟨P, R, as, G, m, k, xk, r, hk, n⟩ => n.ok _ _ R H hk .refl r (.t .non)
theorem v_str {x : Str} {j : Nat} {pos : Pos} : PE X (.Constant (.str x) j pos) (LE X.K X.mg Z W (vC (.str x))) := PE.imp pe_str fun σ H Q ⟨P, R, as, G, m, k, xk, r, hk, n⟩ => n.ok _ _ R H hk .refl r (.t (.str x))
/-- a constant of the module -/
theorem v_glob {x : Str} {v : V} {t : Tr} {u : Value} {pos : Pos} (hg : Gl X x) (hm : X.mg x = some u) (rv : RelV v u) (hr : ∀ R, Rep X.K X.mg R v t) (hd : (x == ("__debug__" : Str)) = false := by decide) : PE X (.Name x pos) (LE X.K X.mg Z W (vC t)) :=
  PE.imp (pe_glob hg hm rv hd) fun σ H Q ⟨P, R, as, G, m, k, xk, r, hk, n⟩ => n.ok _ _ R H hk .refl r (.t (hr R))
end

/-! ### operations on two values -/
abbrev O2 := Sto → Dv → Dv → DK → Prop
abbrev vOp (f : O2) (a b : VE) : VE := fun G m k x => a G m (fun d => b G m (fun e => f m d e k) x) x
theorem vOp_i {f : O2} {a b : VE} {G : Env} {m : Sto} {k : DK} {x : XK} (h : a G m (fun d => b G m (fun e => f m d e k) x) x) : vOp f a b G m k x := h
def Lo2 (K : PySem.W.Frag) (mg : Str → Option Value) (r : R2) (f : O2) : Prop := ∀ (Z : Rsc) P R as G m σ H v w d e k Q, Rel K mg Z P R as G m σ H → DRep K mg R P.hd as v d → DRep K mg R P.hd as w e → f m d e k →
  (∀ z u R' H', k z → Nx P R H R' H' → Rel K mg Z P R' as G m σ H' → DRep K mg R' P.hd as u z → Q u H') → r v w H Q
theorem Lo2.or {K : PySem.W.Frag} {mg : Str → Option Value} {r r' : R2} {f f' : O2} (h : Lo2 K mg r f) (h' : Lo2 K mg r' f') : Lo2 K mg (fun x y H Q => r x y H Q ∨ r' x y H Q) (fun m d e k => f m d e k ∨ f' m d e k) :=
  fun Z P R as G m σ H v w d e k Q a b c q k => q.elim (fun q => .inl (h Z P R as G m σ H v w d e _ Q a b c q k)) fun q => .inr (h' Z P R as G m σ H v w d e _ Q a b c q k)
theorem lo2 {K : PySem.W.Frag} {mg : Str → Option Value} {Z : Rsc} {W : WX} {r : R2} {f : O2} {a b : VE} (hr : Lo2 K mg r f) : ∀ σ H Q, LE K mg Z W (vOp f a b) σ H Q → tOp r (LE K mg Z W a) (LE K mg Z W b) σ H Q :=
  fun σ H Q ⟨P, R, as, G, m, k, xk, r0, h, n⟩ => LE.go r0 h (fun d v R1 H1 h1 n1 r1 d1 => LE.go r1 h1 (fun e w R2 H2 h2 n2 r2 d2 =>
    hr Z P R2 as G m σ H2 v w d e k Q r2 (d1.mono n2.r) d2 h2 fun z u R3 H3 h3 n3 r3 d3 => n.ok z u R3 H3 h3 ((n1.trans n2).trans n3) r3 d3) (n.step n1).er) n.er
section
variable {X : Cx} {Z : Rsc} {W : WX} {a b : Expr} {ea eb : VE} {pos : Pos}
theorem v_op {op : Operator} {r : R2} {f : O2} (ho : OpR X (binaryOp op) r) (hr : Lo2 X.K X.mg r f) (ha : PE X a (LE X.K X.mg Z W ea)) (hb : PE X b (LE X.K X.mg Z W eb)) : PE X (.BinOp a op b pos) (LE X.K X.mg Z W (vOp f ea eb)) :=
  PE.imp (pe_op ho ha hb) (lo2 hr)
theorem v_cmp {op : CmpOp} {r : R2} {f : O2} (ho : OpR X (compareOp op) r) (hr : Lo2 X.K X.mg r f) (ha : PE X a (LE X.K X.mg Z W ea)) (hb : PE X b (LE X.K X.mg Z W eb)) (hm : behindInMarks op b = false) : PE X (.Compare a [op] [b] pos) (LE X.K X.mg Z W (vOp f ea eb)) :=
  PE.imp (pe_cmpR ho ha hb hm) (lo2 hr)
theorem v_ix {r : R2} {f : O2} (ho : IxR X r) (hr : Lo2 X.K X.mg r f) (ha : PE X a (LE X.K X.mg Z W ea)) (hb : PE X b (LE X.K X.mg Z W eb)) (hs : PlainIx b) : PE X (.Subscript a b pos) (LE X.K X.mg Z W (vOp f ea eb)) :=
  PE.imp (pe_ix ho ha hb hs) (lo2 hr)
end

section
variable {K : PySem.W.Frag} {mg : Str → Option Value}
theorem Rel.vInt {Z : Rsc} {P : Pm} {R H : Hp} {as : List Addr} {G : Env} {m : Sto} {σ : L2.St} {v : V} {d : Dv} {i : Int} (r : Rel K mg Z P R as G m σ H) (h : DRep K mg R P.hd as v d) (e : view m d = some (.int i)) : v = .int i := by
  cases r.repd h e; rfl
theorem Rel.vStr {Z : Rsc} {P : Pm} {R H : Hp} {as : List Addr} {G : Env} {m : Sto} {σ : L2.St} {v : V} {d : Dv} {i : Str} (r : Rel K mg Z P R as G m σ H) (h : DRep K mg R P.hd as v d) (e : view m d = some (.str i)) : v = .str i := by
  cases r.repd h e; rfl
theorem Rel.vBl {Z : Rsc} {P : Pm} {R H : Hp} {as : List Addr} {G : Env} {m : Sto} {σ : L2.St} {v : V} {d : Dv} {i : Bool} (r : Rel K mg Z P R as G m σ H) (h : DRep K mg R P.hd as v d) (e : view m d = some (.bl i)) : v = .bl i := by
  cases r.repd h e; rfl
theorem Rel.vNon {Z : Rsc} {P : Pm} {R H : Hp} {as : List Addr} {G : Env} {m : Sto} {σ : L2.St} {v : V} {d : Dv} (r : Rel K mg Z P R as G m σ H) (h : DRep K mg R P.hd as v d) (e : view m d = some .non) : v = .non := by
  cases r.repd h e; rfl
/-- the items of a list, known or owned: the list at a, its items known in R -/
theorem Rel.vLst {Z : Rsc} {P : Pm} {R H : Hp} {as : List Addr} {G : Env} {m : Sto} {σ : L2.St} {v : V} {d : Dv} {ts : List Tr} (r : Rel K mg Z P R as G m σ H) (h : DRep K mg R P.hd as v d) (e : view m d = some (.lst ts)) :
    ∃ a xs, v = .ref a ∧ H a = some (.lst xs) ∧ Reps K mg R xs ts := by
  cases h with
  | t h =>
    simp [view] at e; subst e
    obtain ⟨a, xs, rfl, h1, h2⟩ := h.lst_inv
    exact ⟨a, xs, rfl, r.ex _ _ h1, h2⟩
  | loc h =>
    obtain ⟨a, h1, h2, _⟩ := r.sto _ _ (getD_some e)
    rw [h1] at h; cases h
    obtain ⟨xs, h3, h4⟩ := h2
    exact ⟨_, xs, rfl, h3, h4⟩
  | hnd i => cases e
theorem Rel.vTup {Z : Rsc} {P : Pm} {R H : Hp} {as : List Addr} {G : Env} {m : Sto} {σ : L2.St} {v : V} {d : Dv} {ts : List Tr} (r : Rel K mg Z P R as G m σ H) (h : DRep K mg R P.hd as v d) (e : view m d = some (.tup ts)) :
    ∃ a xs, v = .ref a ∧ H a = some (.tup xs) ∧ Reps K mg R xs ts := by
  cases h with
  | t h =>
    simp [view] at e; subst e
    obtain ⟨a, xs, rfl, h1, h2⟩ := h.tup_inv
    exact ⟨a, xs, rfl, r.ex _ _ h1, h2⟩
  | loc h =>
    obtain ⟨a, h1, h2, _⟩ := r.sto _ _ (getD_some e)
    exact h2.elim
  | hnd i => cases e
theorem Rel.vDic {Z : Rsc} {P : Pm} {R H : Hp} {as : List Addr} {G : Env} {m : Sto} {σ : L2.St} {v : V} {d : Dv} {ts : List (Key × Tr)} (r : Rel K mg Z P R as G m σ H) (h : DRep K mg R P.hd as v d) (e : view m d = some (.dic ts)) :
    ∃ a xs, v = .ref a ∧ Rd H a (.dK xs) ∧ RepsP K mg R xs ts := by
  cases h with
  | t h =>
    simp [view] at e; subst e
    obtain ⟨a, xs, rfl, h1, h2⟩ := h.dic_inv
    exact ⟨a, xs, rfl, same_rd r.ex h1, h2⟩
  | loc h =>
    obtain ⟨a, h1, h2, _⟩ := r.sto _ _ (getD_some e)
    rw [h1] at h; cases h
    obtain ⟨xs, h3, h4⟩ := h2
    exact ⟨_, xs, rfl, .inl h3, h4⟩
  | hnd i => cases e
theorem Rel.vScr {Z : Rsc} {P : Pm} {R H : Hp} {as : List Addr} {G : Env} {m : Sto} {σ : L2.St} {v : V} {d : Dv} {ns : List Int} (r : Rel K mg Z P R as G m σ H) (h : DRep K mg R P.hd as v d) (e : view m d = some (.scr ns)) :
    ∃ a, v = .ref a ∧ SqL K H a (ns.map V.int) := by
  cases r.repd h e with
  | scr h => exact ⟨_, rfl, h⟩
theorem Rel.vIns {Z : Rsc} {P : Pm} {R H : Hp} {as : List Addr} {G : Env} {m : Sto} {σ : L2.St} {v : V} {d : Dv} {c : Str} {ts : List (Str × Tr)} (r : Rel K mg Z P R as G m σ H) (h : DRep K mg R P.hd as v d) (e : view m d = some (.ins c ts)) :
    ∃ a C dx xs, v = .ref a ∧ mg c = some (.ref C) ∧ H a = some (.ins C dx xs) ∧ RepsP K mg R xs ts := by
  cases h with
  | t h =>
    simp [view] at e; subst e
    obtain ⟨a, C, dx, xs, rfl, h0, h1, h2⟩ := h.ins_inv
    exact ⟨a, C, dx, xs, rfl, h0, r.ex _ _ h1, h2⟩
  | loc h =>
    obtain ⟨a, h1, h2, _⟩ := r.sto _ _ (getD_some e)
    rw [h1] at h; cases h
    obtain ⟨C, dx, xs, h0, h3, h4⟩ := h2
    exact ⟨_, C, dx, xs, rfl, h0, h3, h4⟩
  | hnd i => cases e

/-- two whole numbers give a flat thing -/
def fI (C : Int → Int → Prop) (g : Int → Int → Tr) : O2 := fun m d e k => ∃ i j, view m d = some (.int i) ∧ view m e = some (.int j) ∧ C i j ∧ k (.t (g i j))
def fI0 (g : Int → Int → Tr) : O2 := fun m d e k => ∃ i j, view m d = some (.int i) ∧ view m e = some (.int j) ∧ k (.t (g i j))
theorem lo_I {C : Int → Int → Prop} {g : Int → Int → V} {g' : Int → Int → Tr} (hg : ∀ R i j, Rep K mg R (g i j) (g' i j)) : Lo2 K mg (rI C g) (fI C g') := by
  rintro Z P R as G m σ H v w d e k Q r h1 h2 ⟨i, j, e1, e2, c, q⟩ n
  rw [r.vInt h1 e1, r.vInt h2 e2]
  exact ⟨i, j, rfl, rfl, c, n _ _ R H q .refl r (.t (hg R i j))⟩
theorem lo_I0 {g : Int → Int → V} {g' : Int → Int → Tr} (hg : ∀ R i j, Rep K mg R (g i j) (g' i j)) : Lo2 K mg (rI0 g) (fI0 g') := by
  rintro Z P R as G m σ H v w d e k Q r h1 h2 ⟨i, j, e1, e2, q⟩ n
  rw [r.vInt h1 e1, r.vInt h2 e2]
  exact ⟨i, j, rfl, rfl, n _ _ R H q .refl r (.t (hg R i j))⟩
/-- texts put together -/
def fCatS : O2 := fun m d e k => ∃ i j, view m d = some (.str i) ∧ view m e = some (.str j) ∧ i.length + j.length ≤ sizeLine ∧ k (.t (.str (i ++ j)))
theorem lo_catS : Lo2 K mg (fun x y H Q => ∃ i j, x = .str i ∧ y = .str j ∧ i.length + j.length ≤ sizeLine ∧ Q (.str (i ++ j)) H) fCatS := by
  rintro Z P R as G m σ H v w d e k Q r h1 h2 ⟨i, j, e1, e2, c, q⟩ n
  rw [r.vStr h1 e1, r.vStr h2 e2]
  exact ⟨i, j, rfl, rfl, c, n _ _ R H q .refl r (.t (.str _))⟩
/-- lists put together: a new known list -/
def fCatL : O2 := fun m d e k => ∃ xs ys, view m d = some (.lst xs) ∧ view m e = some (.lst ys) ∧ xs.length + ys.length ≤ sizeLine ∧ k (.t (.lst (xs ++ ys)))
theorem lo_catL : Lo2 K mg rCat fCatL := by
  rintro Z P R as G m σ H v w d e k Q r h1 h2 ⟨ts, us, e1, e2, c, q⟩ n
  obtain ⟨a, xs, rfl, ha, ra⟩ := r.vLst h1 e1
  obtain ⟨b, ys, rfl, hb, rb⟩ := r.vLst h2 e2
  refine ⟨a, b, xs, ys, rfl, rfl, ha, hb, by rw [Paired.length ra, Paired.length rb]; exact c, fun p hp => ?_⟩
  obtain ⟨r', n'⟩ := r.laid (o := .lst (xs ++ ys)) hp
  exact n _ _ _ _ q n' r' (.t (.lstP upd_same (paired_append (Reps.mono n'.r ra) (Reps.mono n'.r rb))))
/-- a list so many times -/
def fRep : O2 := fun m d e k => ∃ xs i, view m d = some (.lst xs) ∧ view m e = some (.int i) ∧ -(2 ^ 63) ≤ i ∧ i < 2 ^ 63 ∧ xs.length * i.toNat ≤ sizeLine ∧ k (.t (.lst (List.replicate i.toNat xs).flatten))
theorem paired_rep {α β : Type} {F : α → β → Prop} {l : List α} {l' : List β} (h : Paired F l l') : ∀ n : Nat, Paired F (List.replicate n l).flatten (List.replicate n l').flatten
  | 0 => .nil
  | n + 1 => by
    rw [List.replicate_succ, List.replicate_succ, List.flatten_cons, List.flatten_cons]
    exact paired_append h (paired_rep h n)
theorem lo_rep : Lo2 K mg rRep fRep := by
  rintro Z P R as G m σ H v w d e k Q r h1 h2 ⟨ts, i, e1, e2, c1, c2, c3, q⟩ n
  obtain ⟨a, xs, rfl, ha, ra⟩ := r.vLst h1 e1
  rw [r.vInt h2 e2]
  refine ⟨a, i, xs, rfl, rfl, ha, c1, c2, by rw [Paired.length ra]; exact c3, fun p hp => ?_⟩
  obtain ⟨r', n'⟩ := r.laid (o := .lst (List.replicate i.toNat xs).flatten) hp
  exact n _ _ _ _ q n' r' (.t (.lstP upd_same (paired_rep (Reps.mono n'.r ra) _)))
end
end VL

/-! VL, part C: comparisons, tests, displays, subscripts. -/
namespace VL
open PySem L2

def Tr.isN : Tr → Bool
  | .non => true
  | _ => false
/-! ### deep equality -/
mutual
def pd : Tr → Option PyData
  | .non => some .none
  | .bl b => some (.bool b)
  | .int i => some (.int i)
  | .str x => some (.str x)
  | .lst xs => (pds xs).map .list
  | .tup xs => (pds xs).map .tuple
  | _ => none
def pds : List Tr → Option (List PyData)
  | [] => some []
  | x :: xs => (pd x).bind fun d => (pds xs).map (d :: ·)
end
mutual
/-- data that == takes: no dict, at most so deep -/
def lay : Nat → Tr → Bool
  | _, .non => true
  | _, .bl _ => true
  | _, .int _ => true
  | _, .str x => PyData.strOk x
  | 0, _ => false
  | n + 1, .lst xs => lays n xs
  | n + 1, .tup xs => lays n xs
  | _, _ => false
def lays : Nat → List Tr → Bool
  | _, [] => true
  | n, x :: xs => lay n x && lays n xs
end
theorem lays_ints (n : Nat) : ∀ ns : List Int, lays n (ns.map Tr.int) = true
  | [] => by unfold lays; rfl
  | i :: ns => by
    rw [List.map_cons]
    unfold lays
    rw [lays_ints n ns]
    cases n <;> (unfold lay; rfl)
mutual
theorem lay_ok : ∀ (x : Tr) (n : Nat), lay n x = true → ∃ d, pd x = some d ∧ d.canLay0 = true ∧ d.depth ≤ n
  | .non, n, _ => ⟨_, by unfold pd; rfl, by simp [PyData.canLay0], by simp [PyData.depth]⟩
  | .bl b, n, _ => ⟨_, by unfold pd; rfl, by simp [PyData.canLay0], by simp [PyData.depth]⟩
  | .int i, n, _ => ⟨_, by unfold pd; rfl, by simp [PyData.canLay0], by simp [PyData.depth]⟩
  | .str s, n, h => ⟨_, by unfold pd; rfl, by
      have h' : PyData.strOk s = true := by cases n <;> (unfold lay at h; exact h)
      simpa [PyData.canLay0] using h', by simp [PyData.depth]⟩
  | .lst xs, 0, h => by unfold lay at h; cases h
  | .tup xs, 0, h => by unfold lay at h; cases h
  | .lst xs, n + 1, h => by
    unfold lay at h
    obtain ⟨ds, h1, h2, h3⟩ := lays_ok xs n h
    exact ⟨.list ds, by unfold pd; rw [h1]; rfl, by simpa [PyData.canLay0] using h2, by simp [PyData.depth]; omega⟩
  | .tup xs, n + 1, h => by
    unfold lay at h
    obtain ⟨ds, h1, h2, h3⟩ := lays_ok xs n h
    exact ⟨.tuple ds, by unfold pd; rw [h1]; rfl, by simpa [PyData.canLay0] using h2, by simp [PyData.depth]; omega⟩
  | .ty _, 0, h => by unfold lay at h; cases h
  | .ty _, _ + 1, h => by unfold lay at h; cases h
  | .cls _, 0, h => by unfold lay at h; cases h
  | .cls _, _ + 1, h => by unfold lay at h; cases h
  | .scr _, 0, h => by unfold lay at h; cases h
  | .scr _, _ + 1, h => by unfold lay at h; cases h
  | .dic _, 0, h => by unfold lay at h; cases h
  | .dic _, _ + 1, h => by unfold lay at h; cases h
  | .ins _ _, 0, h => by unfold lay at h; cases h
  | .ins _ _, _ + 1, h => by unfold lay at h; cases h
theorem lays_ok : ∀ (xs : List Tr) (n : Nat), lays n xs = true → ∃ ds, pds xs = some ds ∧ PyData.canLayAll0 ds = true ∧ PyData.depthAll ds ≤ n
  | [], n, _ => ⟨[], by unfold pds; rfl, by simp [PyData.canLayAll0], by simp [PyData.depthAll]⟩
  | x :: xs, n, h => by
    unfold lays at h
    rw [Bool.and_eq_true] at h
    obtain ⟨d, h1, h2, h3⟩ := lay_ok x n h.1
    obtain ⟨ds, h4, h5, h6⟩ := lays_ok xs n h.2
    exact ⟨d :: ds, by unfold pds; rw [h1, h4]; rfl, by simp [PyData.canLayAll0, h2, h5], by simp [PyData.depthAll]; omega⟩
end
def eqT (x y : Tr) : Bool := match pd x, pd y with
  | some d, some e => PyData.eqv d e
  | _, _ => false
theorem eqT_refl {x : Tr} (n : Nat) (h : lay n x = true) : eqT x x = true := by
  obtain ⟨d, h1, h2, _⟩ := lay_ok x n h
  unfold eqT
  rw [h1]
  exact SeqAt.eqv_refl d h2
theorem pds_ints : ∀ ns : List Int, pds (ns.map Tr.int) = some (ns.map PyData.int)
  | [] => by unfold pds; rfl
  | n :: ns => by
    rw [List.map_cons]
    unfold pds
    rw [pds_ints ns]
    unfold pd
    rfl
theorem eqvAll_ints : ∀ a b : List Int, PyData.eqvAll (a.map PyData.int) (b.map PyData.int) = decide (a = b)
  | [], [] => by simp [PyData.eqvAll]
  | _ :: _, [] => by simp [PyData.eqvAll]
  | [], _ :: _ => by simp [PyData.eqvAll]
  | x :: a, y :: b => by
    rw [List.map_cons, List.map_cons, PyData.eqvAll, eqvAll_ints a b, PyData.eqv]
    by_cases h1 : x = y
    · by_cases h2 : a = b <;> simp [h1, h2]
    · simp [h1]
theorem eqT_ints (a b : List Int) : eqT (.lst (a.map Tr.int)) (.lst (b.map Tr.int)) = decide (a = b) := by
  unfold eqT pd
  rw [pds_ints, pds_ints]
  show PyData.eqv (.list _) (.list _) = _
  rw [PyData.eqv]
  exact eqvAll_ints a b
theorem eqT_int (i j : Int) : eqT (.int i) (.int j) = decide (i = j) := by
  unfold eqT pd
  show PyData.eqv (.int i) (.int j) = _
  rw [PyData.eqv]
  by_cases h : i = j <;> simp [h]
theorem eqT_bl (i j : Bool) : eqT (.bl i) (.bl j) = decide (i = j) := by
  unfold eqT pd
  show PyData.eqv (.bool i) (.bool j) = _
  rw [PyData.eqv]
  by_cases h : i = j <;> simp [h]
theorem eqT_str (i j : Str) : eqT (.str i) (.str j) = decide (i = j) := by
  unfold eqT pd
  show PyData.eqv (.str i) (.str j) = _
  rw [PyData.eqv]
  by_cases h : i = j <;> simp [h]

/-! ### the data of a value -/
mutual
theorem Rep.dp {K : PySem.W.Frag} {mg : Str → Option Value} {R : Hp} : ∀ (x : Tr) (v : V) (d : PyData), Rep K mg R v x → pd x = some d → Dp K R v d
  | .non, _, _, h, e => by unfold pd at e; cases e; cases h; exact .non
  | .bl b, _, _, h, e => by unfold pd at e; cases e; cases h; exact .bl b
  | .int i, _, _, h, e => by unfold pd at e; cases e; cases h; exact .int i
  | .str s, _, _, h, e => by unfold pd at e; cases e; cases h; exact .str s
  | .lst ts, v, d, h, e => by
    unfold pd at e
    obtain ⟨a, xs, rfl, h1, h2⟩ := h.lst_inv
    cases q : pds ts with
    | none => rw [q] at e; cases e
    | some ds => rw [q] at e; cases e; exact .lst (.of h1) (Rep.dps ts xs ds h2 q)
  | .tup ts, v, d, h, e => by
    unfold pd at e
    obtain ⟨a, xs, rfl, h1, h2⟩ := h.tup_inv
    cases q : pds ts with
    | none => rw [q] at e; cases e
    | some ds => rw [q] at e; cases e; exact .tup (.of h1) (Rep.dps ts xs ds h2 q)
  | .ty _, _, _, _, e => by unfold pd at e; cases e
  | .cls _, _, _, _, e => by unfold pd at e; cases e
  | .scr _, _, _, _, e => by unfold pd at e; cases e
  | .dic _, _, _, _, e => by unfold pd at e; cases e
  | .ins _ _, _, _, _, e => by unfold pd at e; cases e
theorem Rep.dps {K : PySem.W.Frag} {mg : Str → Option Value} {R : Hp} : ∀ (ts : List Tr) (xs : List V) (ds : List PyData), Reps K mg R xs ts → pds ts = some ds → DpAll K R xs ds
  | [], _, _, h, e => by unfold pds at e; cases e; cases h; exact .nil
  | t :: ts, xs, ds, h, e => by
    unfold pds at e
    cases h with
    | cons r rs =>
      cases q : pd t with
      | none => rw [q] at e; cases e
      | some d =>
        rw [q] at e
        cases q2 : pds ts with
        | none => rw [q2] at e; cases e
        | some es => rw [q2] at e; cases e; exact .cons (Rep.dp t _ d r q) (Rep.dps ts _ es rs q2)
end

section
variable {K : PySem.W.Frag} {mg : Str → Option Value}
/-- == of data -/
def fEqD : O2 := fun m d e k => ∃ x y, view m d = some x ∧ view m e = some y ∧ lay 60 x = true ∧ lay 60 y = true ∧ k (.t (.bl (eqT x y)))
def fNeD : O2 := fun m d e k => ∃ x y, view m d = some x ∧ view m e = some y ∧ lay 60 x = true ∧ lay 60 y = true ∧ k (.t (.bl (!eqT x y)))
theorem lay_shaped {x : Tr} (h : lay 60 x = true) : ∃ d, pd x = some d ∧ SeqAt.shaped d = true := by
  obtain ⟨d, h1, h2, h3⟩ := lay_ok x 60 h
  exact ⟨d, h1, by unfold SeqAt.shaped; rw [h2, Bool.true_and]; exact decide_eq_true (by omega)⟩
theorem lo_eqD : Lo2 K mg (rEqD K) fEqD := by
  rintro Z P R as G m σ H v w d e k Q r h1 h2 ⟨x, y, e1, e2, l1, l2, q⟩ n
  obtain ⟨p, p1, p2⟩ := lay_shaped l1
  obtain ⟨p', p1', p2'⟩ := lay_shaped l2
  have r1 := r.repd h1 e1
  have r2 := r.repd h2 e2
  refine ⟨p, p', r1.dp _ _ _ p1, r2.dp _ _ _ p1', p2, p2', n (.t (.bl (PyData.eqv p p'))) _ R H ?_ .refl r (.t (.bl _))⟩
  have e : eqT x y = PyData.eqv p p' := by unfold eqT; rw [p1, p1']
  rw [← e]
  exact q
theorem lo_neD : Lo2 K mg (rNeD K) fNeD := by
  rintro Z P R as G m σ H v w d e k Q r h1 h2 ⟨x, y, e1, e2, l1, l2, q⟩ n
  obtain ⟨p, p1, p2⟩ := lay_shaped l1
  obtain ⟨p', p1', p2'⟩ := lay_shaped l2
  have r1 := r.repd h1 e1
  have r2 := r.repd h2 e2
  refine ⟨p, p', r1.dp _ _ _ p1, r2.dp _ _ _ p1', p2, p2', n (.t (.bl (!PyData.eqv p p'))) _ R H ?_ .refl r (.t (.bl _))⟩
  have e : eqT x y = PyData.eqv p p' := by unfold eqT; rw [p1, p1']
  rw [← e]
  exact q
/-- is None; is True, is False -/
def fIsN : O2 := fun m d e k => ∃ x, view m d = some x ∧ view m e = some .non ∧ k (.t (.bl x.isN))
def fNotN : O2 := fun m d e k => ∃ x, view m d = some x ∧ view m e = some .non ∧ k (.t (.bl (!x.isN)))
theorem rep_non {R : Hp} {v : V} {x : Tr} (h : Rep K mg R v x) : decide (v = .non) = x.isN := by
  cases h <;> simp [Tr.isN]
theorem lo_isN : Lo2 K mg (fun x y H Q => y = .non ∧ Q (.bl (decide (x = .non))) H) fIsN := by
  rintro Z P R as G m σ H v w d e k Q r h1 h2 ⟨x, e1, e2, q⟩ n
  refine ⟨r.vNon h2 e2, n _ _ R H q .refl r (.t ?_)⟩
  rw [rep_non (r.repd h1 e1)]
  exact .bl _
theorem lo_notN : Lo2 K mg (fun x y H Q => y = .non ∧ Q (.bl (!decide (x = .non))) H) fNotN := by
  rintro Z P R as G m σ H v w d e k Q r h1 h2 ⟨x, e1, e2, q⟩ n
  refine ⟨r.vNon h2 e2, n _ _ R H q .refl r (.t ?_)⟩
  rw [rep_non (r.repd h1 e1)]
  exact .bl _
def fIsB : O2 := fun m d e k => ∃ a b, view m d = some (.bl a) ∧ view m e = some (.bl b) ∧ k (.t (.bl (decide (a = b))))
def fNotB : O2 := fun m d e k => ∃ a b, view m d = some (.bl a) ∧ view m e = some (.bl b) ∧ k (.t (.bl (!decide (a = b))))
theorem lo_isB : Lo2 K mg rIsB fIsB := by
  rintro Z P R as G m σ H v w d e k Q r h1 h2 ⟨a, b, e1, e2, q⟩ n
  rw [r.vBl h1 e1, r.vBl h2 e2]
  exact ⟨a, b, rfl, rfl, n _ _ R H q .refl r (.t (.bl _))⟩
theorem lo_notB : Lo2 K mg rNotB fNotB := by
  rintro Z P R as G m σ H v w d e k Q r h1 h2 ⟨a, b, e1, e2, q⟩ n
  rw [r.vBl h1 e1, r.vBl h2 e2]
  exact ⟨a, b, rfl, rfl, n _ _ R H q .refl r (.t (.bl _))⟩
end
end VL

/-! VL, part D: subscripts, in, slices, chains, tests, displays. -/
namespace VL
open PySem L2

section
variable {X : Cx} {pins : List (Addr × Obj)} {σ : L2.St} {H : Hp} {s : Shared} {a : Addr} {y v : V} {u r : Value} {o : Option V}
def rDGet : R2 := fun x y H Q => ∃ a v, x = .ref a ∧ DGet H a y (some v) ∧ Q v H
theorem ix_dict (hu : X.A.units + 1 < cLine) : IxR X rDGet := by
  intro value slice pins s σ H x y v u Q I rx ry h hs
  obtain ⟨a, w, rfl, g, q⟩ := h
  cases rx
  refine PyProof.Rows.tail_any (ops := [.ref a, u]) (dict_typeIs I g) PySem.F.slot_dict_getitem.lookup ?_ hs
  exact d_getItem hu I g ry fun w' s' I' rw' => ⟨w, H, I', rw', q⟩
def rDIn : R2 := fun y x H Q => ∃ a o, x = .ref a ∧ DGet H a y o ∧ Q (.bl o.isSome) H
def rDNotIn : R2 := fun y x H Q => ∃ a o, x = .ref a ∧ DGet H a y o ∧ Q (.bl (!o.isSome)) H
theorem op_dIn (hu : X.A.units + 1 < cLine) : OpR X (compareOp .In) rDIn := by
  intro pins s σ H x y v u Q I rx ry h
  obtain ⟨a, o, rfl, g, q⟩ := h
  cases ry
  exact d_in hu I g rx fun s' I' => ⟨.bl _, H, I', rfl, q⟩
theorem op_dNotIn (hu : X.A.units + 1 < cLine) : OpR X (compareOp .NotIn) rDNotIn := by
  intro pins s σ H x y v u Q I rx ry h
  obtain ⟨a, o, rfl, g, q⟩ := h
  cases ry
  exact d_notIn hu I g rx fun s' I' => ⟨.bl _, H, I', rfl, q⟩
theorem op_or {f : Value → Value → Sem Value} {r r' : R2} (h : OpR X f r) (h' : OpR X f r') : OpR X f (fun x y H Q => r x y H Q ∨ r' x y H Q) := OpR.or h h'
end

/-- an item by its place, from behind below 0 -/
theorem atI_map {α β : Type} (f : α → β) (xs : List α) (i : Int) : atI (xs.map f) i = (atI xs i).map f := by
  unfold atI
  rw [List.length_map]
  cases ixN xs.length i with
  | none => rfl
  | some j => simp
theorem atI_pair {α β : Type} {F : α → β → Prop} {xs : List α} {ts : List β} (h : Paired F xs ts) {i : Int} {t : β} (e : atI ts i = some t) : ∃ x, atI xs i = some x ∧ F x t := by
  unfold atI at e ⊢
  rw [Paired.length h]
  cases q : ixN ts.length i with
  | none => rw [q] at e; cases e
  | some j =>
    rw [q] at e
    have e : ts[j]? = some t := e
    have hl := Paired.length h
    obtain ⟨hi, _⟩ := List.getElem?_eq_some_iff.mp e
    have hx : xs[j]? = some (xs[j]'(by omega)) := List.getElem?_eq_getElem (by omega)
    exact ⟨_, hx, paired_at h j _ _ hx e⟩
/-- a key of a dict -/
def kT : Key → Tr
  | .inl i => .int i
  | .inr x => .str x
def lookT (kvs : List (Key × Tr)) (k : Key) : Option Tr := (kvs.find? fun p => decide (p.1 = k)).map (·.2)
section
variable {K : PySem.W.Frag} {mg : Str → Option Value}
def fIxL : O2 := fun m d e k => ∃ ts i t, view m d = some (.lst ts) ∧ view m e = some (.int i) ∧ atI ts i = some t ∧ k (.t t)
def fIxT : O2 := fun m d e k => ∃ ts i t, view m d = some (.tup ts) ∧ view m e = some (.int i) ∧ atI ts i = some t ∧ k (.t t)
def fIxR : O2 := fun m d e k => ∃ ns i n, view m d = some (.scr ns) ∧ view m e = some (.int i) ∧ atI ns i = some n ∧ k (.t (.int n))
def fIxS : O2 := fun m d e k => ∃ z i c, view m d = some (.str z) ∧ view m e = some (.int i) ∧ z.length ≤ sizeLine ∧ atI z.cps.toList i = some c ∧ k (.t (.str ⟨#[c]⟩))
theorem lo_ixL : Lo2 K mg (rIxL K) fIxL := by
  rintro Z P R as G m σ H v w d e k Q r h1 h2 ⟨ts, i, t, e1, e2, ha, q⟩ n
  obtain ⟨a, xs, rfl, hx, rx⟩ := r.vLst h1 e1
  rw [r.vInt h2 e2]
  obtain ⟨x, hx', rt⟩ := atI_pair rx ha
  exact ⟨a, xs, i, x, rfl, rfl, .of hx, hx', n _ _ R H q .refl r (.t rt)⟩
theorem lo_ixR : Lo2 K mg (rIxL K) fIxR := by
  rintro Z P R as G m σ H v w d e k Q r h1 h2 ⟨ns, i, t, e1, e2, ha, q⟩ n
  obtain ⟨a, rfl, hx⟩ := r.vScr h1 e1
  rw [r.vInt h2 e2]
  exact ⟨a, _, i, .int t, rfl, rfl, hx, by rw [atI_map, ha]; rfl, n _ _ R H q .refl r (.t (.int t))⟩
theorem lo_ixT : Lo2 K mg (rIxT K) fIxT := by
  rintro Z P R as G m σ H v w d e k Q r h1 h2 ⟨ts, i, t, e1, e2, ha, q⟩ n
  obtain ⟨a, xs, rfl, hx, rx⟩ := r.vTup h1 e1
  rw [r.vInt h2 e2]
  obtain ⟨x, hx', rt⟩ := atI_pair rx ha
  exact ⟨a, xs, i, x, rfl, rfl, .of hx, hx', n _ _ R H q .refl r (.t rt)⟩
theorem lo_ixS : Lo2 K mg rIxS fIxS := by
  rintro Z P R as G m σ H v w d e k Q r h1 h2 ⟨z, i, c, e1, e2, hz, ha, q⟩ n
  rw [r.vStr h1 e1, r.vInt h2 e2]
  exact ⟨z, i, c, rfl, rfl, hz, ha, n _ _ R H q .refl r (.t (.str _))⟩
theorem key_rep {R : Hp} {v : V} {k : Key} (h : Rep K mg R v (kT k)) : v = kV k := by
  cases k <;> cases h <;> rfl
theorem val_pair {R : Hp} : ∀ {xs : List (Key × V)} {ts : List (Key × Tr)}, RepsP K mg R xs ts → ∀ k : Key, (∀ t, lookT ts k = some t → ∃ x, valV xs k = some x ∧ Rep K mg R x t) ∧ (lookT ts k = none → valV xs k = none)
  | _, _, .nil, k => ⟨fun t h => by simp [lookT] at h, fun _ => rfl⟩
  | (k1, x) :: xs, (k2, y) :: ts, .cons r rs, k => by
    obtain ⟨h1, h2⟩ := val_pair rs k
    have e : k1 = k2 := r.1
    subst e
    by_cases hk : k1 = k
    · subst hk
      refine ⟨fun t h => ?_, fun h => ?_⟩
      · simp [lookT] at h
        subst h
        exact ⟨x, by simp [valV], r.2⟩
      · simp [lookT] at h
    · refine ⟨fun t h => ?_, fun h => ?_⟩
      · have h' : lookT ts k = some t := by simpa [lookT, hk] using h
        obtain ⟨x', q1, q2⟩ := h1 t h'
        exact ⟨x', by simpa [valV, hk] using q1, q2⟩
      · have h' : lookT ts k = none := by simpa [lookT, hk] using h
        simpa [valV, hk] using h2 h'
def fDGet : O2 := fun m d e k => ∃ ts ky t, view m d = some (.dic ts) ∧ view m e = some (kT ky) ∧ lookT ts ky = some t ∧ k (.t t)
theorem Rel.vKey {Z : Rsc} {P : Pm} {R H : Hp} {as : List Addr} {G : Env} {m : Sto} {σ : L2.St} {v : V} {d : Dv} {ky : Key} (r : Rel K mg Z P R as G m σ H) (h : DRep K mg R P.hd as v d) (e : view m d = some (kT ky)) : v = kV ky := key_rep (r.repd h e)
theorem lo_dget : Lo2 K mg rDGet fDGet := by
  rintro Z P R as G m σ H v w d e k Q r h1 h2 ⟨ts, ky, t, e1, e2, ha, q⟩ n
  obtain ⟨a, xs, rfl, hx, rx⟩ := r.vDic h1 e1
  rw [r.vKey h2 e2]
  obtain ⟨x, hx', rt⟩ := (val_pair rx ky).1 t ha
  exact ⟨a, x, rfl, .inl ⟨xs, ky, hx, rfl, hx'.symm⟩, n _ _ R H q .refl r (.t rt)⟩
def fDIn : O2 := fun m d e k => ∃ ts ky, view m e = some (.dic ts) ∧ view m d = some (kT ky) ∧ k (.t (.bl (lookT ts ky).isSome))
def fDNotIn : O2 := fun m d e k => ∃ ts ky, view m e = some (.dic ts) ∧ view m d = some (kT ky) ∧ k (.t (.bl (!(lookT ts ky).isSome)))
theorem val_isSome {R : Hp} {xs : List (Key × V)} {ts : List (Key × Tr)} (h : RepsP K mg R xs ts) (ky : Key) : (valV xs ky).isSome = (lookT ts ky).isSome := by
  obtain ⟨h1, h2⟩ := val_pair h ky
  cases e : lookT ts ky with
  | none => rw [h2 e]; rfl
  | some t => obtain ⟨x, q, _⟩ := h1 t e; rw [q]; rfl
theorem lo_dIn : Lo2 K mg rDIn fDIn := by
  rintro Z P R as G m σ H v w d e k Q r h1 h2 ⟨ts, ky, e1, e2, q⟩ n
  obtain ⟨a, xs, rfl, hx, rx⟩ := r.vDic h2 e1
  rw [r.vKey h1 e2]
  refine ⟨a, valV xs ky, rfl, .inl ⟨xs, ky, hx, rfl, rfl⟩, n _ _ R H q .refl r (.t ?_)⟩
  rw [val_isSome rx]
  exact .bl _
theorem lo_dNotIn : Lo2 K mg rDNotIn fDNotIn := by
  rintro Z P R as G m σ H v w d e k Q r h1 h2 ⟨ts, ky, e1, e2, q⟩ n
  obtain ⟨a, xs, rfl, hx, rx⟩ := r.vDic h2 e1
  rw [r.vKey h1 e2]
  refine ⟨a, valV xs ky, rfl, .inl ⟨xs, ky, hx, rfl, rfl⟩, n _ _ R H q .refl r (.t ?_)⟩
  rw [val_isSome rx]
  exact .bl _
/-- flat things in a list or a tuple -/
def flatEq : Tr → Tr → Bool
  | .non, .non => true
  | .bl a, .bl b => a == b
  | .int a, .int b => a == b
  | .bl a, .int b => (if a then 1 else 0) == b
  | .int a, .bl b => a == (if b then 1 else 0)
  | .str a, .str b => a == b
  | _, _ => false
def flatE : Tr → Bool
  | .non => true | .bl _ => true | .int _ => true | .str _ => true
  | _ => false
theorem flat_eq {R : Hp} {v w : V} {x y : Tr} (h : Rep K mg R v x) (h' : Rep K mg R w y) (f : flatE x = true) (f' : flatE y = true) : flatV v = true ∧ flatV w = true ∧ eqV v w = flatEq x y := by
  cases h <;> (first | cases f | skip) <;> cases h' <;> (first | cases f' | skip) <;> (refine ⟨rfl, rfl, ?_⟩) <;> simp [eqV, flatEq]
def fIn (neg : Bool) : O2 := fun m d e k => ∃ x ts, view m d = some x ∧ (view m e = some (.lst ts) ∨ view m e = some (.tup ts)) ∧ flatE x = true ∧ ts.all flatE = true ∧ k (.t (.bl (if neg then !(ts.any fun y => flatEq y x) else ts.any fun y => flatEq y x)))
theorem in_all {R : Hp} {v : V} {x : Tr} (h : Rep K mg R v x) (f : flatE x = true) : ∀ {xs : List V} {ts : List Tr}, Reps K mg R xs ts → ts.all flatE = true → flatV v = true ∧ xs.all flatV = true ∧ inV v xs = ts.any fun y => flatEq y x
  | _, _, .nil, _ => ⟨(flat_eq h h f f).1, rfl, rfl⟩
  | a :: xs, t :: ts, .cons r rs, g => by
    rw [List.all_cons, Bool.and_eq_true] at g
    obtain ⟨h1, h2, h3⟩ := in_all h f rs g.2
    obtain ⟨q1, q2, q3⟩ := flat_eq r h g.1 f
    refine ⟨h1, by rw [List.all_cons, q1, h2]; rfl, ?_⟩
    show (a :: xs).any (fun y => eqV y v) = _
    rw [List.any_cons, List.any_cons, q3]
    congr 1
theorem lo_in (neg : Bool) : Lo2 K mg (rIn K neg) (fIn neg) := by
  rintro Z P R as G m σ H v w d e k Q r h1 h2 ⟨x, ts, e1, e2, f1, f2, q⟩ n
  have rv := r.repd h1 e1
  rcases e2 with e2 | e2
  · obtain ⟨a, xs, rfl, hx, rx⟩ := r.vLst h2 e2
    obtain ⟨q1, q2, q3⟩ := in_all rv f1 (Reps.mono r.ex rx) f2
    refine ⟨a, xs, rfl, .inl (.of hx), q1, q2, n _ _ R H q .refl r (.t ?_)⟩
    rw [q3]
    exact .bl _
  · obtain ⟨a, xs, rfl, hx, rx⟩ := r.vTup h2 e2
    obtain ⟨q1, q2, q3⟩ := in_all rv f1 (Reps.mono r.ex rx) f2
    refine ⟨a, xs, rfl, .inr (.of hx), q1, q2, n _ _ R H q .refl r (.t ?_)⟩
    rw [q3]
    exact .bl _
def fInS (neg : Bool) : O2 := fun m d e k => ∃ (c : Nat) (z : Str), view m d = some (.str ⟨#[c]⟩) ∧ view m e = some (.str z) ∧ k (.t (.bl (if neg then !decide (c ∈ z.cps.toList) else decide (c ∈ z.cps.toList))))
theorem lo_inS : Lo2 K mg (fun x y H Q => ∃ (c : Nat) (z : Str), x = .str ⟨#[c]⟩ ∧ y = .str z ∧ Q (.bl (decide (c ∈ z.cps.toList))) H) (fInS false) := by
  rintro Z P R as G m σ H v w d e k Q r h1 h2 ⟨c, z, e1, e2, q⟩ n
  rw [r.vStr h1 e1, r.vStr h2 e2]
  exact ⟨c, z, rfl, rfl, n _ _ R H q .refl r (.t (.bl _))⟩
theorem lo_notInS : Lo2 K mg (fun x y H Q => ∃ (c : Nat) (z : Str), x = .str ⟨#[c]⟩ ∧ y = .str z ∧ Q (.bl (!decide (c ∈ z.cps.toList))) H) (fInS true) := by
  rintro Z P R as G m σ H v w d e k Q r h1 h2 ⟨c, z, e1, e2, q⟩ n
  rw [r.vStr h1 e1, r.vStr h2 e2]
  exact ⟨c, z, rfl, rfl, n _ _ R H q .refl r (.t (.bl _))⟩
end
end VL

/-! VL, part E: slices, chains, tests, displays, built-in calls. -/
namespace VL
open PySem L2

/-! ### slices -/
abbrev VO := Env → Sto → (Option Int → Prop) → XK → Prop
structure KnO (K : PySem.W.Frag) (mg : Str → Option Value) (Z : Rsc) (W : WX) (P : Pm) (R : Hp) (as : List Addr) (G : Env) (m : Sto) (σ : L2.St) (H : Hp) (k : Option Int → Prop) (x : XK) (Q : Option Int → Hp → Prop) : Prop where
  ok : ∀ b R' H', k b → Nx P R H R' H' → Rel K mg Z P R' as G m σ H' → Q b H'
  er : ∀ nm cl R' H', x nm → mg nm = some cl → Nx P R H R' H' → Rel K mg Z P R' as G m σ H' → W cl none σ H'
def LO (K : PySem.W.Frag) (mg : Str → Option Value) (Z : Rsc) (W : WX) (e : VO) : TO := fun σ H Q => ∃ P R as G m k x, Rel K mg Z P R as G m σ H ∧ e G m k x ∧ KnO K mg Z W P R as G m σ H k x Q
abbrev voN : VO := fun _ _ k _ => k none
abbrev voS (e : VE) : VO := fun G m k x => e G m (fun d => ∃ i, view m d = some (.int i) ∧ k (some i)) x
theorem PO.imp {X : Cx} {e : Option Expr} {t t' : TO} (h : PO X e t) (hi : ∀ σ H Q, t' σ H Q → t σ H Q) : PO X e t' := ⟨fun pins s σ H Q I q => h.run pins s σ H Q I (hi σ H Q q)⟩
def cutG {α : Type} (xs : List α) (lo hi : Option Int) : List α := (xs.drop (HT.sIx xs.length 0 lo)).take (HT.sIx xs.length xs.length hi - HT.sIx xs.length 0 lo)
theorem cutG_map {α β : Type} (f : α → β) (xs : List α) (lo hi : Option Int) : cutG (xs.map f) lo hi = (cutG xs lo hi).map f := by
  unfold cutG
  rw [List.length_map, List.map_take, List.map_drop]
theorem paired_cut {α β : Type} {F : α → β → Prop} {xs : List α} {ts : List β} (h : Paired F xs ts) (lo hi : Option Int) : Paired F (cutG xs lo hi) (cutG ts lo hi) := by
  unfold cutG
  rw [Paired.length h]
  exact paired_take _ (paired_drop _ h)
abbrev OS := Sto → Dv → Option Int → Option Int → DK → Prop
abbrev vSl (f : OS) (e : VE) (lo hi : VO) : VE := fun G m k x => e G m (fun d => lo G m (fun l => hi G m (fun u => f m d l u k) x) x) x
def LoS (K : PySem.W.Frag) (mg : Str → Option Value) (r : V → Option Int → Option Int → Hp → VK → Prop) (f : OS) : Prop := ∀ (Z : Rsc) P R as G m σ H v d l u k Q, Rel K mg Z P R as G m σ H → DRep K mg R P.hd as v d → f m d l u k →
  (∀ z w R' H', k z → Nx P R H R' H' → Rel K mg Z P R' as G m σ H' → DRep K mg R' P.hd as w z → Q w H') → r v l u H Q
theorem LoS.or {K : PySem.W.Frag} {mg : Str → Option Value} {r r' : V → Option Int → Option Int → Hp → VK → Prop} {f f' : OS} (h : LoS K mg r f) (h' : LoS K mg r' f') : LoS K mg (fun x l u H Q => r x l u H Q ∨ r' x l u H Q) (fun m d l u k => f m d l u k ∨ f' m d l u k) :=
  fun Z P R as G m σ H v d l u k Q a b q n => q.elim (fun q => .inl (h Z P R as G m σ H v d l u _ Q a b q n)) fun q => .inr (h' Z P R as G m σ H v d l u _ Q a b q n)
section
variable {X : Cx} {Z : Rsc} {W : WX} {e a b : Expr} {lo hi : Option Expr} {ve ea eb : VE} {vl vh : VO} {pos p2 : Pos}
theorem vo_none : PO X none (LO X.K X.mg Z W voN) := PO.imp po_none fun σ H Q ⟨P, R, as, G, m, k, x, r, hk, n⟩ => n.ok _ R H hk .refl r
theorem vo_some (h : PE X e (LE X.K X.mg Z W ve)) : PO X (some e) (LO X.K X.mg Z W (voS ve)) := PO.imp (po_some h) fun σ H Q ⟨P, R, as, G, m, k, x, r, hk, n⟩ =>
  LE.go r hk (fun d v R1 H1 ⟨i, e1, h1⟩ n1 r1 d1 => ⟨i, r1.vInt d1 e1, n.ok _ R1 H1 h1 n1 r1⟩) n.er
theorem v_sl {r : V → Option Int → Option Int → Hp → VK → Prop} {f : OS} (hr : SlR X r) (lr : LoS X.K X.mg r f) (he : PE X e (LE X.K X.mg Z W ve)) (hl : PO X lo (LO X.K X.mg Z W vl)) (hu : PO X hi (LO X.K X.mg Z W vh)) :
    PE X (.Subscript e (.Slice lo hi none p2) pos) (LE X.K X.mg Z W (vSl f ve vl vh)) :=
  PE.imp (pe_slice hr he hl hu) fun σ H Q ⟨P, R, as, G, m, k, x, r, hk, n⟩ => LE.go r hk (fun d v R1 H1 h1 n1 r1 d1 =>
    ⟨P, R1, as, G, m, _, x, r1, h1, fun l R2 H2 h2 n2 r2 => ⟨P, R2, as, G, m, _, x, r2, h2, fun u R3 H3 h3 n3 r3 => lr Z P R3 as G m σ H3 v d l u k Q r3 (d1.mono (n2.r.trans n3.r)) h3 fun z w R4 H4 h4 n4 r4 d4 => n.ok z w R4 H4 h4 (((n1.trans n2).trans n3).trans n4) r4 d4,
      (n.step (n1.trans n2)).er⟩, (n.step n1).er⟩) n.er
abbrev vRev (e : VE) : VE := fun G m k x => e G m (fun d => ∃ ts, view m d = some (.lst ts) ∧ k (.t (.lst ts.reverse))) x
theorem v_rev {j : Nat} {p1 p3 p4 : Pos} (he : PE X e (LE X.K X.mg Z W ve)) : PE X (.Subscript e (.Slice none none (some (.UnaryOp .USub (.Constant (.int 1) j p1) p3)) p4) pos) (LE X.K X.mg Z W (vRev ve)) :=
  PE.imp (pe_revL he) fun σ H Q ⟨P, R, as, G, m, k, x, r, hk, n⟩ => LE.go r hk (fun d v R1 H1 ⟨ts, e1, h1⟩ n1 r1 d1 => by
    obtain ⟨a, xs, rfl, ha, ra⟩ := r1.vLst d1 e1
    refine ⟨a, xs, rfl, .of ha, fun p hp => ?_⟩
    obtain ⟨r', n'⟩ := r1.laid (o := .lst xs.reverse) hp
    exact n.ok _ _ _ _ h1 (n1.trans n') r' (.t (.lstP upd_same (paired_reverse (Reps.mono n'.r ra))))) n.er
end
section
variable {K : PySem.W.Frag} {mg : Str → Option Value}
def fSlL : OS := fun m d l u k => ∃ ts, view m d = some (.lst ts) ∧ k (.t (.lst (cutG ts l u)))
def fSlR : OS := fun m d l u k => ∃ ns, view m d = some (.scr ns) ∧ k (.t (.lst ((cutG ns l u).map .int)))
def fSlT : OS := fun m d l u k => ∃ ts, view m d = some (.tup ts) ∧ ¬ (HT.sIx ts.length 0 l = 0 ∧ HT.sIx ts.length ts.length u = ts.length) ∧ k (.t (.tup (cutG ts l u)))
def fSlS : OS := fun m d l u k => ∃ z, view m d = some (.str z) ∧ z.length ≤ sizeLine ∧ k (.t (.str (cutS z l u)))
theorem los_L : LoS K mg (rSlL K) fSlL := by
  rintro Z P R as G m σ H v d l u k Q r h1 ⟨ts, e1, q⟩ n
  obtain ⟨a, xs, rfl, ha, ra⟩ := r.vLst h1 e1
  refine ⟨a, xs, rfl, .of ha, fun p hp => ?_⟩
  obtain ⟨r', n'⟩ := r.laid (o := .lst (cutG xs l u)) hp
  exact n _ _ _ _ q n' r' (.t (.lstP upd_same (paired_cut (Reps.mono n'.r ra) l u)))
theorem los_R : LoS K mg (rSlL K) fSlR := by
  rintro Z P R as G m σ H v d l u k Q r h1 ⟨ns, e1, q⟩ n
  obtain ⟨a, rfl, ha⟩ := r.vScr h1 e1
  refine ⟨a, _, rfl, ha, fun p hp => ?_⟩
  obtain ⟨r', n'⟩ := r.laid (o := .lst (cutG (ns.map V.int) l u)) hp
  refine n _ _ _ _ q n' r' (.t (.lstP upd_same ?_))
  rw [cutG_map]
  exact ints_reps _
theorem los_T : LoS K mg (rSlT K) fSlT := by
  rintro Z P R as G m σ H v d l u k Q r h1 ⟨ts, e1, hn, q⟩ n
  obtain ⟨a, xs, rfl, ha, ra⟩ := r.vTup h1 e1
  refine ⟨a, xs, rfl, .of ha, by rw [Paired.length ra]; exact hn, fun p hp => ?_⟩
  obtain ⟨r', n'⟩ := r.laid (o := .tup (cutG xs l u)) hp
  exact n _ _ _ _ q n' r' (.t (.tupP upd_same (paired_cut (Reps.mono n'.r ra) l u)))
theorem los_S : LoS K mg rSlS fSlS := by
  rintro Z P R as G m σ H v d l u k Q r h1 ⟨z, e1, hz, q⟩ n
  rw [r.vStr h1 e1]
  exact ⟨z, rfl, hz, n _ _ R H q .refl r (.t (.str _))⟩
end

/-! ### tests -/
abbrev vtB (e : VE) : VT := fun G m k x => e G m (fun d => ∃ b, view m d = some (.bl b) ∧ k b) x
def truT : Tr → Option Bool
  | .non => some false
  | .bl b => some b
  | .int i => some (i != 0)
  | .lst ts => some (!ts.isEmpty)
  | .tup ts => some (!ts.isEmpty)
  | .scr ts => some (!ts.isEmpty)
  | _ => none
abbrev vtT (e : VE) : VT := fun G m k x => e G m (fun d => ∃ t b, view m d = some t ∧ truT t = some b ∧ k b) x
abbrev vtAnd (a b : VT) : VT := fun G m k x => a G m (fun c => (c = true → b G m k x) ∧ (c = false → k false)) x
abbrev vtOr (a b : VT) : VT := fun G m k x => a G m (fun c => (c = true → k true) ∧ (c = false → b G m k x)) x
abbrev vtNot (a : VT) : VT := fun G m k x => a G m (fun c => k (!c)) x
abbrev vAnd (a b : VE) : VE := fun G m k x => a G m (fun d => ∃ c, view m d = some (.bl c) ∧ (c = true → b G m k x) ∧ (c = false → k (.t (.bl false)))) x
abbrev vOr (a b : VE) : VE := fun G m k x => a G m (fun d => ∃ c, view m d = some (.bl c) ∧ (c = true → k (.t (.bl true))) ∧ (c = false → b G m k x)) x
abbrev vNot (a : VE) : VE := fun G m k x => a G m (fun d => ∃ c, view m d = some (.bl c) ∧ k (.t (.bl (!c)))) x
abbrev vIf (t : VT) (a b : VE) : VE := fun G m k x => t G m (fun c => (c = true → a G m k x) ∧ (c = false → b G m k x)) x
abbrev vNeg (e : VE) : VE := fun G m k x => e G m (fun d => ∃ i, view m d = some (.int i) ∧ k (.t (.int (-i)))) x
abbrev vCh (f g : O2) (a b c : VE) : VE := fun G m k x => a G m (fun d => b G m (fun e => f m d e (fun z => ∃ q, view m z = some (.bl q) ∧ (q = true → c G m (fun e2 => g m e e2 k) x) ∧ (q = false → k (.t (.bl false))))) x) x
theorem lt_B {K : PySem.W.Frag} {mg : Str → Option Value} {Z : Rsc} {W : WX} {e : VE} : ∀ σ H Q, LT K mg Z W (vtB e) σ H Q → tB (LE K mg Z W e) σ H Q := fun σ H Q ⟨P, R, as, G, m, k, x, r, hk, n⟩ =>
  LE.go r hk (fun d v R1 H1 ⟨b, e1, h1⟩ n1 r1 d1 => ⟨b, r1.vBl d1 e1, n.ok _ R1 H1 h1 n1 r1⟩) n.er
theorem le_chain {K : PySem.W.Frag} {mg : Str → Option Value} {Z : Rsc} {W : WX} {r r' : R2} {f g : O2} {a b c : VE} (hr : Lo2 K mg r f) (hr' : Lo2 K mg r' g) : ∀ σ H Q, LE K mg Z W (vCh f g a b c) σ H Q → tChain r r' (LE K mg Z W a) (LE K mg Z W b) (LE K mg Z W c) σ H Q :=
  fun σ H Q ⟨P, R, as, G, m, k, x, r0, hk, n⟩ => LE.go r0 hk (fun d v R1 H1 h1 n1 r1 d1 => LE.go r1 h1 (fun e w R2 H2 h2 n2 r2 d2 =>
    hr Z P R2 as G m σ H2 v w d e _ _ r2 (d1.mono n2.r) d2 h2 fun z u R3 H3 ⟨q, e3, h3, h3'⟩ n3 r3 d3 => ⟨q, r3.vBl d3 e3, by
      cases q with
      | true =>
        rw [if_pos rfl]
        exact LE.go r3 (h3 rfl) (fun e2 w2 R4 H4 h4 n4 r4 d4 => hr' Z P R4 as G m σ H4 w w2 e e2 k Q r4 (d2.mono (n3.r.trans n4.r)) d4 h4 fun z2 u2 R5 H5 h5 n5 r5 d5 => n.ok z2 u2 R5 H5 h5 ((((n1.trans n2).trans n3).trans n4).trans n5) r5 d5) (n.step ((n1.trans n2).trans n3)).er
      | false =>
        rw [if_neg Bool.false_ne_true]
        exact n.ok _ _ R3 H3 (h3' rfl) ((n1.trans n2).trans n3) r3 (.t (.bl false))⟩) (n.step n1).er) n.er
section
variable {X : Cx} {Z : Rsc} {W : WX} {e a b c : Expr} {rest : List Expr} {ve ea eb ec : VE} {ta tb : VT} {pos : Pos}
theorem vt_val (h : PE X e (LE X.K X.mg Z W ve)) (he : ∀ whole, isTrue e X.env whole = (do let v ← whole; standAt e.pos; holding [v] (truthy v)) := by intro _; rfl) : PT X e (LT X.K X.mg Z W (vtB ve)) := PT.imp (pt_val h he) lt_B
theorem vt_cmp {op : CmpOp} {r : R2} {f : O2} (ho : OpR X (compareOp op) r) (hr : Lo2 X.K X.mg r f) (ha : PE X a (LE X.K X.mg Z W ea)) (hb : PE X b (LE X.K X.mg Z W eb)) (hm : behindInMarks op b = false) : PT X (.Compare a [op] [b] pos) (LT X.K X.mg Z W (vtB (vOp f ea eb))) :=
  PT.imp (pt_cmpR ho ha hb hm) fun σ H Q h => lo2 hr σ H _ (lt_B σ H Q h)
theorem v_chain {op op' : CmpOp} {r r' : R2} {f g : O2} (ho : OpR X (compareOp op) r) (ho' : OpR X (compareOp op') r') (hr : Lo2 X.K X.mg r f) (hr' : Lo2 X.K X.mg r' g) (ha : PE X a (LE X.K X.mg Z W ea)) (hb : PE X b (LE X.K X.mg Z W eb)) (hc : PE X c (LE X.K X.mg Z W ec))
    (hm : lastMarks [op, op'] [b, c] = false := by with_unfolding_all rfl) : PE X (.Compare a [op, op'] [b, c] pos) (LE X.K X.mg Z W (vCh f g ea eb ec)) := PE.imp (pe_chain ho ho' ha hb hc hm) (le_chain hr hr')
theorem vt_chain {op op' : CmpOp} {r r' : R2} {f g : O2} (ho : OpR X (compareOp op) r) (ho' : OpR X (compareOp op') r') (hr : Lo2 X.K X.mg r f) (hr' : Lo2 X.K X.mg r' g) (ha : PE X a (LE X.K X.mg Z W ea)) (hb : PE X b (LE X.K X.mg Z W eb)) (hc : PE X c (LE X.K X.mg Z W ec))
    (hm : lastMarks [op, op'] [b, c] = false := by with_unfolding_all rfl) : PT X (.Compare a [op, op'] [b, c] pos) (LT X.K X.mg Z W (vtB (vCh f g ea eb ec))) := PT.imp (pt_chain ho ho' ha hb hc hm) fun σ H Q h => le_chain hr hr' σ H _ (lt_B σ H Q h)
theorem empty_len {α β : Type} {xs : List α} {ts : List β} (h : xs.length = ts.length) : (!xs.isEmpty) = !ts.isEmpty := by
  cases xs <;> cases ts <;> simp_all
theorem truV_of {K : PySem.W.Frag} {mg : Str → Option Value} {H : Hp} {v : V} {t : Tr} {b : Bool} (q : Rep K mg H v t) (e2 : truT t = some b) : TruV K v H b := by
  cases q with
  | non => cases e2; rfl
  | bl b => cases e2; rfl
  | int i => cases e2; rfl
  | str s => cases e2
  | ty n => cases e2
  | cls h => cases e2
  | scr h => cases e2; exact .inl ⟨_, h, by simp⟩
  | lst h l f =>
    cases e2
    refine .inl ⟨_, .of h, ?_⟩
    exact empty_len l.symm
  | tup h l f =>
    cases e2
    refine .inr (.inl ⟨_, .of h, ?_⟩)
    exact empty_len l.symm
  | dic h l f => cases e2
  | ins m h l f => cases e2
theorem vt_truth (h : PE X e (LE X.K X.mg Z W ve)) (he : ∀ whole, isTrue e X.env whole = (do let v ← whole; standAt e.pos; holding [v] (truthy v)) := by intro _; rfl) : PT X e (LT X.K X.mg Z W (vtT ve)) :=
  PT.imp (pt_truth h he) fun σ H Q ⟨P, R, as, G, m, k, x, r, hk, n⟩ => LE.go r hk (fun d v R1 H1 ⟨t, b, e1, e2, h1⟩ n1 r1 d1 => ⟨b, truV_of (r1.repd d1 e1) e2, n.ok _ R1 H1 h1 n1 r1⟩) n.er
theorem PW.imp {X : Cx} {e : Expr} {t t' : TT} (h : PW X e t) (hi : ∀ σ H Q, t' σ H Q → t σ H Q) : PW X e t' := ⟨fun w pins s σ H Q I q => h.run w pins s σ H Q I (hi σ H Q q)⟩
theorem vw_and1 (ha : PT X a (LT X.K X.mg Z W ta)) : PW X (.BoolOp .And [a] pos) (LT X.K X.mg Z W ta) := pw_and1 ha
theorem vw_or1 (ha : PT X a (LT X.K X.mg Z W ta)) : PW X (.BoolOp .Or [a] pos) (LT X.K X.mg Z W ta) := pw_or1 ha
theorem vw_and (ha : PT X a (LT X.K X.mg Z W ta)) (hb : PW X (.BoolOp .And (b :: rest) pos) (LT X.K X.mg Z W tb)) : PW X (.BoolOp .And (a :: b :: rest) pos) (LT X.K X.mg Z W (vtAnd ta tb)) :=
  PW.imp (pw_and ha hb) fun σ H Q ⟨P, R, as, G, m, k, x, r, hk, n⟩ => LT.go r hk (fun c R1 H1 ⟨h1, h2⟩ n1 r1 => by
    cases c with
    | true =>
      rw [if_pos rfl]
      exact ⟨P, R1, as, G, m, k, x, r1, h1 rfl, n.step n1⟩
    | false =>
      rw [if_neg Bool.false_ne_true]
      exact n.ok _ R1 H1 (h2 rfl) n1 r1) n.er
theorem vw_or (ha : PT X a (LT X.K X.mg Z W ta)) (hb : PW X (.BoolOp .Or (b :: rest) pos) (LT X.K X.mg Z W tb)) : PW X (.BoolOp .Or (a :: b :: rest) pos) (LT X.K X.mg Z W (vtOr ta tb)) :=
  PW.imp (pw_or ha hb) fun σ H Q ⟨P, R, as, G, m, k, x, r, hk, n⟩ => LT.go r hk (fun c R1 H1 ⟨h1, h2⟩ n1 r1 => by
    cases c with
    | false =>
      rw [if_neg Bool.false_ne_true]
      exact ⟨P, R1, as, G, m, k, x, r1, h2 rfl, n.step n1⟩
    | true =>
      rw [if_pos rfl]
      exact n.ok _ R1 H1 (h1 rfl) n1 r1) n.er
theorem vt_not (ha : PT X a (LT X.K X.mg Z W ta)) : PT X (.UnaryOp .Not a pos) (LT X.K X.mg Z W (vtNot ta)) :=
  PT.imp (pt_not ha) fun σ H Q ⟨P, R, as, G, m, k, x, r, hk, n⟩ => LT.go r hk (fun c R1 H1 h1 n1 r1 => n.ok _ R1 H1 h1 n1 r1) n.er
theorem v_one {op : BoolOp} (h : PE X a (LE X.K X.mg Z W ea)) : PE X (.BoolOp op [a] pos) (LE X.K X.mg Z W ea) := pe_one h
theorem v_and (ha : PE X a (LE X.K X.mg Z W ea)) (hb : PE X (.BoolOp .And (b :: rest) pos) (LE X.K X.mg Z W eb)) : PE X (.BoolOp .And (a :: b :: rest) pos) (LE X.K X.mg Z W (vAnd ea eb)) :=
  PE.imp (pe_and ha hb) fun σ H Q ⟨P, R, as, G, m, k, x, r, hk, n⟩ => LE.go r hk (fun d v R1 H1 ⟨c, e1, h1, h2⟩ n1 r1 d1 => ⟨c, r1.vBl d1 e1, by
    cases c with
    | true =>
      rw [if_pos rfl]
      exact ⟨P, R1, as, G, m, k, x, r1, h1 rfl, n.step n1⟩
    | false =>
      rw [if_neg Bool.false_ne_true]
      exact n.ok _ _ R1 H1 (h2 rfl) n1 r1 (.t (.bl false))⟩) n.er
theorem v_or (ha : PE X a (LE X.K X.mg Z W ea)) (hb : PE X (.BoolOp .Or (b :: rest) pos) (LE X.K X.mg Z W eb)) : PE X (.BoolOp .Or (a :: b :: rest) pos) (LE X.K X.mg Z W (vOr ea eb)) :=
  PE.imp (pe_or ha hb) fun σ H Q ⟨P, R, as, G, m, k, x, r, hk, n⟩ => LE.go r hk (fun d v R1 H1 ⟨c, e1, h1, h2⟩ n1 r1 d1 => ⟨c, r1.vBl d1 e1, by
    cases c with
    | false =>
      rw [if_neg Bool.false_ne_true]
      exact ⟨P, R1, as, G, m, k, x, r1, h2 rfl, n.step n1⟩
    | true =>
      rw [if_pos rfl]
      exact n.ok _ _ R1 H1 (h1 rfl) n1 r1 (.t (.bl true))⟩) n.er
theorem v_not (ha : PE X a (LE X.K X.mg Z W ea)) : PE X (.UnaryOp .Not a pos) (LE X.K X.mg Z W (vNot ea)) :=
  PE.imp (pe_not ha) fun σ H Q ⟨P, R, as, G, m, k, x, r, hk, n⟩ => LE.go r hk (fun d v R1 H1 ⟨c, e1, h1⟩ n1 r1 d1 => ⟨c, r1.vBl d1 e1, n.ok _ _ R1 H1 h1 n1 r1 (.t (.bl _))⟩) n.er
theorem v_ifExp (hc : PT X c (LT X.K X.mg Z W ta)) (ha : PE X a (LE X.K X.mg Z W ea)) (hb : PE X b (LE X.K X.mg Z W eb)) : PE X (.IfExp c a b pos) (LE X.K X.mg Z W (vIf ta ea eb)) :=
  PE.imp (pe_ifExp hc ha hb) fun σ H Q ⟨P, R, as, G, m, k, x, r, hk, n⟩ => LT.go r hk (fun c R1 H1 ⟨h1, h2⟩ n1 r1 => by
    cases c with
    | true =>
      rw [if_pos rfl]
      exact ⟨P, R1, as, G, m, k, x, r1, h1 rfl, n.step n1⟩
    | false =>
      rw [if_neg Bool.false_ne_true]
      exact ⟨P, R1, as, G, m, k, x, r1, h2 rfl, n.step n1⟩) n.er
theorem v_neg (ha : PE X a (LE X.K X.mg Z W ea)) : PE X (.UnaryOp .USub a pos) (LE X.K X.mg Z W (vNeg ea)) :=
  PE.imp (pe_un un_neg ha) fun σ H Q ⟨P, R, as, G, m, k, x, r, hk, n⟩ => LE.go r hk (fun d v R1 H1 ⟨i, e1, h1⟩ n1 r1 d1 => ⟨i, r1.vInt d1 e1, n.ok _ _ R1 H1 h1 n1 r1 (.t (.int _))⟩) n.er
end
end VL

/-! VL, part F: statements. -/
namespace VL
open PySem L2

abbrev SK := Env → Sto → Prop
abbrev RK := Dv → Sto → Prop
abbrev XS := Str → Sto → Prop
/-- a statement's reading: what is wanted next, of a return, a break, a continue, an exception -/
abbrev VS := SK → RK → SK → SK → XS → Env → Sto → Prop

structure Ke (K : PySem.W.Frag) (mg : Str → Option Value) (Z : Rsc) (W : WX) (P : Pm) (nx : SK) (rt : RK) (bk ct : SK) (ex : XS) (D : Ends) : Prop where
  nx : ∀ G m R as σ H, nx G m → Rel K mg Z P R as G m σ H → D.nx σ H
  rt : ∀ d m v R as G σ H, rt d m → Rel K mg Z P R as G m σ H → DRep K mg R P.hd as v d → D.rt v H
  bk : ∀ G m R as σ H, bk G m → Rel K mg Z P R as G m σ H → D.bk σ H
  ct : ∀ G m R as σ H, ct G m → Rel K mg Z P R as G m σ H → D.ct σ H
  ex : ∀ nm cl m R as G σ H, ex nm m → mg nm = some cl → Rel K mg Z P R as G m σ H → W cl none σ H
def LS (K : PySem.W.Frag) (mg : Str → Option Value) (Z : Rsc) (W : WX) (u : VS) : TS := fun D σ H => ∃ P R as G m nx rt bk ct ex, Rel K mg Z P R as G m σ H ∧ u nx rt bk ct ex G m ∧ Ke K mg Z W P nx rt bk ct ex D

section
variable {K : PySem.W.Frag} {mg : Str → Option Value} {Z : Rsc} {P : Pm} {R R' H H' : Hp} {as : List Addr} {G : Env} {m : Sto} {σ : L2.St}
/-- a name holds another thing -/
theorem Rel.set (r : Rel K mg Z P R as G m σ H) {i : Nat} {v : V} {d : Dv} (h : DRep K mg R P.hd as v d) : Rel K mg Z P R as (G.set i (some d)) m (σ.set i (some v)) H :=
  { r with
    len := by rw [List.length_set, List.length_set]; exact r.len
    env := fun i' d' e => by
      by_cases hi : i = i'
      · subst hi
        by_cases hl : i < G.length
        · rw [List.getElem?_set_self hl] at e
          cases e
          exact ⟨v, List.getElem?_set_self (by rw [← r.len]; exact hl), h⟩
        · rw [List.getElem?_eq_none (by rw [List.length_set]; omega)] at e
          cases e
      · rw [List.getElem?_set_ne hi] at e
        obtain ⟨x, h1, h2⟩ := r.env i' d' e
        exact ⟨x, by rw [List.getElem?_set_ne hi]; exact h1, h2⟩ }
/-- a name is forgotten -/
theorem Rel.drop (r : Rel K mg Z P R as G m σ H) (G' : Env) (hl : G'.length = G.length) (h : ∀ (i : Nat) d, G'[i]? = some (some d) → G[i]? = some (some d)) : Rel K mg Z P R as G' m σ H :=
  { r with len := hl.trans r.len, env := fun i d e => r.env i d (h i d e) }
theorem Rel.drop1 (r : Rel K mg Z P R as G m σ H) (i : Nat) : Rel K mg Z P R as (G.set i none) m σ H := r.drop _ (by rw [List.length_set]) fun i' d e => by
  by_cases hi : i = i'
  · subst hi
    by_cases hl : i < G.length
    · rw [List.getElem?_set_self hl] at e; cases e
    · rw [List.getElem?_eq_none (by rw [List.length_set]; omega)] at e; cases e
  · rw [List.getElem?_set_ne hi] at e; exact e
/-- an owned object is changed -/
theorem Rel.put (r : Rel K mg Z P R as G m σ H) {j : Nat} {x x' : Tr} {a : Addr} {o : HO} (hj : m[j]? = some (some x)) (ha : as[j]? = some a) (ho : Own K mg R (upd H a o) a x') : Rel K mg Z P R as G (m.set j (some x')) σ (upd H a o) := by
  obtain ⟨a', h1, h2, h3, h4, h5⟩ := r.sto j x hj
  rw [ha] at h1; cases h1
  have hjl : j < m.length := (List.getElem?_eq_some_iff.mp hj).1
  have live : ∀ (k : Nat) y, (m.set j (some x'))[k]? = some (some y) → ∃ y', m[k]? = some (some y') := fun k y e => by
    by_cases hk : j = k
    · subst hk; exact ⟨x, hj⟩
    · rw [List.getElem?_set_ne hk] at e; exact ⟨y, e⟩
  refine ⟨same_put h3 r.ex, r.len, r.env, fun k y e => ?_, fun k l y z b e1 e2 e3 e4 => ?_, Z.st _ _ _ _ (fun b hb => upd_ne fun z => h4 (by rw [← z]; exact hb)) r.vol, r.rb, fun b u e n1 n2 => ?_, fun b e => ?_, r.fresh, r.r0, by rw [List.length_set]; exact r.la⟩
  · by_cases hk : j = k
    · subst hk
      rw [List.getElem?_set_self hjl] at e
      cases e
      exact ⟨a, ha, ho, h3, h4, h5⟩
    · rw [List.getElem?_set_ne hk] at e
      obtain ⟨b, q1, q2, q3, q4, q5⟩ := r.sto k y e
      have hb : b ≠ a := fun z => hk (r.inj j k x y a hj e ha (by rw [← z]; exact q1))
      exact ⟨b, q1, q2.mono (Same.refl R) fun u q => by rw [upd_ne hb]; exact q, q3, q4, q5⟩
  · obtain ⟨y', e1'⟩ := live k y e1
    obtain ⟨z', e2'⟩ := live l z e2
    exact r.inj k l y' z' b e1' e2' e3 e4
  · have hb : b ≠ a := fun z => by
      subst z
      rcases h5 with h5 | h5
      · rw [h5] at e; cases e
      · exact n1 h5.1
    rw [upd_ne hb]
    exact r.frame b u e n1 n2
  · by_cases hb : b = a
    · subst hb; rw [upd_same]; simp
    · rw [upd_ne hb]; exact r.dom b e
/-- no name holds this site -/
def noLoc (j : Nat) : Env → Bool
  | [] => true
  | some (.loc k) :: r => (k != j) && noLoc j r
  | _ :: r => noLoc j r
theorem noLoc_at {j : Nat} : ∀ {G : Env}, noLoc j G = true → ∀ i : Nat, G[i]? ≠ some (some (.loc j))
  | [], _, i => by simp
  | none :: r, h, 0 => by simp
  | none :: r, h, i + 1 => by
    have h' : noLoc j r = true := h
    simpa using noLoc_at h' i
  | some (.t x) :: r, h, 0 => by simp
  | some (.t x) :: r, h, i + 1 => by
    have h' : noLoc j r = true := h
    simpa using noLoc_at h' i
  | some (.hnd x) :: r, h, 0 => by simp
  | some (.hnd x) :: r, h, i + 1 => by
    have h' : noLoc j r = true := h
    simpa using noLoc_at h' i
  | some (.loc k) :: r, h, 0 => by
    have h' : ((k != j) && noLoc j r) = true := h
    rw [Bool.and_eq_true] at h'
    have : k ≠ j := by simpa using h'.1
    simpa using this
  | some (.loc k) :: r, h, i + 1 => by
    have h' : ((k != j) && noLoc j r) = true := h
    rw [Bool.and_eq_true] at h'
    simpa using noLoc_at h'.2 i
/-- a new owned object at a site that no name holds -/
theorem Rel.new (r : Rel K mg Z P R as G m σ H) {j : Nat} {x : Tr} {p : Addr} {o : HO} (hp : H p = none) (hj : j < m.length) (hn : noLoc j G = true) (ho : Own K mg R (upd H p o) p x) : Rel K mg Z P R (as.set j p) G (m.set j (some x)) σ (upd H p o) := by
  have hja : j < as.length := by rw [r.la]; exact hj
  have old : ∀ (k : Nat) y, j ≠ k → (m.set j (some x))[k]? = some (some y) → m[k]? = some (some y) := fun k y hk e => by rw [List.getElem?_set_ne hk] at e; exact e
  have nas : ∀ (k : Nat) y, j ≠ k → (m.set j (some x))[k]? = some (some y) → (as.set j p)[k]? ≠ some p := fun k y hk e q => by
    rw [List.getElem?_set_ne hk] at q
    exact r.newA hp (old k y hk e) q
  refine ⟨same_put (r.newR hp) r.ex, r.len, fun i d e => ?_, fun k y e => ?_, fun k l y z b e1 e2 e3 e4 => ?_, Z.st _ _ _ _ (fun b hb => upd_ne fun z => r.newB hp (by rw [← z]; exact hb)) r.vol, r.rb, fun b u e n1 n2 => ?_, fun b e => ?_, r.fresh, r.r0, by rw [List.length_set, List.length_set]; exact r.la⟩
  · obtain ⟨v, h1, h2⟩ := r.env i d e
    refine ⟨v, h1, ?_⟩
    cases h2 with
    | t h => exact .t h
    | hnd i => exact .hnd i
    | @loc k a h =>
      refine .loc ?_
      have hk : j ≠ k := fun z => noLoc_at hn i (by rw [z]; exact e)
      rw [List.getElem?_set_ne hk]
      exact h
  · by_cases hk : j = k
    · subst hk
      rw [List.getElem?_set_self hj] at e
      cases e
      exact ⟨p, List.getElem?_set_self hja, ho, r.newR hp, r.newB hp, .inl (r.new0 hp)⟩
    · obtain ⟨b, q1, q2, q3, q4, q5⟩ := r.sto k y (old k y hk e)
      refine ⟨b, by rw [List.getElem?_set_ne hk]; exact q1, q2.mono (Same.refl R) fun u q => ?_, q3, q4, q5⟩
      rw [upd_ne (ne_of_none q hp)]
      exact q
  · by_cases hk : j = k
    · by_cases hl : j = l
      · rw [← hk, ← hl]
      · subst hk
        rw [List.getElem?_set_self hja] at e3
        cases e3
        exact absurd e4 (nas l z hl e2)
    · by_cases hl : j = l
      · subst hl
        rw [List.getElem?_set_self hja] at e4
        cases e4
        exact absurd e3 (nas k y hk e1)
      · rw [List.getElem?_set_ne hk] at e3
        rw [List.getElem?_set_ne hl] at e4
        exact r.inj k l y z b (old k y hk e1) (old l z hl e2) e3 e4
  · have q := r.frame b u e n1 n2
    rw [upd_ne (ne_of_none q hp)]
    exact q
  · cases q : H b with
    | none => exact absurd q (r.dom b e)
    | some u => rw [upd_ne (ne_of_none q hp), q]; simp
/-- an owned object becomes known -/
def frzD (j : Nat) (x : Tr) : Option Dv → Option Dv
  | some (.loc k) => if k = j then some (.t x) else some (.loc k)
  | o => o
theorem Own.ex {a : Addr} {x : Tr} (h : Own K mg R H a x) : ∃ o, H a = some o ∧ ∀ R' : Hp, Same R R' → R' a = some o → Rep K mg R' (.ref a) x := by
  cases x with
  | lst ts => obtain ⟨xs, h1, h2⟩ := h; exact ⟨_, h1, fun R' s e => .lstP e (Reps.mono s h2)⟩
  | dic ts => obtain ⟨xs, h1, h2⟩ := h; exact ⟨_, h1, fun R' s e => .dicP (.inl e) (RepsP.mono s h2)⟩
  | ins c ts => obtain ⟨C, dx, xs, h0, h1, h2⟩ := h; exact ⟨_, h1, fun R' s e => .insP h0 e (RepsP.mono s h2)⟩
  | _ => exact h.elim
theorem Rel.frz (r : Rel K mg Z P R as G m σ H) {j : Nat} {x : Tr} (hj : m[j]? = some (some x)) (h0 : Z.n0 ≤ j) : ∃ R', Same R R' ∧ Rel K mg Z P R' as (G.map (frzD j x)) (m.set j none) σ H := by
  obtain ⟨a, h1, h2, h3, h4, h5⟩ := r.sto j x hj
  obtain ⟨o, e1, e2⟩ := h2.ex
  have hjl : j < m.length := (List.getElem?_eq_some_iff.mp hj).1
  have sr : Same R (upd R a o) := same_new h3
  have old : ∀ (k : Nat) y, (m.set j none)[k]? = some (some y) → j ≠ k ∧ m[k]? = some (some y) := fun k y e => by
    by_cases hk : j = k
    · subst hk; rw [List.getElem?_set_self hjl] at e; cases e
    · rw [List.getElem?_set_ne hk] at e; exact ⟨hk, e⟩
  have z0 : P.H0 a = none := by
    rcases h5 with h5 | h5
    · exact h5
    · exact absurd h5.2 (by omega)
  refine ⟨upd R a o, sr, ⟨fun b u e => ?_, by rw [List.length_map]; exact r.len, fun i d e => ?_, fun k y e => ?_, fun k l y z b q1 q2 q3 q4 => r.inj k l y z b (old k y q1).2 (old l z q2).2 q3 q4, r.vol, fun b hb => ?_, r.frame, r.dom, fun b e => ?_, r.r0.trans sr, by rw [List.length_set]; exact r.la⟩⟩
  · by_cases hb : b = a
    · subst hb; rw [upd_same] at e; cases e; exact e1
    · rw [upd_ne hb] at e; exact r.ex b u e
  · rw [List.getElem?_map] at e
    cases q : G[i]? with
    | none => rw [q] at e; cases e
    | some g =>
      rw [q] at e
      have e : frzD j x g = some d := Option.some.inj e
      cases g with
      | none => cases e
      | some d0 =>
        obtain ⟨v, q1, q2⟩ := r.env i d0 q
        refine ⟨v, q1, ?_⟩
        cases q2 with
        | t h => cases e; exact .t (h.mono sr)
        | hnd i => cases e; exact .hnd i
        | @loc k b h =>
          by_cases hk : k = j
          · subst hk
            have e : (if k = k then some (Dv.t x) else some (.loc k)) = some d := e
            rw [if_pos rfl] at e
            cases e
            rw [h1] at h
            cases h
            exact .t (e2 _ sr upd_same)
          · have e : (if k = j then some (Dv.t x) else some (.loc k)) = some d := e
            rw [if_neg hk] at e
            cases e
            exact .loc h
  · obtain ⟨hk, e'⟩ := old k y e
    obtain ⟨b, q1, q2, q3, q4, q5⟩ := r.sto k y e'
    have hb : b ≠ a := fun z => hk (r.inj j k x y a hj e' h1 (by rw [← z]; exact q1))
    exact ⟨b, q1, q2.mono sr fun _ q => q, by rw [upd_ne hb]; exact q3, q4, q5⟩
  · rw [upd_ne fun z => h4 (by rw [← z]; exact hb)]
    exact r.rb b hb
  · by_cases hb : b = a
    · subst hb; exact .inr z0
    · rw [upd_ne hb] at e; exact r.fresh b e
end

/-! ### blocks -/
abbrev vNext : VS := fun nx _ _ _ _ G m => nx G m
def vSeq (a b : VS) : VS := fun nx rt bk ct ex G m => a (fun G' m' => b nx rt bk ct ex G' m') rt bk ct ex G m
abbrev vDrop (e : VE) : VS := fun nx _ _ _ ex G m => e G m (fun _ => nx G m) (fun n => ex n m)
abbrev vRet (e : VE) : VS := fun _ rt _ _ ex G m => e G m (fun d => rt d m) (fun n => ex n m)
abbrev vRetN : VS := fun _ rt _ _ _ _ m => rt (.t .non) m
abbrev vIfS (t : VT) (a b : VS) : VS := fun nx rt bk ct ex G m => t G m (fun c => (c = true → a nx rt bk ct ex G m) ∧ (c = false → b nx rt bk ct ex G m)) (fun n => ex n m)
abbrev vBrk : VS := fun _ _ bk _ _ G m => bk G m
abbrev vCnt : VS := fun _ _ _ ct _ G m => ct G m
def vNever : VS := fun _ _ _ _ _ _ _ => False
/-- x = e -/
abbrev vSet (i : Nat) (e : VE) : VS := fun nx _ _ _ ex G m => e G m (fun d => nx (G.set i (some d)) m) (fun n => ex n m)
/-- nothing: an owned object becomes known -/
def vFrz (j : Nat) (u : VS) : VS := fun nx rt bk ct ex G m => ∃ x, m[j]? = some (some x) ∧ u nx rt bk ct ex (G.map (frzD j x)) (m.set j none)
/-- nothing: names are forgotten -/
abbrev vForget (is : List Nat) (u : VS) : VS := fun nx rt bk ct ex G m => u nx rt bk ct ex (is.foldl (fun g i => g.set i none) G) m
section
variable {X : Cx} {Z : Rsc} {W : WX} {st : Stmt} {rest sa sb : List Stmt} {u w : VS} {e : Expr} {c : Expr} {ve : VE} {vt : VT} {pos : Pos}
theorem vs_nil : PSs X [] (LS X.K X.mg Z W vNext) := PSs.imp pss_nil fun D σ H ⟨P, R, as, G, m, nx, rt, bk, ct, ex, r, h, k⟩ => k.nx G m R as σ H h r
theorem vs_cons (h1 : PS X st (LS X.K X.mg Z W u)) (h2 : PSs X rest (LS X.K X.mg Z W w)) : PSs X (st :: rest) (LS X.K X.mg Z W (vSeq u w)) :=
  PSs.imp (pss_cons h1 h2) fun D σ H ⟨P, R, as, G, m, nx, rt, bk, ct, ex, r, h, k⟩ => ⟨P, R, as, G, m, _, rt, bk, ct, ex, r, h, fun G' m' R' as' σ' H' h' r' => ⟨P, R', as', G', m', nx, rt, bk, ct, ex, r', h', k⟩, k.rt, k.bk, k.ct, k.ex⟩
theorem vs_one (h1 : PS X st (LS X.K X.mg Z W u)) : PSs X [st] (LS X.K X.mg Z W u) := pss_one h1
theorem vs_pass : PS X (.Pass pos) (LS X.K X.mg Z W vNext) := PS.imp ps_pass fun D σ H ⟨P, R, as, G, m, nx, rt, bk, ct, ex, r, h, k⟩ => k.nx G m R as σ H h r
theorem vs_break : PS X (.Break pos) (LS X.K X.mg Z W vBrk) := PS.imp ps_break fun D σ H ⟨P, R, as, G, m, nx, rt, bk, ct, ex, r, h, k⟩ => k.bk G m R as σ H h r
theorem vs_continue : PS X (.Continue pos) (LS X.K X.mg Z W vCnt) := PS.imp ps_continue fun D σ H ⟨P, R, as, G, m, nx, rt, bk, ct, ex, r, h, k⟩ => k.ct G m R as σ H h r
theorem vs_doc {x : Str} {j : Nat} {p1 p2 : Pos} : PS X (.Expr (.Constant (.str x) j p1) p2) (LS X.K X.mg Z W vNext) := PS.imp ps_doc fun D σ H ⟨P, R, as, G, m, nx, rt, bk, ct, ex, r, h, k⟩ => k.nx G m R as σ H h r
theorem vs_never : PS X st (LS X.K X.mg Z W vNever) := PS.imp ps_never fun D σ H ⟨P, R, as, G, m, nx, rt, bk, ct, ex, r, h, k⟩ => h.elim
theorem vss_never : PSs X rest (LS X.K X.mg Z W vNever) := PSs.imp pss_never fun D σ H ⟨P, R, as, G, m, nx, rt, bk, ct, ex, r, h, k⟩ => h.elim
theorem Ke.er {P : Pm} {nx : SK} {rt : RK} {bk ct : SK} {ex : XS} {D : Ends} {m : Sto} {as : List Addr} {G : Env} {σ : L2.St} {R H : Hp} {K : PySem.W.Frag} {mg : Str → Option Value} (k : Ke K mg Z W P nx rt bk ct ex D) : ∀ nm cl R' H', ex nm m → mg nm = some cl → Nx P R H R' H' → Rel K mg Z P R' as G m σ H' → W cl none σ H' :=
  fun nm cl R' H' a b _ d => k.ex nm cl m R' as G σ H' a b d
theorem vs_expr (he : PE X e (LE X.K X.mg Z W ve)) (hs : swapsWith e none pos.line X.env = pure false := by rfl) : PS X (.Expr e pos) (LS X.K X.mg Z W (vDrop ve)) :=
  PS.imp (ps_expr he hs) fun D σ H ⟨P, R, as, G, m, nx, rt, bk, ct, ex, r, h, k⟩ => LE.go r h (fun d v R1 H1 h1 n1 r1 d1 => k.nx G m R1 as σ H1 h1 r1) k.er
theorem vs_ret (he : PE X e (LE X.K X.mg Z W ve)) : PS X (.Return (some e) pos) (LS X.K X.mg Z W (vRet ve)) :=
  PS.imp (ps_ret he) fun D σ H ⟨P, R, as, G, m, nx, rt, bk, ct, ex, r, h, k⟩ => LE.go r h (fun d v R1 H1 h1 n1 r1 d1 => k.rt d m v R1 as G σ H1 h1 r1 d1) k.er
theorem vs_retN : PS X (.Return none pos) (LS X.K X.mg Z W vRetN) := PS.imp ps_retN fun D σ H ⟨P, R, as, G, m, nx, rt, bk, ct, ex, r, h, k⟩ => k.rt _ m _ R as G σ H h r (.t .non)
theorem vs_if (hc : PT X c (LT X.K X.mg Z W vt)) (ha : PSs X sa (LS X.K X.mg Z W u)) (hb : PSs X sb (LS X.K X.mg Z W w)) : PS X (.If c sa sb pos) (LS X.K X.mg Z W (vIfS vt u w)) :=
  PS.imp (ps_if hc ha hb) fun D σ H ⟨P, R, as, G, m, nx, rt, bk, ct, ex, r, h, k⟩ => LT.go r h (fun c R1 H1 ⟨h1, h2⟩ n1 r1 => by
    cases c with
    | true =>
      rw [if_pos rfl]
      exact ⟨P, R1, as, G, m, nx, rt, bk, ct, ex, r1, h1 rfl, k⟩
    | false =>
      rw [if_neg Bool.false_ne_true]
      exact ⟨P, R1, as, G, m, nx, rt, bk, ct, ex, r1, h2 rfl, k⟩) k.er
theorem vs_set {i : Nat} {x : Str} {pos' : Pos} (hN : X.N.Nodup) (hi : X.N[i]? = some x) (hx : Loc X.env.scope x) (he : PE X e (LE X.K X.mg Z W ve)) (hs : swapsWith e (some (.Name x pos')) pos.line X.env = pure false := by rfl) (hf : X.fn x = true ∨ X.env.scope.names.lookup x = some .local := by first | exact .inl rfl | exact .inr rfl | assumption) :
    PS X (.Assign [.Name x pos'] e pos) (LS X.K X.mg Z W (vSet i ve)) :=
  PS.imp (ps_set hN hi hx he hs hf) fun D σ H ⟨P, R, as, G, m, nx, rt, bk, ct, ex, r, h, k⟩ => LE.go r h (fun d v R1 H1 h1 n1 r1 d1 => k.nx _ m R1 as _ H1 h1 (r1.set d1)) k.er
theorem vs_frz {j : Nat} (h0 : Z.n0 ≤ j) (h : PSs X rest (LS X.K X.mg Z W u)) : PSs X rest (LS X.K X.mg Z W (vFrz j u)) :=
  PSs.imp h fun D σ H ⟨P, R, as, G, m, nx, rt, bk, ct, ex, r, ⟨x, hj, h⟩, k⟩ => by
    obtain ⟨R', _, r'⟩ := r.frz hj h0
    exact ⟨P, R', as, _, _, nx, rt, bk, ct, ex, r', h, k⟩
theorem foldl_drop : ∀ (is : List Nat) (G : Env), (is.foldl (fun g i => g.set i none) G).length = G.length ∧ ∀ (i : Nat) d, (is.foldl (fun g i => g.set i none) G)[i]? = some (some d) → G[i]? = some (some d)
  | [], G => ⟨rfl, fun _ _ e => e⟩
  | i :: is, G => by
    obtain ⟨h1, h2⟩ := foldl_drop is (G.set i none)
    refine ⟨by rw [List.foldl_cons, h1, List.length_set], fun i' d e => ?_⟩
    have q := h2 i' d e
    by_cases hi : i = i'
    · subst hi
      by_cases hl : i < G.length
      · rw [List.getElem?_set_self hl] at q; cases q
      · rw [List.getElem?_eq_none (by rw [List.length_set]; omega)] at q; cases q
    · rw [List.getElem?_set_ne hi] at q; exact q
theorem vs_forget {is : List Nat} (h : PSs X rest (LS X.K X.mg Z W u)) : PSs X rest (LS X.K X.mg Z W (vForget is u)) :=
  PSs.imp h fun D σ H ⟨P, R, as, G, m, nx, rt, bk, ct, ex, r, h, k⟩ => ⟨P, R, as, _, m, nx, rt, bk, ct, ex, r.drop _ (foldl_drop is G).1 (foldl_drop is G).2, h, k⟩
end

/-! ### new owned objects, and changes of them -/
abbrev vaNil : VA := fun _ _ k _ => k []
abbrev vaCons (e : VE) (r : VA) : VA := fun G m k x => e G m (fun d => r G m (fun ds => k (d :: ds)) x) x
/-- data alone -/
def unT : List Dv → Option (List Tr)
  | [] => some []
  | .t x :: r => (unT r).map (x :: ·)
  | _ :: _ => none
theorem unT_eq : ∀ {ds : List Dv} {ts : List Tr}, unT ds = some ts → ds = ts.map .t
  | [], ts, h => by simp [unT] at h; subst h; rfl
  | .t x :: r, ts, h => by
    simp [unT] at h
    obtain ⟨us, h1, rfl⟩ := h
    rw [unT_eq h1]; rfl
  | .loc _ :: _, _, h => by simp [unT] at h
  | .hnd _ :: _, _, h => by simp [unT] at h
theorem drep_ts {K : PySem.W.Frag} {mg : Str → Option Value} {R : Hp} {hd : Nat → Addr} {as : List Addr} : ∀ {ts : List Tr} {vs : List V}, Paired (DRep K mg R hd as) vs (ts.map .t) → Reps K mg R vs ts
  | [], _, .nil => .nil
  | t :: ts, _, .cons r rs => by
    cases r with
    | t h => exact .cons h (drep_ts rs)
section
variable {X : Cx} {Z : Rsc} {W : WX} {e : Expr} {es : List Expr} {ve : VE} {va : VA} {pos : Pos}
theorem va_nil : PA X [] (LA X.K X.mg Z W vaNil) := PA.imp pa_nil fun σ H Q ⟨P, R, as, G, m, k, x, r, h, n⟩ => n.ok [] [] R H h .refl r .nil
theorem va_cons (ha : PE X e (LE X.K X.mg Z W ve)) (hr : PA X es (LA X.K X.mg Z W va)) (hs : starEach (e :: es) X.env = (false, eval e X.env) :: starEach es X.env := by rfl) : PA X (e :: es) (LA X.K X.mg Z W (vaCons ve va)) :=
  PA.imp (pa_cons ha hr hs) fun σ H Q ⟨P, R, as, G, m, k, x, r, h, n⟩ => LE.go r h (fun d v R1 H1 h1 n1 r1 d1 => LA.go r1 h1 (fun ds vs R2 H2 h2 n2 r2 d2 => n.ok _ _ R2 H2 h2 (n1.trans n2) r2 (.cons (d1.mono n2.r) d2)) (n.step n1).er) n.er
/-- [..], (..) as data -/
abbrev vLst (es : VA) : VE := fun G m k x => es G m (fun ds => ∃ ts, unT ds = some ts ∧ ts.length ≤ sizeLine ∧ k (.t (.lst ts))) x
abbrev vTup (es : VA) : VE := fun G m k x => es G m (fun ds => ∃ ts, unT ds = some ts ∧ ts.length ≤ sizeLine ∧ k (.t (.tup ts))) x
theorem v_lst (h : PA X es (LA X.K X.mg Z W va)) : PE X (.List es pos) (LE X.K X.mg Z W (vLst va)) :=
  PE.imp (pe_lst h) fun σ H Q ⟨P, R, as, G, m, k, x, r, h, n⟩ => LA.go r h (fun ds vs R1 H1 ⟨ts, e1, hz, h1⟩ n1 r1 d1 => by
    rw [unT_eq e1] at d1
    have q := drep_ts d1
    refine ⟨by rw [Paired.length q]; exact hz, fun p hp => ?_⟩
    obtain ⟨r', n'⟩ := r1.laid (o := .lst vs) hp
    exact n.ok _ _ _ _ h1 (n1.trans n') r' (.t (.lstP upd_same (Reps.mono n'.r q)))) n.er
theorem v_tup {j : Nat} (h : PA X es (LA X.K X.mg Z W va)) : PE X (.Tuple es j pos) (LE X.K X.mg Z W (vTup va)) :=
  PE.imp (pe_tup h) fun σ H Q ⟨P, R, as, G, m, k, x, r, h, n⟩ => LA.go r h (fun ds vs R1 H1 ⟨ts, e1, hz, h1⟩ n1 r1 d1 => by
    rw [unT_eq e1] at d1
    have q := drep_ts d1
    refine ⟨by rw [Paired.length q]; exact hz, fun p hp => ?_⟩
    obtain ⟨r', n'⟩ := r1.laid (o := .tup vs) hp
    exact n.ok _ _ _ _ h1 (n1.trans n') r' (.t (.tupP upd_same (Reps.mono n'.r q)))) n.er
/-- {} as data -/
theorem v_dic0 : PE X (.Dict [] [] pos) (LE X.K X.mg Z W (vC (.dic []))) :=
  PE.imp pe_dnewK fun σ H Q ⟨P, R, as, G, m, k, x, r, h, n⟩ => fun p hp => by
    obtain ⟨r', n'⟩ := r.laid (o := .dK []) hp
    exact n.ok _ _ _ _ h n' r' (.t (.dicP (.inl upd_same) .nil))
/-- x = [..], an owned list at the site j -/
abbrev vNewL (i j : Nat) (es : VA) : VS := fun nx _ _ _ ex G m => es G m (fun ds => ∃ ts, unT ds = some ts ∧ ts.length ≤ sizeLine ∧ j < m.length ∧ noLoc j (G.set i none) = true ∧ nx (G.set i (some (.loc j))) (m.set j (some (.lst ts)))) (fun n => ex n m)
/-- x = {} -/
def vNewD (i j : Nat) : VS := fun nx _ _ _ _ G m => j < m.length ∧ noLoc j (G.set i none) = true ∧ nx (G.set i (some (.loc j))) (m.set j (some (.dic [])))
theorem Rel.newAt {K : PySem.W.Frag} {mg : Str → Option Value} {P : Pm} {R H : Hp} {as : List Addr} {G : Env} {m : Sto} {σ : L2.St} (r : Rel K mg Z P R as G m σ H) {i j : Nat} {x : Tr} {p : Addr} {o : HO} (hp : H p = none) (hj : j < m.length) (hn : noLoc j (G.set i none) = true) (ho : Own K mg R (upd H p o) p x) :
    Rel K mg Z P R (as.set j p) (G.set i (some (.loc j))) (m.set j (some x)) (σ.set i (some (.ref p))) (upd H p o) := by
  have q := ((r.drop1 i).new hp hj hn ho).set (i := i) (v := .ref p) (d := .loc j) (.loc (List.getElem?_set_self (by rw [r.la]; exact hj)))
  rw [List.set_set] at q
  exact q
theorem vs_newL {i j : Nat} {x : Str} {pos' p2 : Pos} (hN : X.N.Nodup) (hi : X.N[i]? = some x) (hx : Loc X.env.scope x) (h : PA X es (LA X.K X.mg Z W va)) (hs : swapsWith (.List es p2) (some (.Name x pos')) pos.line X.env = pure false := by rfl) (hf : X.fn x = true ∨ X.env.scope.names.lookup x = some .local := by first | exact .inl rfl | exact .inr rfl | assumption) :
    PS X (.Assign [.Name x pos'] (.List es p2) pos) (LS X.K X.mg Z W (vNewL i j va)) :=
  PS.imp (ps_set hN hi hx (pe_lst h) hs hf) fun D σ H ⟨P, R, as, G, m, nx, rt, bk, ct, ex, r, h, k⟩ => LA.go r h (fun ds vs R1 H1 ⟨ts, e1, hz, hj, hn, h1⟩ n1 r1 d1 => by
    rw [unT_eq e1] at d1
    have q := drep_ts d1
    refine ⟨by rw [Paired.length q]; exact hz, fun p hp => ?_⟩
    exact k.nx _ _ _ _ _ _ h1 (r1.newAt hp hj hn ⟨vs, upd_same, q⟩)) k.er
theorem vs_newD {i j : Nat} {x : Str} {pos' p2 : Pos} (hN : X.N.Nodup) (hi : X.N[i]? = some x) (hx : Loc X.env.scope x) (hs : swapsWith (.Dict [] [] p2) (some (.Name x pos')) pos.line X.env = pure false := by rfl) (hf : X.fn x = true ∨ X.env.scope.names.lookup x = some .local := by first | exact .inl rfl | exact .inr rfl | assumption) :
    PS X (.Assign [.Name x pos'] (.Dict [] [] p2) pos) (LS X.K X.mg Z W (vNewD i j)) :=
  PS.imp (ps_set hN hi hx pe_dnewK hs hf) fun D σ H ⟨P, R, as, G, m, nx, rt, bk, ct, ex, r, ⟨hj, hn, h⟩, k⟩ => fun p hp =>
    k.nx _ _ _ _ _ _ h (r.newAt hp hj hn ⟨[], upd_same, .nil⟩)
/-- the list at a site -/
theorem Rel.vLoc {K : PySem.W.Frag} {mg : Str → Option Value} {P : Pm} {R H : Hp} {as : List Addr} {G : Env} {m : Sto} {σ : L2.St} {v : V} {j : Nat} {ts : List Tr} (r : Rel K mg Z P R as G m σ H) (h : DRep K mg R P.hd as v (.loc j)) (e : m[j]? = some (some (.lst ts))) :
    ∃ a xs, v = .ref a ∧ as[j]? = some a ∧ H a = some (.lst xs) ∧ Reps K mg R xs ts := by
  cases h with
  | loc h =>
    obtain ⟨a, h1, h2, _⟩ := r.sto _ _ e
    rw [h1] at h; cases h
    obtain ⟨xs, h3, h4⟩ := h2
    exact ⟨_, xs, rfl, h1, h3, h4⟩
theorem Rel.vLocD {K : PySem.W.Frag} {mg : Str → Option Value} {P : Pm} {R H : Hp} {as : List Addr} {G : Env} {m : Sto} {σ : L2.St} {v : V} {j : Nat} {ts : List (Key × Tr)} (r : Rel K mg Z P R as G m σ H) (h : DRep K mg R P.hd as v (.loc j)) (e : m[j]? = some (some (.dic ts))) :
    ∃ a xs, v = .ref a ∧ as[j]? = some a ∧ H a = some (.dK xs) ∧ RepsP K mg R xs ts := by
  cases h with
  | loc h =>
    obtain ⟨a, h1, h2, _⟩ := r.sto _ _ e
    rw [h1] at h; cases h
    obtain ⟨xs, h3, h4⟩ := h2
    exact ⟨_, xs, rfl, h1, h3, h4⟩
/-- xs.append(e) -/
abbrev vApp (o e : VE) : VS := fun nx _ _ _ ex G m => o G m (fun d => ∃ j ts, d = .loc j ∧ m[j]? = some (some (.lst ts)) ∧ e G m (fun y => ∃ t, y = .t t ∧ ts.length < sizeLine ∧ nx G (m.set j (some (.lst (ts ++ [t]))))) (fun n => ex n m)) (fun n => ex n m)
theorem vs_append {o : Expr} {vo : VE} {p1 p2 : Pos} (hp : ∀ {ta te : TE}, PE X o ta → PE X e te → PE X (.Call (.Attribute o "append" p1) [e] [] p2) (tBM X.K "list" rAppend ta (tCons te tNil)))
    (ho : PE X o (LE X.K X.mg Z W vo)) (he : PE X e (LE X.K X.mg Z W ve)) (hs : swapsWith (.Call (.Attribute o "append" p1) [e] [] p2) none pos.line X.env = pure false := by rfl) :
    PS X (.Expr (.Call (.Attribute o "append" p1) [e] [] p2) pos) (LS X.K X.mg Z W (vApp vo ve)) :=
  PS.imp (ps_expr (hp ho he) hs) fun D σ H ⟨P, R, as, G, m, nx, rt, bk, ct, ex, r, h, k⟩ =>
    LE.go r h (fun d v R1 H1 ⟨j, ts, ed, ej, h1⟩ n1 r1 d1 => by
      subst ed
      obtain ⟨a, xs, rfl, ha, hx, rx⟩ := r1.vLoc d1 ej
      refine ⟨.inl ⟨rfl, xs, .of hx⟩, LE.go r1 h1 (fun y w R2 H2 ⟨t, ey, hz, h2⟩ n2 r2 d2 => ?_) k.er⟩
      subst ey
      cases d2 with
      | t rt' =>
        obtain ⟨a', xs', e3, ha', hx', rx'⟩ := r2.vLoc (d1.mono n2.r) ej
        cases e3
        refine ⟨_, xs', w, rfl, rfl, hx', by rw [Paired.length rx']; exact hz, k.nx _ _ _ _ _ _ h2 (r2.put ej ha' ⟨xs' ++ [w], upd_same, paired_append rx' (.cons rt' .nil)⟩)⟩) k.er
end
end VL

/-! VL, part G: targets, loops. -/
namespace VL
open PySem L2

/-! ### targets -/
abbrev VG := Tr → Env → (Env → Prop) → Prop
abbrev VGs := List Tr → Env → (Env → Prop) → Prop
/-- which slots may change: all, or these -/
def Sl : Option (List Nat) → L2.St → L2.St → Prop
  | none, _, _ => True
  | some vs, σ, σ' => wipe σ' vs = wipe σ vs
def inSl (i : Nat) : Option (List Nat) → Bool
  | none => true
  | some vs => vs.contains i
theorem wipe_comm (σ : L2.St) (i : Nat) : ∀ vs : List Nat, wipe (σ.set i none) vs = (wipe σ vs).set i none
  | [] => rfl
  | v :: vs => by
    unfold wipe
    rw [wipe_comm σ i vs]
    by_cases h : i = v
    · subst h; rfl
    · rw [List.set_comm _ _ h]
theorem wipe_set {σ : L2.St} {i : Nat} {x : Option V} : ∀ {vs : List Nat}, i ∈ vs → wipe (σ.set i x) vs = wipe σ vs
  | v :: vs, h => by
    unfold wipe
    by_cases hv : i = v
    · subst hv
      by_cases hi : i ∈ vs
      · rw [wipe_set hi]
      · have q : ∀ (us : List Nat) (y : Option V), i ∉ us → wipe (σ.set i y) us = (wipe σ us).set i y := fun us => by
          induction us with
          | nil => intro y _; rfl
          | cons u us ih =>
            intro y hu
            unfold wipe
            rw [ih y (fun z => hu (List.mem_cons_of_mem _ z)), List.set_comm _ _ (fun z => hu (by rw [z]; exact List.mem_cons_self))]
        rw [q vs x hi, List.set_set]
    · have hi : i ∈ vs := by
        rcases List.mem_cons.mp h with z | z
        · exact absurd z hv
        · exact z
      rw [wipe_set hi]
theorem Sl.set {σ : L2.St} {i : Nat} {x : Option V} {o : Option (List Nat)} (h : inSl i o = true) : Sl o σ (σ.set i x) := by
  cases o with
  | none => exact trivial
  | some vs => exact wipe_set (by simpa [inSl] using h)
theorem Sl.refl {σ : L2.St} {o : Option (List Nat)} : Sl o σ σ := by
  cases o with
  | none => exact trivial
  | some vs => exact rfl
theorem Sl.trans {a b c : L2.St} {o : Option (List Nat)} (h : Sl o a b) (h' : Sl o b c) : Sl o a c := by
  cases o with
  | none => exact trivial
  | some vs => exact Eq.trans h' h
def LG (K : PySem.W.Frag) (mg : Str → Option Value) (Z : Rsc) (o : Option (List Nat)) (vg : VG) : TG := fun v σ H Q => ∃ P R as G m t k, Rel K mg Z P R as G m σ H ∧ Rep K mg R v t ∧ vg t G k ∧ ∀ G' σ', k G' → Sl o σ σ' → Rel K mg Z P R as G' m σ' H → Q σ' H
def LGs (K : PySem.W.Frag) (mg : Str → Option Value) (Z : Rsc) (o : Option (List Nat)) (vg : VGs) : TGs := fun vs σ H Q => ∃ P R as G m ts k, Rel K mg Z P R as G m σ H ∧ Reps K mg R vs ts ∧ vg ts G k ∧ ∀ G' σ', k G' → Sl o σ σ' → Rel K mg Z P R as G' m σ' H → Q σ' H
abbrev vgName (i : Nat) : VG := fun t G k => k (G.set i (some (.t t)))
def vgNil : VGs := fun ts G k => ts = [] ∧ k G
def vgCons (g : VG) (gs : VGs) : VGs := fun ts G k => ∃ t r, ts = t :: r ∧ g t G (fun G' => gs r G' k)
def vgTup (n : Nat) (gs : VGs) : VG := fun t G k => ∃ ts, t = .tup ts ∧ ts.length = n ∧ gs ts G k
theorem PG.imp {X : Cx} {e : Expr} {t t' : TG} (h : PG X e t) (hi : ∀ v σ H Q, t' v σ H Q → t v σ H Q) : PG X e t' := ⟨fun pins s σ H v u Q I r q => h.run pins s σ H v u Q I r (hi v σ H Q q)⟩
theorem PGs.imp {X : Cx} {e : List Expr} {t t' : TGs} (h : PGs X e t) (hi : ∀ v σ H Q, t' v σ H Q → t v σ H Q) : PGs X e t' := ⟨fun pins s σ H v u Q I r q => h.run pins s σ H v u Q I r (hi v σ H Q q)⟩
section
variable {X : Cx} {Z : Rsc} {W : WX} {e : Expr} {es : List Expr} {vg : VG} {vgs : VGs} {pos : Pos}
theorem vg_name {i : Nat} {x : Str} {o : Option (List Nat)} (ho : inSl i o = true) (hN : X.N.Nodup) (hi : X.N[i]? = some x) (hx : Loc X.env.scope x) (hf : X.fn x = true ∨ X.env.scope.names.lookup x = some .local := by first | exact .inl rfl | exact .inr rfl | assumption) : PG X (.Name x pos) (LG X.K X.mg Z o (vgName i)) :=
  PG.imp (pg_name hN hi hx hf) fun v σ H Q ⟨P, R, as, G, m, t, k, r, rv, h, n⟩ => n _ _ h (.set ho) (r.set (.t rv))
theorem vgs_nil {o : Option (List Nat)} : PGs X [] (LGs X.K X.mg Z o vgNil) := PGs.imp pgs_nil fun vs σ H Q ⟨P, R, as, G, m, ts, k, r, rv, ⟨h1, h⟩, n⟩ => by
  subst h1
  cases rv
  exact ⟨rfl, n _ _ h .refl r⟩
theorem vgs_cons {o : Option (List Nat)} (h1 : PG X e (LG X.K X.mg Z o vg)) (h2 : PGs X es (LGs X.K X.mg Z o vgs)) (hs : (assignEach (e :: es) X.env).map (·.2) = assign e X.env :: (assignEach es X.env).map (·.2) := by rfl) : PGs X (e :: es) (LGs X.K X.mg Z o (vgCons vg vgs)) :=
  PGs.imp (pgs_cons h1 h2 hs) fun vs σ H Q ⟨P, R, as, G, m, ts, k, r, rv, ⟨t, rest, h1, h⟩, n⟩ => by
    subst h1
    cases rv with
    | cons r1 rs => exact ⟨_, _, rfl, P, R, as, G, m, t, _, r, r1, h, fun G' σ' h' s' r' => ⟨P, R, as, G', m, rest, k, r', rs, h', fun G2 σ2 h2 s2 r2 => n G2 σ2 h2 (s'.trans s2) r2⟩⟩
theorem vg_tup {j n : Nat} {o : Option (List Nat)} (hc : X.calm = true) (h : PGs X es (LGs X.K X.mg Z o vgs)) (hn : (assignEach es X.env).length = n := by rfl) (hst : (assignEach es X.env).findIdx? (·.1) = none := by rfl) : PG X (.Tuple es j pos) (LG X.K X.mg Z o (vgTup n vgs)) :=
  PG.imp (pg_tup hc h hn hst) fun v σ H Q ⟨P, R, as, G, m, t, k, r, rv, ⟨ts, e1, hl, h⟩, q⟩ => by
    subst e1
    obtain ⟨a, xs, rfl, hx, rx⟩ := rv.tup_inv
    exact ⟨a, xs, rfl, .of (r.ex _ _ hx), by rw [Paired.length rx]; exact hl, P, R, as, G, m, ts, k, r, rx, h, q⟩
/-- target = e -/
abbrev vAsg (e : VE) (g : VG) : VS := fun nx _ _ _ ex G m => e G m (fun d => ∃ t, d = .t t ∧ g t G (fun G' => nx G' m)) (fun n => ex n m)
theorem vs_asg {tg : Expr} {ve : VE} (he : PE X e (LE X.K X.mg Z W ve)) (hg : PG X tg (LG X.K X.mg Z none vg)) (hs : swapsWithSole [tg] e pos.line X.env = pure false := by rfl) (hw : swappedStores [tg] e X.env = pure none := by rfl)
    (h1 : (assignEach [tg] X.env).map (·.2) = [assign tg X.env] := by rfl) : PS X (.Assign [tg] e pos) (LS X.K X.mg Z W (vAsg ve vg)) :=
  PS.imp (ps_asg he hg hs hw h1) fun D σ H ⟨P, R, as, G, m, nx, rt, bk, ct, ex, r, h, k⟩ => LE.go r h (fun d v R1 H1 ⟨t, ed, h1⟩ n1 r1 d1 => by
    subst ed
    cases d1 with
    | t rv => exact ⟨P, R1, as, G, m, t, _, r1, rv, h1, fun G' σ' h' _ r' => k.nx G' m R1 as σ' H1 h' r'⟩) k.er
/-- a, b = x, y -/
abbrev vPar (i j : Nat) (es : VA) : VS := fun nx _ _ _ ex G m => es G m (fun ds => ∃ d e, ds = [d, e] ∧ nx ((G.set i (some d)).set j (some e)) m) (fun n => ex n m)
theorem vs_par {i j : Nat} {x y : Str} {a b : Expr} {va : VA} {px py pt : Pos} {kt k2 pt2} (hc : X.calm = true) (hN : X.N.Nodup) (hi : X.N[i]? = some x) (hj : X.N[j]? = some y) (hij : i ≠ j)
    (hx : X.env.scope.names.lookup x = some .local) (hy : X.env.scope.names.lookup y = some .local) (ha : PA X [a, b] (LA X.K X.mg Z W va))
    (hw : swappedStores [.Tuple [.Name x px, .Name y py] kt pt] (.Tuple [a, b] k2 pt2) X.env = pure (some [x, y]))
    (hs : swapsWithSole [.Tuple [.Name x px, .Name y py] kt pt] (.Tuple [a, b] k2 pt2) pos.line X.env = pure false := by rfl) :
    PS X (.Assign [.Tuple [.Name x px, .Name y py] kt pt] (.Tuple [a, b] k2 pt2) pos) (LS X.K X.mg Z W (vPar i j va)) :=
  PS.imp (ps_par hc hN hi hj hij hx hy ha hw hs) fun D σ H ⟨P, R, as, G, m, nx, rt, bk, ct, ex, r, h, k⟩ => LA.go r h (fun ds vs R1 H1 ⟨d, e, ed, h1⟩ n1 r1 d1 => by
    subst ed
    cases d1 with
    | cons q1 q2 => cases q2 with
      | cons q2 q3 =>
        cases q3
        exact ⟨_, _, rfl, k.nx _ m R1 as _ H1 h1 ((r1.set q1).set q2)⟩) k.er
/-- x += e -/
abbrev vAug (i : Nat) (f : O2) (e : VE) : VS := fun nx _ _ _ ex G m => ∃ d0, G[i]? = some (some d0) ∧ e G m (fun d => f m d0 d (fun z => nx (G.set i (some z)) m)) (fun n => ex n m)
def Lip (K : PySem.W.Frag) (mg : Str → Option Value) (t : TIp) (f : O2) : Prop := Lo2 K mg t f
theorem vs_aug {i : Nat} {x : Str} {op : Operator} {ti : TIp} {f : O2} {ve : VE} {pos' : Pos} (lo : Lip X.K X.mg ti f) (ho : PIp X op ti) (hN : X.N.Nodup) (hi : X.N[i]? = some x) (hx : Loc X.env.scope x) (he : PE X e (LE X.K X.mg Z W ve)) (hf : X.fn x = true ∨ X.env.scope.names.lookup x = some .local := by first | exact .inl rfl | exact .inr rfl | assumption) :
    PS X (.AugAssign (.Name x pos') op e pos) (LS X.K X.mg Z W (vAug i f ve)) :=
  PS.imp (ps_aug hN hi hx he ho hf) fun D σ H ⟨P, R, as, G, m, nx, rt, bk, ct, ex, r, ⟨d0, e0, h⟩, k⟩ => by
    obtain ⟨v, q1, q2⟩ := r.env i d0 e0
    exact ⟨v, q1, LE.go r h (fun d w R1 H1 h1 n1 r1 d1 => lo Z P R1 as G m σ H1 v w d0 d _ _ r1 (q2.mono n1.r) d1 h1 fun z u R2 H2 h2 n2 r2 d2 => k.nx _ m R2 as _ H2 h2 (r2.set d2)) k.er⟩
theorem lip_I {K : PySem.W.Frag} {mg : Str → Option Value} (f : Int → Int → Int) : Lip K mg (ipI f) (fI0 fun i j => .int (f i j)) := by
  rintro Z P R as G m σ H v w d e k Q r h1 h2 ⟨i, j, e1, e2, q⟩ n
  rw [r.vInt h1 e1, r.vInt h2 e2]
  exact ⟨i, j, rfl, rfl, n _ _ R H q .refl r (.t (.int _))⟩
/-- x *= e, by the operator's rule (in place for whole numbers) -/
theorem ip_of {op : Operator} {r : R2} (h : OpR X (inplaceOp op) r) : PIp X op r := fun pins s σ H x y v u Q I rx ry q => h pins s σ H x y v u Q I rx ry q
end

/-! ### the known part as a new beginning -/
section
variable {K : PySem.W.Frag} {mg : Str → Option Value} {Z : Rsc} {P : Pm} {R R' H H' : Hp} {as as' : List Addr} {G G' : Env} {m m' : Sto} {σ σ' : L2.St}
def Pm.at (P : Pm) (R : Hp) : Pm := { P with R0 := R }
theorem Rel.base (r : Rel K mg Z P R as G m σ H) : Rel K mg Z (P.at R) R as G m σ H := { r with fresh := fun a e => .inl e, r0 := Same.refl R }
theorem Rel.unbase (r0 : Rel K mg Z P R as G m σ H) (r : Rel K mg Z (P.at R) R' as' G' m' σ' H') : Rel K mg Z P R' as' G' m' σ' H' :=
  { r with
    fresh := fun a e => (r.fresh a e).elim (fun z => r0.fresh a z) .inr
    r0 := r0.r0.trans r.r0 }
theorem Ke.at {W : WX} {nx : SK} {rt : RK} {bk ct : SK} {ex : XS} {D : Ends} (r0 : Rel K mg Z P R as G m σ H) (k : Ke K mg Z W P nx rt bk ct ex D) : Ke K mg Z W (P.at R) nx rt bk ct ex D :=
  ⟨fun G m R as σ H a b => k.nx G m R as σ H a (r0.unbase b), fun d m v R as G σ H a b c => k.rt d m v R as G σ H a (r0.unbase b) c, fun G m R as σ H a b => k.bk G m R as σ H a (r0.unbase b), fun G m R as σ H a b => k.ct G m R as σ H a (r0.unbase b), fun nm cl m R as G σ H a b c => k.ex nm cl m R as G σ H a b (r0.unbase c)⟩
end

/-! ### what is walked -/
/-- the iterator yields these data, whatever is done meanwhile -/
def ItOk (K : PySem.W.Frag) (mg : Str → Option Value) (Z : Rsc) (P : Pm) (R : Hp) (J : It) (ts : List Tr) : Prop := ∀ R' as' G' m' σ' H', Rel K mg Z P R' as' G' m' σ' H' → Same R R' →
  (∀ (i : Nat) t, ts[i]? = some t → J.go i H' ∧ ∀ x H2, J.yld i H' x H2 → ∃ R2, Same R' R2 ∧ Nx P R' H' R2 H2 ∧ Rel K mg Z P R2 as' G' m' σ' H2 ∧ Rep K mg R2 x t) ∧ J.stop ts.length H'
abbrev VI := Env → Sto → (List Tr → Prop) → XK → Prop
def LI (K : PySem.W.Frag) (mg : Str → Option Value) (Z : Rsc) (W : WX) (e : VI) : TI := fun σ H Q => ∃ P R as G m k x, Rel K mg Z P R as G m σ H ∧ e G m k x ∧
  (∀ ts J R' H', k ts → Nx P R H R' H' → Rel K mg Z P R' as G m σ H' → (∀ P', P'.H0 = P.H0 → P'.mu = P.mu → P'.B = P.B → P'.hd = P.hd → ItOk K mg Z P' R' J ts) → Q J H') ∧
  (∀ nm cl R' H', x nm → mg nm = some cl → Nx P R H R' H' → Rel K mg Z P R' as G m σ H' → W cl none σ H')
theorem PI.imp {X : Cx} {tg e : Expr} {t t' : TI} (h : PI X tg e t) (hi : ∀ σ H Q, t' σ H Q → t σ H Q) : PI X tg e t' := ⟨fun pins s σ H Q I q => h.run pins s σ H Q I (hi σ H Q q)⟩
abbrev viL (e : VE) : VI := fun G m k x => e G m (fun d => ∃ ts, (d = .t (.lst ts) ∨ ∃ ns : List Int, d = .t (.scr ns) ∧ ts = ns.map .int) ∧ k ts) x
abbrev viT (e : VE) : VI := fun G m k x => e G m (fun d => ∃ ts, d = .t (.tup ts) ∧ k ts) x
def rng (lo : Int) (n : Nat) : List Tr := (List.range n).map fun i => .int (lo + (i : Nat))
theorem rng_len (lo : Int) (n : Nat) : (rng lo n).length = n := by unfold rng; rw [List.length_map, List.length_range]
theorem rng_get {lo : Int} {n i : Nat} {t : Tr} (h : (rng lo n)[i]? = some t) : i < n ∧ t = .int (lo + i) := by
  unfold rng at h
  rw [List.getElem?_map] at h
  by_cases hi : i < n
  · rw [List.getElem?_range hi] at h; exact ⟨hi, (Option.some.inj h).symm⟩
  · rw [List.getElem?_eq_none (by rw [List.length_range]; omega)] at h; cases h
abbrev viR1 (e : VE) : VI := fun G m k x => e G m (fun d => ∃ n : Int, view m d = some (.int n) ∧ -(2 ^ 62) ≤ n ∧ n < 2 ^ 62 ∧ k (rng 0 n.toNat)) x
abbrev viR2 (a b : VE) : VI := fun G m k x => a G m (fun d => b G m (fun e => ∃ i n : Int, view m d = some (.int i) ∧ view m e = some (.int n) ∧ (-(2 ^ 62) ≤ i ∧ i < 2 ^ 62 ∧ -(2 ^ 62) ≤ n ∧ n < 2 ^ 62) ∧ k (rng i (n - i).toNat)) x) x
def zipT (xs ys : List Tr) : List Tr := List.zipWith (fun a b => .tup [a, b]) xs ys
def enumT (xs : List Tr) : List Tr := (List.range xs.length).map fun i => .tup [.int (i : Nat), xs.getD i .non]
abbrev viZip (a b : VE) : VI := fun G m k x => a G m (fun d => b G m (fun e => ∃ xs ys, d = .t (.lst xs) ∧ e = .t (.lst ys) ∧ k (zipT xs ys)) x) x
abbrev viEnum (a : VE) : VI := fun G m k x => a G m (fun d => ∃ ts, (d = .t (.lst ts) ∨ ∃ ns : List Int, d = .t (.scr ns) ∧ ts = ns.map .int) ∧ k (enumT ts)) x
abbrev viStr (a : VE) : VI := fun G m k x => a G m (fun d => ∃ z, view m d = some (.str z) ∧ k (z.cps.toList.map fun c => .str ⟨#[c]⟩)) x
section
variable {K : PySem.W.Frag} {mg : Str → Option Value} {Z : Rsc} {P : Pm} {R R' H H' : Hp} {as : List Addr} {G : Env} {m : Sto} {σ : L2.St}
theorem itok_list {a : Addr} {xs : List V} {ts : List Tr} (h : R a = some (.lst xs)) (rx : Reps K mg R xs ts) : ItOk K mg Z P R (Itl K a) ts := fun R' as' G' m' σ' H' r s => by
  have hx : SqL K H' a xs := .of (r.ex _ _ (s _ _ h))
  refine ⟨fun i t e => ?_, ⟨xs, hx, by rw [Paired.length rx]; exact Nat.le_refl _⟩⟩
  obtain ⟨x, e1, r1⟩ := Reps.get rx e
  refine ⟨⟨xs, x, hx, e1⟩, fun y H2 ⟨eH, hy⟩ => ?_⟩
  subst eH
  have q := hy xs hx
  rw [e1] at q
  cases q
  exact ⟨R', Same.refl _, .refl, r, r1.mono s⟩
theorem itok_scr {a : Addr} {ns : List Int} (h : SqL K R a (ns.map V.int)) : ItOk K mg Z P R (Itl K a) (ns.map .int) := fun R' as' G' m' σ' H' r s => by
  have hx : SqL K H' a (ns.map V.int) := Same.seq (s.trans r.ex) h
  refine ⟨fun i t e => ?_, ⟨_, hx, by rw [List.length_map, List.length_map]; exact Nat.le_refl _⟩⟩
  obtain ⟨x, e1, r1⟩ := Reps.get (ints_reps (K := K) (mg := mg) (R := R') ns) e
  refine ⟨⟨_, x, hx, e1⟩, fun y H2 ⟨eH, hy⟩ => ?_⟩
  subst eH
  have q := hy _ hx
  rw [e1] at q
  cases q
  exact ⟨R', Same.refl _, .refl, r, r1⟩
theorem itok_tup {a : Addr} {xs : List V} {ts : List Tr} (h : R a = some (.tup xs)) (rx : Reps K mg R xs ts) : ItOk K mg Z P R (Itt K a) ts := fun R' as' G' m' σ' H' r s => by
  have hx : SqT K H' a xs := .of (r.ex _ _ (s _ _ h))
  refine ⟨fun i t e => ?_, ⟨xs, hx, by rw [Paired.length rx]; exact Nat.le_refl _⟩⟩
  obtain ⟨x, e1, r1⟩ := Reps.get rx e
  refine ⟨⟨xs, x, hx, e1⟩, fun y H2 ⟨eH, hy⟩ => ?_⟩
  subst eH
  have q := hy xs hx
  rw [e1] at q
  cases q
  exact ⟨R', Same.refl _, .refl, r, r1.mono s⟩
theorem itok_rng (lo : Int) (n : Nat) : ItOk K mg Z P R (Itr lo n) (rng lo n) := fun R' as' G' m' σ' H' r s => by
  refine ⟨fun i t e => ?_, by rw [rng_len]; exact Nat.le_refl _⟩
  obtain ⟨hi, rfl⟩ := rng_get e
  exact ⟨hi, fun x H2 ⟨eH, ex⟩ => by subst eH; subst ex; exact ⟨R', Same.refl _, .refl, r, .int _⟩⟩
theorem itok_zip {a b : Addr} {xs ys : List V} {ts us : List Tr} (h : R a = some (.lst xs)) (h' : R b = some (.lst ys)) (rx : Reps K mg R xs ts) (ry : Reps K mg R ys us) : ItOk K mg Z P R (Itz K a b) (zipT ts us) := fun R' as' G' m' σ' H' r s => by
  have hx : SqL K H' a xs := .of (r.ex _ _ (s _ _ h))
  have hy : SqL K H' b ys := .of (r.ex _ _ (s _ _ h'))
  refine ⟨fun i t e => ?_, ⟨xs, ys, hx, hy, ?_⟩⟩
  · unfold zipT at e
    rw [List.getElem?_zipWith] at e
    cases e1 : ts[i]? with
    | none => rw [e1] at e; cases e
    | some x =>
      cases e2 : us[i]? with
      | none => rw [e1, e2] at e; cases e
      | some y =>
        rw [e1, e2] at e
        cases e
        obtain ⟨v, q1, q2⟩ := Reps.get rx e1
        obtain ⟨w, q3, q4⟩ := Reps.get ry e2
        refine ⟨⟨xs, ys, v, w, hx, hy, q1, q3⟩, fun z H2 ⟨T, v', w', ez, hT, eH, hv, hw⟩ => ?_⟩
        subst ez eH
        have z1 := hv xs hx
        have z2 := hw ys hy
        rw [q1] at z1
        rw [q3] at z2
        cases z1
        cases z2
        obtain ⟨r', n'⟩ := r.laid (o := .tup [v, w]) hT
        exact ⟨_, n'.r, n', r', .tupP upd_same (.cons (q2.mono (s.trans n'.r)) (.cons (q4.mono (s.trans n'.r)) .nil))⟩
  · unfold zipT
    rw [List.length_zipWith, Paired.length rx, Paired.length ry]
    omega
theorem enum_get {ts : List Tr} {i : Nat} {t : Tr} (e : (enumT ts)[i]? = some t) : ∃ x, ts[i]? = some x ∧ t = .tup [.int (i : Nat), x] := by
  unfold enumT at e
  rw [List.getElem?_map] at e
  by_cases hi : i < ts.length
  · rw [List.getElem?_range hi] at e
    have e := (Option.some.inj e).symm
    refine ⟨ts[i], List.getElem?_eq_getElem hi, ?_⟩
    rw [e]
    simp [List.getD_eq_getElem?_getD, hi]
  · rw [List.getElem?_eq_none (by rw [List.length_range]; omega)] at e; cases e
theorem enum_len (ts : List Tr) : (enumT ts).length = ts.length := by unfold enumT; rw [List.length_map, List.length_range]
theorem itok_enum {a : Addr} {xs : List V} {ts : List Tr} (h : SqL K R a xs) (rx : Reps K mg R xs ts) : ItOk K mg Z P R (Ite K a) (enumT ts) := fun R' as' G' m' σ' H' r s => by
  have hx : SqL K H' a xs := Same.seq (s.trans r.ex) h
  refine ⟨fun i t e => ?_, ⟨xs, hx, by rw [enum_len, Paired.length rx]; exact Nat.le_refl _⟩⟩
  obtain ⟨x, e1, rfl⟩ := enum_get e
  obtain ⟨v, q1, q2⟩ := Reps.get rx e1
  refine ⟨⟨xs, v, hx, q1⟩, fun z H2 ⟨T, v', ez, hT, eH, hv⟩ => ?_⟩
  subst ez eH
  have z1 := hv xs hx
  rw [q1] at z1
  cases z1
  obtain ⟨r', n'⟩ := r.laid (o := .tup [.int (i : Nat), v]) hT
  exact ⟨_, n'.r, n', r', .tupP upd_same (.cons (.int _) (.cons (q2.mono (s.trans n'.r)) .nil))⟩
theorem itok_str (z : Str) : ItOk K mg Z P R (Its z) (z.cps.toList.map fun c => .str ⟨#[c]⟩) := fun R' as' G' m' σ' H' r s => by
  refine ⟨fun i t e => ?_, by rw [List.length_map, Array.length_toList]; exact Nat.le_refl _⟩
  rw [List.getElem?_map] at e
  cases q : z.cps.toList[i]? with
  | none => rw [q] at e; cases e
  | some c =>
    rw [q] at e
    cases e
    have hi : i < z.cps.size := by have := (List.getElem?_eq_some_iff.mp q).1; rwa [Array.length_toList] at this
    refine ⟨hi, fun x H2 ⟨eH, c', ec, ex⟩ => ?_⟩
    subst eH ex
    have : z.cps[i]? = some c := by rw [← q]; simp
    rw [this] at ec
    cases ec
    exact ⟨R', Same.refl _, .refl, r, .str _⟩
end
section
variable {X : Cx} {Z : Rsc} {W : WX} {tg e e2 : Expr} {ve vf : VE} {vg : VG} {vi : VI} {body : List Stmt} {u : VS} {p pos : Pos}
theorem vi_list (h : PE X e (LE X.K X.mg Z W ve)) : PI X tg e (LI X.K X.mg Z W (viL ve)) :=
  PI.imp (pi_list h) fun σ H Q ⟨P, R, as, G, m, k, x, r, h, n, er⟩ => LE.go r h (fun d v R1 H1 ⟨ts, ed, h1⟩ n1 r1 d1 => by
    rcases ed with ed | ⟨ns, ed, et⟩
    · subst ed
      cases d1 with
      | t rv =>
        obtain ⟨a, xs, rfl, hx, rx⟩ := rv.lst_inv
        exact ⟨a, rfl, ⟨xs, .of (r1.ex _ _ hx)⟩, n ts _ R1 H1 h1 n1 r1 fun P' _ _ _ _ => itok_list hx rx⟩
    · subst ed et
      cases d1 with
      | t rv =>
        cases rv with
        | @scr a _ hx => exact ⟨a, rfl, ⟨_, Same.seq r1.ex hx⟩, n _ _ R1 H1 h1 n1 r1 fun P' _ _ _ _ => itok_scr hx⟩) er
theorem vi_tup (h : PE X e (LE X.K X.mg Z W ve)) : PI X tg e (LI X.K X.mg Z W (viT ve)) :=
  PI.imp (pi_tup h) fun σ H Q ⟨P, R, as, G, m, k, x, r, h, n, er⟩ => LE.go r h (fun d v R1 H1 ⟨ts, ed, h1⟩ n1 r1 d1 => by
    subst ed
    cases d1 with
    | t rv =>
      obtain ⟨a, xs, rfl, hx, rx⟩ := rv.tup_inv
      exact ⟨a, rfl, ⟨xs, .of (r1.ex _ _ hx)⟩, n ts _ R1 H1 h1 n1 r1 fun P' _ _ _ _ => itok_tup hx rx⟩) er
theorem vi_range1 (hg : Gl X "range") (hm : X.mg "range" = none) (h : PE X e (LE X.K X.mg Z W ve)) (hs : starEach [e] X.env = [(false, eval e X.env)] := by rfl) : PI X tg (.Call (.Name "range" p) [e] [] pos) (LI X.K X.mg Z W (viR1 ve)) :=
  PI.imp (pi_range1 hg hm (pa_cons h pa_nil hs) hs) fun σ H Q ⟨P, R, as, G, m, k, x, r, h, n, er⟩ => LE.go r h (fun d v R1 H1 ⟨j, e1, a1, a2, h1⟩ n1 r1 d1 => ⟨j, by rw [r1.vInt d1 e1], a1, a2, n _ _ R1 H1 h1 n1 r1 fun P' _ _ _ _ => itok_rng _ _⟩) er
theorem vi_range2 (hg : Gl X "range") (hm : X.mg "range" = none) (h : PE X e (LE X.K X.mg Z W ve)) (h' : PE X e2 (LE X.K X.mg Z W vf)) (hs : starEach [e, e2] X.env = [(false, eval e X.env), (false, eval e2 X.env)] := by rfl) (hs2 : starEach [e2] X.env = [(false, eval e2 X.env)] := by rfl) (hs3 : starEach [e, e2] X.env = (false, eval e X.env) :: starEach [e2] X.env := by rfl) :
    PI X tg (.Call (.Name "range" p) [e, e2] [] pos) (LI X.K X.mg Z W (viR2 ve vf)) :=
  PI.imp (pi_range2 hg hm (pa_cons h (pa_cons h' pa_nil hs2) hs3) hs hs2) fun σ H Q ⟨P, R, as, G, m, k, x, r, h, n, er⟩ => LE.go r h (fun d v R1 H1 h1 n1 r1 d1 => LE.go r1 h1 (fun d2 v2 R2 H2 ⟨i, j, e1, e2, a, h2⟩ n2 r2 d2' =>
    ⟨i, j, by rw [r1.vInt d1 e1, r2.vInt d2' e2], a, n _ _ R2 H2 h2 (n1.trans n2) r2 fun P' _ _ _ _ => itok_rng _ _⟩) fun nm cl R' H' a b c d => er nm cl R' H' a b (n1.trans c) d) er
theorem vi_zip {tpos : Pos} {elts : List Expr} {kk : Nat} (hp : ∀ {ta : TA}, PA X [e, e2] ta → PI X (.Tuple elts kk tpos) (.Call (.Name "zip" p) [e, e2] [] pos) (iZip X.K ta)) (h : PE X e (LE X.K X.mg Z W ve)) (h' : PE X e2 (LE X.K X.mg Z W vf)) (hs2 : starEach [e2] X.env = (false, eval e2 X.env) :: starEach [] X.env := by rfl) (hs3 : starEach [e, e2] X.env = (false, eval e X.env) :: starEach [e2] X.env := by rfl) :
    PI X (.Tuple elts kk tpos) (.Call (.Name "zip" p) [e, e2] [] pos) (LI X.K X.mg Z W (viZip ve vf)) :=
  PI.imp (hp (pa_cons h (pa_cons h' pa_nil hs2) hs3)) fun σ H Q ⟨P, R, as, G, m, k, x, r, h, n, er⟩ => LE.go r h (fun d v R1 H1 h1 n1 r1 d1 => LE.go r1 h1 (fun d2 v2 R2 H2 ⟨ts, us, e1, e2, h2⟩ n2 r2 d2' => by
    subst e1 e2
    have d1 := d1.mono n2.r
    cases d1 with
    | t rv => cases d2' with
      | t rw' =>
        obtain ⟨a, xs, rfl, hx, rx⟩ := rv.lst_inv
        obtain ⟨b, ys, rfl, hy, ry⟩ := rw'.lst_inv
        exact ⟨a, b, xs, ys, rfl, .of (r2.ex _ _ hx), .of (r2.ex _ _ hy), n _ _ R2 H2 h2 (n1.trans n2) r2 fun P' _ _ _ _ => itok_zip hx hy rx ry⟩) fun nm cl R' H' a b c d => er nm cl R' H' a b (n1.trans c) d) er
theorem vi_enum {tpos : Pos} {elts : List Expr} {kk : Nat} (hg : Gl X "enumerate") (hm : X.mg "enumerate" = none) (h : PE X e (LE X.K X.mg Z W ve)) (hs : starEach [e] X.env = [(false, eval e X.env)] := by rfl) :
    PI X (.Tuple elts kk tpos) (.Call (.Name "enumerate" p) [e] [] pos) (LI X.K X.mg Z W (viEnum ve)) :=
  PI.imp (pi_enum hg hm (pa_cons h pa_nil hs) hs) fun σ H Q ⟨P, R, as, G, m, k, x, r, h, n, er⟩ => LE.go r h (fun d v R1 H1 ⟨ts, ed, h1⟩ n1 r1 d1 => by
    rcases ed with ed | ⟨ns, ed, et⟩
    · subst ed
      cases d1 with
      | t rv =>
        obtain ⟨a, xs, rfl, hx, rx⟩ := rv.lst_inv
        exact ⟨a, xs, rfl, .of (r1.ex _ _ hx), n _ _ R1 H1 h1 n1 r1 fun P' _ _ _ _ => itok_enum (.of hx) rx⟩
    · subst ed et
      cases d1 with
      | t rv =>
        cases rv with
        | @scr a _ hx => exact ⟨a, _, rfl, Same.seq r1.ex hx, n _ _ R1 H1 h1 n1 r1 fun P' _ _ _ _ => itok_enum hx (ints_reps ns)⟩) er
theorem vi_str (h : PE X e (LE X.K X.mg Z W ve)) : PI X tg e (LI X.K X.mg Z W (viStr ve)) :=
  PI.imp (pi_str h) fun σ H Q ⟨P, R, as, G, m, k, x, r, h, n, er⟩ => LE.go r h (fun d v R1 H1 ⟨z, e1, h1⟩ n1 r1 d1 => ⟨z, r1.vStr d1 e1, n _ _ R1 H1 h1 n1 r1 fun P' _ _ _ _ => itok_str z⟩) er

/-- for target in walked: body -/
abbrev vFor (it : VI) (tg : VG) (body : VS) : VS := fun nx rt bk ct ex G m => it G m (fun ts => ∃ I : Nat → Env → Sto → Prop, I 0 G m ∧
  (∀ (i : Nat) t G' m', ts[i]? = some t → I i G' m' → tg t G' (fun G2 => body (I (i + 1)) rt nx (I (i + 1)) ex G2 m')) ∧ ∀ G' m', I ts.length G' m' → nx G' m') (fun n => ex n m)
theorem vs_for (hp : PassesOwn (model X.prog X.w) X.A X.env X.xe) (hc : X.calm = true) (hi : PI X tg e (LI X.K X.mg Z W vi)) (hg : PG X tg (LG X.K X.mg Z none vg)) (hb : PSs X body (LS X.K X.mg Z W u))
    (hs : ∀ x, foldedSetIterable e X.env x = pure x := by intro _; rfl) : PS X (.For tg e body [] pos) (LS X.K X.mg Z W (vFor vi vg u)) :=
  PS.imp (ps_for hp hc hi hg hb hs) fun D σ H ⟨P, R, as, G, m, nx, rt, bk, ct, ex, r, h, k⟩ => ⟨P, R, as, G, m, _, _, r, h, fun ts J R1 H1 ⟨I, h0, hs, hd⟩ n1 r1 ok => by
    have okP := ok (P.at R1) rfl rfl rfl rfl
    refine ⟨fun i q σ' H' => q = ts.length - i ∧ i ≤ ts.length ∧ ∃ R' as' G' m', Rel X.K X.mg Z (P.at R1) R' as' G' m' σ' H' ∧ I i G' m', ⟨ts.length, by simp, Nat.zero_le _, R1, as, G, m, r1.base, h0⟩, ?_⟩
    rintro i q σ' H' ⟨rfl, hi, R', as', G', m', r', hI⟩
    obtain ⟨ok1, ok2⟩ := okP R' as' G' m' σ' H' r' r'.r0
    by_cases hlt : i < ts.length
    · have ht : ts[i]? = some ts[i] := List.getElem?_eq_getElem hlt
      obtain ⟨hgo, hy⟩ := ok1 i _ ht
      refine .inr ⟨hgo, fun σ2 H2 => i + 1 ≤ ts.length ∧ ∃ R2 as2 G2 m2, Rel X.K X.mg Z (P.at R1) R2 as2 G2 m2 σ2 H2 ∧ I (i + 1) G2 m2, fun σ2 H2 ⟨a, b⟩ => ⟨ts.length - (i + 1), by omega, rfl, a, b⟩, fun x H2 hx => ?_⟩
      obtain ⟨R2, _, _, r2, rv⟩ := hy x H2 hx
      refine ⟨P.at R1, R2, as', G', m', _, _, r2, rv, hs i _ G' m' ht hI, fun G3 σ3 h3 _ r3 => ⟨P.at R1, R2, as', G3, m', _, _, _, _, _, r3, h3, ?_⟩⟩
      have kk := k.at r1
      exact ⟨fun G m R as σ H a b => ⟨hlt, R, as, G, m, b, a⟩, kk.rt, kk.nx, fun G m R as σ H a b => ⟨hlt, R, as, G, m, b, a⟩, kk.ex⟩
    · have e : i = ts.length := by omega
      subst e
      exact .inl ⟨ok2, k.nx G' m' R' as' σ' H' (hd G' m' hI) (r1.unbase r')⟩, k.er⟩
end
end VL

/-! VL, part H: comprehensions, while, calls, promises. -/
namespace VL
open PySem L2

section
variable {K : PySem.W.Frag} {mg : Str → Option Value} {Z : Rsc} {P : Pm} {R R' H H' : Hp} {as : List Addr} {G : Env} {m : Sto} {σ : L2.St}
/-- an object that nobody knows changes -/
theorem Rel.poke (r : Rel K mg Z P R as G m σ H) {a : Addr} {o : HO} (hR : R a = none) (hB : ¬ P.B a) (h0 : P.H0 a = none) (hA : ∀ (j : Nat) x, m[j]? = some (some x) → as[j]? ≠ some a) : Rel K mg Z P R as G m σ (upd H a o) :=
  { r with
    ex := same_put hR r.ex
    sto := fun j x e => by
      obtain ⟨b, q1, q2, q3, q4, q5⟩ := r.sto j x e
      have hb : b ≠ a := fun z => hA j x e (by rw [← z]; exact q1)
      exact ⟨b, q1, q2.mono (Same.refl R) fun u q => by rw [upd_ne hb]; exact q, q3, q4, q5⟩
    vol := Z.st _ _ _ _ (fun b hb => upd_ne fun z => hB (by rw [← z]; exact hb)) r.vol
    frame := fun b u e n1 n2 => by
      have hb : b ≠ a := fun z => by rw [z, h0] at e; cases e
      rw [upd_ne hb]
      exact r.frame b u e n1 n2
    dom := fun b e => by
      by_cases hb : b = a
      · subst hb; rw [upd_same]; simp
      · rw [upd_ne hb]; exact r.dom b e }
/-- such an object becomes known -/
theorem Rel.know (r : Rel K mg Z P R as G m σ H) {a : Addr} {o : HO} (ha : H a = some o) (hR : R a = none) (hB : ¬ P.B a) (h0 : P.H0 a = none) (hA : ∀ (j : Nat) x, m[j]? = some (some x) → as[j]? ≠ some a) : Same R (upd R a o) ∧ Rel K mg Z P (upd R a o) as G m σ H := by
  have sr : Same R (upd R a o) := same_new hR
  refine ⟨sr, { r with ex := fun b u e => ?_, env := fun i d e => ?_, sto := fun j x e => ?_, rb := fun b hb => ?_, fresh := fun b e => ?_, r0 := r.r0.trans sr }⟩
  · by_cases hb : b = a
    · subst hb; rw [upd_same] at e; cases e; exact ha
    · rw [upd_ne hb] at e; exact r.ex b u e
  · obtain ⟨x, h1, h2⟩ := r.env i d e
    exact ⟨x, h1, h2.mono sr⟩
  · obtain ⟨b, q1, q2, q3, q4, q5⟩ := r.sto j x e
    have hb : b ≠ a := fun z => hA j x e (by rw [← z]; exact q1)
    exact ⟨b, q1, q2.mono sr fun _ q => q, by rw [upd_ne hb]; exact q3, q4, q5⟩
  · rw [upd_ne fun z => hB (by rw [← z]; exact hb)]
    exact r.rb b hb
  · by_cases hb : b = a
    · subst hb; exact .inr h0
    · rw [upd_ne hb] at e; exact r.fresh b e
def wipeG (G : Env) : List Nat → Env
  | [] => G
  | v :: vs => (wipeG G vs).set v none
theorem wipeG_len (G : Env) : ∀ vs : List Nat, (wipeG G vs).length = G.length
  | [] => rfl
  | v :: vs => by unfold wipeG; rw [List.length_set, wipeG_len G vs]
theorem wipeG_at {G : Env} {i : Nat} {d : Dv} : ∀ {vs : List Nat}, (wipeG G vs)[i]? = some (some d) → G[i]? = some (some d) ∧ i ∉ vs
  | [], h => ⟨h, by simp⟩
  | v :: vs, h => by
    unfold wipeG at h
    by_cases hi : v = i
    · subst hi
      by_cases hv : v < (wipeG G vs).length
      · rw [List.getElem?_set_self hv] at h; cases h
      · rw [List.getElem?_eq_none (by simpa using hv)] at h; cases h
    · rw [List.getElem?_set_ne hi] at h
      obtain ⟨h1, h2⟩ := wipeG_at h
      exact ⟨h1, by simp only [List.mem_cons, not_or]; exact ⟨fun e => hi e.symm, h2⟩⟩
theorem wipe_keep {i : Nat} {x : V} : ∀ {σ : L2.St} {vs : List Nat}, σ[i]? = some (some x) → i ∉ vs → (wipe σ vs)[i]? = some (some x)
  | σ, [], h, _ => h
  | σ, v :: vs, h, n => by
    unfold wipe
    have hi : v ≠ i := fun z => n (by rw [z]; exact List.mem_cons_self)
    rw [List.getElem?_set_ne hi]
    exact wipe_keep h fun z => n (List.mem_cons_of_mem _ z)
theorem Rel.wipe (r : Rel K mg Z P R as G m σ H) (vs : List Nat) : Rel K mg Z P R as (wipeG G vs) m (L2.wipe σ vs) H :=
  { r with
    len := by rw [wipeG_len, wipe_length]; exact r.len
    env := fun i d e => by
      obtain ⟨h1, h2⟩ := wipeG_at e
      obtain ⟨x, q1, q2⟩ := r.env i d h1
      exact ⟨x, wipe_keep q1 h2, q2⟩ }
/-- the same state for other names -/
theorem Rel.names (r : Rel K mg Z P R as G m σ H) {G' : Env} {σ' : L2.St} {R0' : Hp} {H0' : Hp} (r0 : Rel K mg Z P R0' as G' m σ' H0') (s : Same R0' R) : Rel K mg Z P R as G' m σ' H :=
  { r with len := r0.len, env := fun i d e => let ⟨x, h1, h2⟩ := r0.env i d e; ⟨x, h1, h2.mono s⟩ }
end

/-! ### comprehensions -/
def noX : XK := fun _ => False
abbrev vLc (it : VI) (tg : VG) (ts : VT) (el : VE) (vs : List Nat) : VE := fun G m k x => it G m (fun us => ∃ I : Nat → List Tr → Prop, I 0 [] ∧
  (∀ (i : Nat) t acc, us[i]? = some t → I i acc → tg t (wipeG G vs) (fun G2 => ts G2 m (fun b => (b = true → el G2 m (fun d => ∃ y, d = .t y ∧ acc.length < sizeLine ∧ I (i + 1) (acc ++ [y])) noX) ∧ (b = false → I (i + 1) acc)) noX)) ∧
  ∀ acc, I us.length acc → k (.t (.lst acc))) x
abbrev vtYes : VT := fun _ _ k _ => k true
section
variable {X : Cx} {Z : Rsc} {W W' : WX}
structure PTv (X : Cx) (Z : Rsc) (W : WX) (ifs : List Expr) (t : VT) : Prop where
  p : PTs X ifs (LT X.K X.mg Z W t)
theorem vts_nil : PTs X [] (LT X.K X.mg Z W vtYes) := ⟨fun pins s σ H Q I ⟨P, R, as, G, m, k, x, r, h, n⟩ => pts_nil.run pins s σ H Q I (n.ok _ R H h .refl r)⟩
theorem vts_one {c : Expr} {t : VT} (h : PT X c (LT X.K X.mg Z W t)) : PTs X [c] (LT X.K X.mg Z W t) := pts_one h
theorem lc_of {K : PySem.W.Frag} {mg : Str → Option Value} {it : VI} {tg : VG} {ts : VT} {el : VE} {vs : List Nat} : ∀ σ H Q, LE K mg Z W (vLc it tg ts el vs) σ H Q → tLc (LI K mg Z W it) (LG K mg Z (some vs) tg) (LT K mg Z W' ts) (LE K mg Z W' el) vs σ H Q :=
  fun σ H Q ⟨P, R, as, G, m, k, x, r, h, n⟩ => ⟨P, R, as, G, m, _, x, r, h, fun us J R1 H1 ⟨I, h0, hs, hd⟩ n1 r1 ok D hD => by
    have okP := ok (P.at R1) rfl rfl rfl rfl
    have b1 := r1.base
    have hR := b1.newR hD
    have hB := b1.newB hD
    have h0D : (P.at R1).H0 D = none := b1.new0 hD
    have hA : ∀ (j : Nat) x, m[j]? = some (some x) → as[j]? ≠ some D := fun j x e => b1.newA hD e
    -- what holds between the turns
    have W0 : Rel K mg Z (P.at R1) R1 as G m σ (upd H1 D (.lst [])) := b1.poke hR hB h0D hA
    refine ⟨fun i q H' => q = us.length - i ∧ i ≤ us.length ∧ ∃ R' acc xs, Rel K mg Z (P.at R1) R' as G m σ H' ∧ R' D = none ∧ H' D = some (.lst xs) ∧ Reps K mg R' xs acc ∧ I i acc ∧ Nx P R1 H1 R' H', ⟨us.length, by simp, Nat.zero_le _, R1, [], [], W0, hR, upd_same, .nil, h0, ⟨Same.refl _, fun a o ha e => by rw [upd_ne (ne_of_none e hD)]; exact e, fun a e => .inl e, fun a e => by
        by_cases hb : a = D
        · subst hb; rw [upd_same]; simp
        · rw [upd_ne hb]; exact e⟩⟩, ?_⟩
    rintro i q H' ⟨rfl, hi, R', acc, xs, r', hR', hx, rx, hI, nn⟩
    obtain ⟨ok1, ok2⟩ := okP R' as G m σ H' r' r'.r0
    by_cases hlt : i < us.length
    · have ht : us[i]? = some us[i] := List.getElem?_eq_getElem hlt
      obtain ⟨hgo, hy⟩ := ok1 i _ ht
      refine .inr ⟨hgo, fun H2 => i + 1 ≤ us.length ∧ ∃ R2 acc2 xs2, Rel K mg Z (P.at R1) R2 as G m σ H2 ∧ R2 D = none ∧ H2 D = some (.lst xs2) ∧ Reps K mg R2 xs2 acc2 ∧ I (i + 1) acc2 ∧ Nx P R1 H1 R2 H2, fun H2 ⟨a, b⟩ => ⟨us.length - (i + 1), by omega, rfl, a, b⟩, fun v H2 hv => ?_⟩
      obtain ⟨R2, s2, n2, r2, rv⟩ := hy v H2 hv
      refine ⟨P.at R1, R2, as, _, m, _, _, r2.wipe vs, rv, hs i _ acc ht hI, fun G3 σ3 h3 s3 r3 => ⟨?_, ?_⟩⟩
      · have e : ∀ (σ : L2.St) (vs : List Nat), L2.wipe (L2.wipe σ vs) vs = L2.wipe σ vs := fun σ vs => by
          have gen : ∀ us : List Nat, (∀ u ∈ us, u ∈ vs) → L2.wipe (L2.wipe σ vs) us = L2.wipe σ vs := fun us => by
            induction us with
            | nil => intro _; rfl
            | cons u us ih =>
              intro hu
              rw [L2.wipe, ih fun z hz => hu z (List.mem_cons_of_mem _ hz)]
              refine List.ext_getElem? fun j => ?_
              have hz : ∀ (ws : List Nat), u ∈ ws → u < σ.length → (L2.wipe σ ws)[u]? = some none := fun ws => by
                induction ws with
                | nil => intro h _; exact absurd h (by simp)
                | cons w ws ihw =>
                  intro h hl
                  rw [L2.wipe]
                  by_cases hw : w = u
                  · subst hw; rw [List.getElem?_set_self (by rw [wipe_length]; exact hl)]
                  · rw [List.getElem?_set_ne hw]
                    rcases List.mem_cons.mp h with z | z
                    · exact absurd z.symm hw
                    · exact ihw z hl
              by_cases hj : u = j
              · subst hj
                by_cases hl : u < σ.length
                · rw [List.getElem?_set_self (by rw [wipe_length]; exact hl), hz vs (hu u List.mem_cons_self) hl]
                · rw [List.getElem?_eq_none (by rw [List.length_set, wipe_length]; omega), List.getElem?_eq_none (by rw [wipe_length]; omega)]
              · rw [List.getElem?_set_ne hj]
          exact gen vs fun _ h => h
        exact Eq.trans s3 (e σ vs)
      · have clear : ∀ {Ra Ha Rb Hb : Hp}, Nx (P.at R1) Ra Ha Rb Hb → Ra D = none → Ha D = some (.lst xs) → Rb D = none ∧ Hb D = some (.lst xs) := fun {Ra Ha Rb Hb} n0 h1 h2 => by
          refine ⟨?_, n0.h D _ hB h2⟩
          cases q : Rb D with
          | none => rfl
          | some u =>
            rcases n0.n D (by rw [q]; simp) with z | z
            · exact absurd h1 z
            · rw [h2] at z; cases z
        have n2' : Nx (P.at R1) R' H' R2 H2 := ⟨n2.r, n2.h, n2.n, n2.d⟩
        obtain ⟨c1, c2⟩ := clear n2' hR' hx
        refine LT.go r3 h3 (fun b R4 H4 ⟨hb1, hb2⟩ n4 r4 => ?_) fun nm cl R4 H4 z => z.elim
        obtain ⟨c3, c4⟩ := clear n4 c1 c2
        have nn4 : Nx P R1 H1 R4 H4 := (nn.trans ⟨n2'.r, n2'.h, n2'.n, n2'.d⟩).trans ⟨n4.r, n4.h, n4.n, n4.d⟩
        cases b with
        | false =>
          rw [if_neg Bool.false_ne_true]
          exact ⟨hlt, R4, acc, xs, r4.names r' (s2.trans n4.r), c3, c4, Reps.mono (s2.trans n4.r) rx, hb2 rfl, nn4⟩
        | true =>
          rw [if_pos rfl]
          refine LE.go r4 (hb1 rfl) (fun d w R5 H5 ⟨y, ey, hz, hI5⟩ n5 r5 d5 => ?_) fun nm cl R4 H4 z => z.elim
          subst ey
          obtain ⟨c5, c6⟩ := clear n5 c3 c4
          have s5 : Same R' R5 := (s2.trans n4.r).trans n5.r
          have nn5 : Nx P R1 H1 R5 H5 := nn4.trans ⟨n5.r, n5.h, n5.n, n5.d⟩
          cases d5 with
          | t rw' =>
            refine ⟨xs, c6, by rw [Paired.length rx]; exact hz, hlt, R5, acc ++ [y], xs ++ [w], (r5.names r' s5).poke c5 hB h0D hA, c5, upd_same, paired_append (Reps.mono s5 rx) (.cons rw' .nil), hI5, nn5.r, fun a o ha e => ?_, nn5.n, fun a e => ?_⟩
            · have ha' : a ≠ D := fun z => by rw [z, hD] at e; cases e
              rw [upd_ne ha']
              exact nn5.h a o ha e
            · by_cases hb : a = D
              · subst hb; rw [upd_same]; simp
              · rw [upd_ne hb]; exact nn5.d a e
    · have e : i = us.length := by omega
      subst e
      obtain ⟨sr, rk⟩ := r'.know hx hR' hB h0D hA
      have nf : Nx P R1 H1 (upd R' D (.lst xs)) H' := ⟨nn.r.trans sr, nn.h, fun a e => by
        by_cases hb : a = D
        · subst hb; exact .inr hD
        · rw [upd_ne hb] at e; exact nn.n a e, nn.d⟩
      exact .inl ⟨ok2, n.ok (.t (.lst acc)) (.ref D) _ _ (hd acc hI) (n1.trans nf) (r1.unbase rk) (.t (.lstP upd_same (Reps.mono sr rx)))⟩, n.er⟩
end
end VL

/-! VL, part I: comprehensions as rules, while, stores to items, built-in calls. -/
namespace VL
open PySem L2

section
variable {X : Cx} {Z : Rsc} {W W' : WX} {e tg iter elt c : Expr} {ifs : List Expr} {vi : VI} {vg : VG} {vt : VT} {ve : VE} {body : List Stmt} {u : VS} {pos spos : Pos}
theorem v_lc {scope : Scope} {own : List (Str × Nat)} (hc : X.calm = true) (hN : X.N.Nodup) (hi : PI X tg iter (LI X.K X.mg Z W vi)) (ok : BlkOk X.N X.env.scope scope own)
    (hg : ∀ (s : Shared) (H : Hp) (C : Addr) (cl : List (Str × Addr)) (fp : List Addr), PG (X.blk s H scope (compEnvC scope cl C X.env) fp) tg (LG X.K X.mg Z (some (own.map (·.2))) vg))
    (ht : ∀ (s : Shared) (H : Hp) (C : Addr) (cl : List (Str × Addr)) (fp : List Addr), PTs (X.blk s H scope (compEnvC scope cl C X.env) fp) ifs (LT X.K X.mg Z W' vt))
    (he : ∀ (s : Shared) (H : Hp) (C : Addr) (cl : List (Str × Addr)) (fp : List Addr), PE (X.blk s H scope (compEnvC scope cl C X.env) fp) elt (LE X.K X.mg Z W' ve)) (hs : ∀ x, foldedSetIterable iter X.env x = pure x := by intro _; rfl) :
    PE X (.ListComp elt [⟨tg, iter, ifs, 0⟩] scope pos) (LE X.K X.mg Z W (vLc vi vg vt ve (own.map (·.2)))) := PE.imp (pe_lc hc hN hi ok hg ht he hs) lc_of
theorem vs_setLc {i : Nat} {y : Str} {py : Pos} {scope : Scope} {own : List (Str × Nat)} (hc : X.calm = true) (hN : X.N.Nodup) (hy : X.N[i]? = some y) (hyl : X.env.scope.names.lookup y = some .local)
    (hsw : swapsWith (.ListComp elt [⟨tg, iter, ifs, 0⟩] scope pos) (some (.Name y py)) spos.line X.env = pure true) (hi : PI X tg iter (LI X.K X.mg Z W vi)) (ok : BlkOk X.N X.env.scope scope own)
    (hg : ∀ (s : Shared) (H : Hp) (C : Addr) (cl : List (Str × Addr)) (fp : List Addr), PG (X.blk s H scope (compEnvC scope cl C X.env) fp) tg (LG X.K X.mg Z (some (own.map (·.2))) vg))
    (ht : ∀ (s : Shared) (H : Hp) (C : Addr) (cl : List (Str × Addr)) (fp : List Addr), PTs (X.blk s H scope (compEnvC scope cl C X.env) fp) ifs (LT X.K X.mg Z W' vt))
    (he : ∀ (s : Shared) (H : Hp) (C : Addr) (cl : List (Str × Addr)) (fp : List Addr), PE (X.blk s H scope (compEnvC scope cl C X.env) fp) elt (LE X.K X.mg Z W' ve)) (hs : ∀ x, foldedSetIterable iter X.env x = pure x := by intro _; rfl) :
    PS X (.Assign [.Name y py] (.ListComp elt [⟨tg, iter, ifs, 0⟩] scope pos) spos) (LS X.K X.mg Z W (vSet i (vLc vi vg vt ve (own.map (·.2))))) :=
  PS.imp (ps_setLc hc hN hy hyl hsw hi ok hg ht he hs) fun D σ H ⟨P, R, as, G, m, nx, rt, bk, ct, ex, r, h, k⟩ => by
    refine lc_of (W := W) σ H _ ?_
    exact LE.go r h (fun d v R1 H1 h1 n1 r1 d1 => k.nx _ m R1 as _ H1 h1 (r1.set d1)) k.er

/-- while test: body -/
def vWh (t : VT) (body : VS) : VS := fun nx rt bk ct ex G m => ∃ I : Nat → Env → Sto → Prop, (∃ q, I q G m) ∧ ∀ q G' m', I q G' m' →
  t G' m' (fun c => (c = true → body (fun G2 m2 => ∃ q', q' < q ∧ I q' G2 m2) rt nx (fun G2 m2 => ∃ q', q' < q ∧ I q' G2 m2) ex G' m') ∧ (c = false → nx G' m')) (fun n => ex n m')
theorem vs_while (hp : PassesOwn (model X.prog X.w) X.A X.env X.xe) (hc : PT X c (LT X.K X.mg Z W vt)) (hb : PSs X body (LS X.K X.mg Z W u)) : PS X (.While c body [] pos) (LS X.K X.mg Z W (vWh vt u)) :=
  PS.imp (ps_while hp hc hb) fun D σ H ⟨P, R, as, G, m, nx, rt, bk, ct, ex, r, ⟨I, ⟨q0, h0⟩, hs⟩, k⟩ => by
    refine ⟨fun q σ H => ∃ R as G m, Rel X.K X.mg Z P R as G m σ H ∧ I q G m, ⟨q0, R, as, G, m, r, h0⟩, ?_⟩
    rintro q σ' H' ⟨R', as', G', m', r', hI⟩
    refine LT.go r' (hs q G' m' hI) (fun c R1 H1 ⟨h1, h2⟩ n1 r1 => ?_) k.er
    cases c with
    | true =>
      rw [if_pos rfl]
      refine ⟨fun σ2 H2 => ∃ q', q' < q ∧ ∃ R as G m, Rel X.K X.mg Z P R as G m σ2 H2 ∧ I q' G m, fun σ2 H2 ⟨q', a, b⟩ => ⟨q', a, b⟩, P, R1, as', G', m', _, _, _, _, _, r1, h1 rfl, ?_⟩
      exact ⟨fun G m R as σ H ⟨q', a, b⟩ c => ⟨q', a, R, as, G, m, c, b⟩, k.rt, k.nx, fun G m R as σ H ⟨q', a, b⟩ c => ⟨q', a, R, as, G, m, c, b⟩, k.ex⟩
    | false =>
      rw [if_neg Bool.false_ne_true]
      exact k.nx _ _ _ _ _ _ (h2 rfl) r1

/-! ### o[i] = e -/
def rSetI : TSet := fun o i v H Q => rSetL o i v H Q ∨ rSetD o i v H Q
theorem set_item (hu : X.A.units + 1 < cLine) : PSet X rSetI := fun pins s σ H o i v ov iv u Q I r1 r2 r3 q => q.elim (set_list pins s σ H o i v ov iv u Q I r1 r2 r3) (set_dict hu pins s σ H o i v ov iv u Q I r1 r2 r3)
/-- a dict with one more entry, or another value at a key -/
def putT (ts : List (Key × Tr)) (k : Key) (v : Tr) : List (Key × Tr) := if (ts.any fun kv => decide (kv.1 = k)) = true then ts.map fun kv => if kv.1 = k then (kv.1, v) else kv else ts ++ [(k, v)]
def fSetI (nx : Sto → Prop) : Sto → Dv → Dv → Tr → Prop := fun m o i t => ∃ j, o = .loc j ∧
  ((∃ ts n q, m[j]? = some (some (.lst ts)) ∧ view m i = some (.int n) ∧ ixN ts.length n = some q ∧ nx (m.set j (some (.lst (ts.set q t))))) ∨
   ∃ ts ky, m[j]? = some (some (.dic ts)) ∧ view m i = some (kT ky) ∧ ts.length < sizeLine ∧ nx (m.set j (some (.dic (putT ts ky t)))))
abbrev vSetI (o i e : VE) : VS := fun nx _ _ _ ex G m => e G m (fun y => ∃ t, y = .t t ∧ o G m (fun d => i G m (fun d2 => fSetI (fun m' => nx G m') m d d2 t) (fun n => ex n m)) (fun n => ex n m)) (fun n => ex n m)
theorem put_any {K : PySem.W.Frag} {mg : Str → Option Value} {R : Hp} (ky : Key) {xs : List (Key × V)} {ts : List (Key × Tr)} (h : RepsP K mg R xs ts) : (xs.any fun kv => decide (kv.1 = ky)) = (ts.any fun kv => decide (kv.1 = ky)) := by
  induction h with
  | nil => rfl
  | cons r _ ih => rw [List.any_cons, List.any_cons, ih, r.1]
theorem put_pair {K : PySem.W.Frag} {mg : Str → Option Value} {R : Hp} {v : V} {t : Tr} (rv : Rep K mg R v t) (ky : Key) {xs : List (Key × V)} {ts : List (Key × Tr)} (h : RepsP K mg R xs ts) : RepsP K mg R (putK xs ky v) (putT ts ky t) := by
  unfold putK putT
  rw [put_any ky h]
  split
  · induction h with
    | nil => exact .nil
    | cons r rs ih =>
      rename_i a b l l' hh
      rw [List.map_cons, List.map_cons]
      have ih' : RepsP K mg R (l.map fun kv => if kv.1 = ky then (kv.1, v) else kv) (l'.map fun kv => if kv.1 = ky then (kv.1, t) else kv) := by
        clear ih hh
        induction rs with
        | nil => exact .nil
        | cons r2 rs2 ih2 =>
          rw [List.map_cons, List.map_cons]
          refine .cons ?_ ih2
          rw [r2.1]
          split
          · exact ⟨rfl, rv⟩
          · exact r2
      refine .cons ?_ ih'
      rw [r.1]
      split
      · exact ⟨rfl, rv⟩
      · exact r
  · exact paired_append h (.cons ⟨rfl, rv⟩ .nil)
theorem paired_set {α β : Type} {F : α → β → Prop} {a : α} {b : β} (h : F a b) : ∀ {l : List α} {l' : List β} (i : Nat), Paired F l l' → Paired F (l.set i a) (l'.set i b)
  | _, _, _, .nil => .nil
  | _, _, 0, .cons _ t => .cons h t
  | _, _, i + 1, .cons r t => .cons r (paired_set h i t)
theorem vs_setI {o i value : Expr} {vo vx : VE} {pos' : Pos} (hu : X.A.units + 1 < cLine) (ho : PE X o (LE X.K X.mg Z W vo)) (hi : PE X i (LE X.K X.mg Z W vx)) (hv : PE X value (LE X.K X.mg Z W ve))
    (hp : ∀ {g : TG}, PG X (.Subscript o i pos') g → PS X (.Assign [.Subscript o i pos'] value pos) (tAsg (LE X.K X.mg Z W ve) g))
    (ha : ∀ v, assign (.Subscript o i pos') X.env v = (do
      let ov ← holding [v] (eval o X.env)
      let iv ← holding [v, ov] (eval i X.env)
      standAt pos'
      holding [v, ov, iv] (setItem ov iv v)
      release [v, ov, iv] []) := by intro _; rfl) : PS X (.Assign [.Subscript o i pos'] value pos) (LS X.K X.mg Z W (vSetI vo vx ve)) :=
  PS.imp (hp (pg_sub ho hi (set_item hu) ha)) fun D σ H ⟨P, R, as, G, m, nx, rt, bk, ct, ex, r, h, k⟩ =>
    LE.go r h (fun y w R1 H1 ⟨t, ey, h1⟩ n1 r1 d1 => LE.go r1 h1 (fun d v R2 H2 h2 n2 r2 d2 => LE.go r2 h2 (fun d' v' R3 H3 ⟨j, ej, h3⟩ n3 r3 d3 => by
      subst ey ej
      have d1' := (d1.mono n2.r).mono n3.r
      have d2' := d2.mono n3.r
      cases d1' with
      | t rv =>
        rcases h3 with ⟨ts, n, q, e1, e2, e3, h3⟩ | ⟨ts, ky, e1, e2, hz, h3⟩
        · obtain ⟨a, xs, rfl, ha', hx, rx⟩ := r3.vLoc d2' e1
          refine .inl ⟨a, xs, n, q, rfl, r3.vInt d3 e2, hx, by rw [Paired.length rx]; exact e3, k.nx _ _ _ _ _ _ h3 (r3.put e1 ha' ⟨xs.set q w, upd_same, paired_set rv q rx⟩)⟩
        · obtain ⟨a, xs, rfl, ha', hx, rx⟩ := r3.vLocD d2' e1
          refine .inr ⟨a, _, rfl, .inl ⟨xs, ky, hx, r3.vKey d3 e2, by rw [Paired.length rx]; exact hz, rfl⟩, k.nx _ _ _ _ _ _ h3 (r3.put e1 ha' ⟨putK xs ky w, upd_same, put_pair rv ky rx⟩)⟩) k.er) k.er) k.er
end

/-! ### built-in calls -/
abbrev OC := Sto → List Dv → DK → Prop
def LoC (K : PySem.W.Frag) (mg : Str → Option Value) (r : List V → Hp → VK → Prop) (f : OC) : Prop := ∀ (Z : Rsc) P R as G m σ H vs ds k Q, Rel K mg Z P R as G m σ H → Paired (DRep K mg R P.hd as) vs ds → f m ds k →
  (∀ z u R' H', k z → Nx P R H R' H' → Rel K mg Z P R' as G m σ H' → DRep K mg R' P.hd as u z → Q u H') → r vs H Q
abbrev vCB (f : OC) (es : VA) : VE := fun G m k x => es G m (fun ds => f m ds k) x
theorem LoC.or {K : PySem.W.Frag} {mg : Str → Option Value} {r r' : List V → Hp → VK → Prop} {f f' : OC} (h : LoC K mg r f) (h' : LoC K mg r' f') : LoC K mg (fun xs H Q => r xs H Q ∨ r' xs H Q) (fun m ds k => f m ds k ∨ f' m ds k) :=
  fun Z P R as G m σ H vs ds k Q a b q n => q.elim (fun q => .inl (h Z P R as G m σ H vs ds _ Q a b q n)) fun q => .inr (h' Z P R as G m σ H vs ds _ Q a b q n)
theorem callR_or {X : Cx} {f : Value} {r r' : List V → Hp → VK → Prop} (h : CallR X f r) (h' : CallR X f r') : CallR X f (fun xs H Q => r xs H Q ∨ r' xs H Q) := CallR.or h h'
theorem loC {K : PySem.W.Frag} {mg : Str → Option Value} {Z : Rsc} {W : WX} {r : List V → Hp → VK → Prop} {f : OC} {es : VA} (lo : LoC K mg r f) : ∀ σ H Q, LE K mg Z W (vCB f es) σ H Q → tCB r (LA K mg Z W es) σ H Q :=
  fun σ H Q ⟨P, R, as, G, m, k, x, r0, h, n⟩ => LA.go r0 h (fun ds vs R1 H1 h1 n1 r1 d1 => lo Z P R1 as G m σ H1 vs ds k Q r1 d1 h1 fun z u R2 H2 h2 n2 r2 d2 => n.ok z u R2 H2 h2 (n1.trans n2) r2 d2) n.er
section
variable {X : Cx} {Z : Rsc} {W : WX} {x : Str} {p pos : Pos} {e : Expr} {es : List Expr} {va : VA} {id T : String} {r : List V → Hp → VK → Prop} {f : OC}
theorem v_callB (hc : CallR X (.builtin id) r) (lo : LoC X.K X.mg r f) (hg : Gl X x) (hm : X.mg x = none) (hv : bootBuiltins x = some (.builtin id)) (ha : PA X (e :: es) (LA X.K X.mg Z W va)) (hn : x ≠ "__name__" := by decide) (hdb : (x == ("__debug__" : Str)) = false := by decide)
    (he : starEach (e :: es) X.env = (false, eval e X.env) :: starEach es X.env := by rfl) (hpl : (backTo pos (starEach es X.env)).any (·.1) = false := by rfl) : PE X (.Call (.Name x p) (e :: es) [] pos) (LE X.K X.mg Z W (vCB f va)) :=
  PE.imp (pe_callB hc hg hm hv ha hn hdb he hpl) (loC lo)
theorem v_callTy (hc : CallR X (.type T) r) (lo : LoC X.K X.mg r f) (hg : Gl X x) (hm : X.mg x = none) (hv : bootBuiltins x = some (.type T)) (ha : PA X (e :: es) (LA X.K X.mg Z W va)) (hn : x ≠ "__name__" := by decide) (hdb : (x == ("__debug__" : Str)) = false := by decide)
    (he : starEach (e :: es) X.env = (false, eval e X.env) :: starEach es X.env := by rfl) (hpl : (backTo pos (starEach es X.env)).any (·.1) = false := by rfl) : PE X (.Call (.Name x p) (e :: es) [] pos) (LE X.K X.mg Z W (vCB f va)) :=
  PE.imp (pe_callTy hc hg hm hv ha hn hdb he hpl) (loC lo)
end
section
variable {K : PySem.W.Frag} {mg : Str → Option Value}
theorem pone {R : Hp} {hd : Nat → Addr} {as : List Addr} {vs : List V} {d : Dv} (h : Paired (DRep K mg R hd as) vs [d]) : ∃ v, vs = [v] ∧ DRep K mg R hd as v d := by
  cases h with
  | cons r t => cases t; exact ⟨_, rfl, r⟩
theorem ptwo {R : Hp} {hd : Nat → Addr} {as : List Addr} {vs : List V} {d e : Dv} (h : Paired (DRep K mg R hd as) vs [d, e]) : ∃ v w, vs = [v, w] ∧ DRep K mg R hd as v d ∧ DRep K mg R hd as w e := by
  cases h with
  | cons r t => cases t with
    | cons r2 t2 => cases t2; exact ⟨_, _, rfl, r, r2⟩
def lenT : Tr → Option Nat
  | .lst ts => some ts.length
  | .tup ts => some ts.length
  | .scr ts => some ts.length
  | .str z => some z.length
  | _ => none
def fLen : OC := fun m ds k => ∃ d x n, ds = [d] ∧ view m d = some x ∧ lenT x = some n ∧ (∀ z, x = .str z → z.length ≤ sizeLine) ∧ k (.t (.int n))
theorem lo_len : LoC K mg (fun xs H Q => ∃ x n, xs = [x] ∧ LenV K x H n ∧ Q (.int n) H) fLen := by
  rintro Z P R as G m σ H vs ds k Q r h0 ⟨d, x, n, rfl, e1, e2, hz, q⟩ nn
  obtain ⟨v, rfl, dv⟩ := pone h0
  refine ⟨v, n, rfl, ?_, nn _ _ R H q .refl r (.t (.int _))⟩
  have q := r.repd dv e1
  cases q with
  | non => cases e2
  | bl b => cases e2
  | int i => cases e2
  | str s => cases e2; exact ⟨hz _ rfl, rfl⟩
  | ty n => cases e2
  | cls h => cases e2
  | scr h => cases e2; exact .inl ⟨_, h, by rw [List.length_map]⟩
  | lst h l f => cases e2; exact .inl ⟨_, .of h, l.symm⟩
  | tup h l f => cases e2; exact .inr ⟨_, .of h, l.symm⟩
  | dic h l f => cases e2
  | ins m h l f => cases e2
def fLenD : OC := fun m ds k => ∃ d ts, ds = [d] ∧ view m d = some (.dic ts) ∧ k (.t (.int ts.length))
def fAbs : OC := fun m ds k => ∃ d i, ds = [d] ∧ view m d = some (.int i) ∧ k (.t (.int (if i < 0 then -i else i)))
theorem lo_abs : LoC K mg (fun xs H Q => ∃ i, xs = [.int i] ∧ Q (.int (if i < 0 then -i else i)) H) fAbs := by
  rintro Z P R as G m σ H vs ds k Q r h ⟨d, i, rfl, e1, q⟩ nn
  obtain ⟨v, rfl, dv⟩ := pone h
  rw [r.vInt dv e1]
  exact ⟨i, rfl, nn _ _ R H q .refl r (.t (.int _))⟩
def fMax2 : OC := fun m ds k => ∃ d e i j, ds = [d, e] ∧ view m d = some (.int i) ∧ view m e = some (.int j) ∧ k (.t (.int (max i j)))
def fMin2 : OC := fun m ds k => ∃ d e i j, ds = [d, e] ∧ view m d = some (.int i) ∧ view m e = some (.int j) ∧ k (.t (.int (min i j)))
theorem lo_max2 : LoC K mg (fun xs H Q => ∃ i j, xs = [.int i, .int j] ∧ Q (.int (if j > i then j else i)) H) fMax2 := by
  rintro Z P R as G m σ H vs ds k Q r h ⟨d, e, i, j, rfl, e1, e2, q⟩ nn
  obtain ⟨v, w, rfl, dv, dw⟩ := ptwo h
  rw [r.vInt dv e1, r.vInt dw e2]
  refine ⟨i, j, rfl, nn (.t (.int (max i j))) _ R H q .refl r (.t ?_)⟩
  have e : (if j > i then j else i) = max i j := by split <;> omega
  rw [e]
  exact .int _
theorem lo_min2 : LoC K mg (fun xs H Q => ∃ i j, xs = [.int i, .int j] ∧ Q (.int (if j < i then j else i)) H) fMin2 := by
  rintro Z P R as G m σ H vs ds k Q r h ⟨d, e, i, j, rfl, e1, e2, q⟩ nn
  obtain ⟨v, w, rfl, dv, dw⟩ := ptwo h
  rw [r.vInt dv e1, r.vInt dw e2]
  refine ⟨i, j, rfl, nn (.t (.int (min i j))) _ R H q .refl r (.t ?_)⟩
  have e : (if j < i then j else i) = min i j := by split <;> omega
  rw [e]
  exact .int _
def mxI : List Int → Int
  | [] => 0
  | [a] => a
  | a :: b :: r => max a (mxI (b :: r))
def mnI : List Int → Int
  | [] => 0
  | [a] => a
  | a :: b :: r => min a (mnI (b :: r))
theorem mxI_ok : ∀ {ns : List Int}, 0 < ns.length → mxI ns ∈ ns ∧ ∀ y ∈ ns, y ≤ mxI ns
  | [a], _ => ⟨by simp [mxI], by simp [mxI]⟩
  | a :: b :: r, _ => by
    obtain ⟨h1, h2⟩ := mxI_ok (ns := b :: r) (by simp)
    rw [mxI]
    refine ⟨?_, fun y hy => ?_⟩
    · by_cases h : a ≤ mxI (b :: r)
      · rw [Int.max_eq_right h]; exact List.mem_cons_of_mem _ h1
      · rw [Int.max_eq_left (by omega)]; exact List.mem_cons_self
    · rcases List.mem_cons.mp hy with z | z
      · subst z; omega
      · have := h2 y z; omega
theorem mnI_ok : ∀ {ns : List Int}, 0 < ns.length → mnI ns ∈ ns ∧ ∀ y ∈ ns, mnI ns ≤ y
  | [a], _ => ⟨by simp [mnI], by simp [mnI]⟩
  | a :: b :: r, _ => by
    obtain ⟨h1, h2⟩ := mnI_ok (ns := b :: r) (by simp)
    rw [mnI]
    refine ⟨?_, fun y hy => ?_⟩
    · by_cases h : a ≤ mnI (b :: r)
      · rw [Int.min_eq_left h]; exact List.mem_cons_self
      · rw [Int.min_eq_right (by omega)]; exact List.mem_cons_of_mem _ h1
    · rcases List.mem_cons.mp hy with z | z
      · subst z; omega
      · have := h2 y z; omega
theorem Rel.vInts {Z : Rsc} {P : Pm} {R H : Hp} {as : List Addr} {G : Env} {m : Sto} {σ : L2.St} {v : V} {d : Dv} {ts : List Tr} {ns : List Int} (r : Rel K mg Z P R as G m σ H) (h : DRep K mg R P.hd as v d) (e : view m d = some (.lst ts)) (e2 : intsOf ts = some ns) :
    ∃ a, v = .ref a ∧ SqL K H a (ns.map V.int) := by
  obtain ⟨a, xs, rfl, hx, rx⟩ := r.vLst h e
  rw [intsOf_eq e2] at rx
  rw [reps_ints rx] at hx
  exact ⟨a, rfl, .of hx⟩
def fSum : OC := fun m ds k => ∃ d ts ns, ds = [d] ∧ view m d = some (.lst ts) ∧ intsOf ts = some ns ∧ k (.t (.int ns.sum))
def fMaxL : OC := fun m ds k => ∃ d ts ns, ds = [d] ∧ view m d = some (.lst ts) ∧ intsOf ts = some ns ∧ 0 < ns.length ∧ k (.t (.int (mxI ns)))
def fMinL : OC := fun m ds k => ∃ d ts ns, ds = [d] ∧ view m d = some (.lst ts) ∧ intsOf ts = some ns ∧ 0 < ns.length ∧ k (.t (.int (mnI ns)))
theorem lo_sum : LoC K mg (rSum K) fSum := by
  rintro Z P R as G m σ H vs ds k Q r h ⟨d, ts, ns, rfl, e1, e2, q⟩ nn
  obtain ⟨v, rfl, dv⟩ := pone h
  obtain ⟨a, rfl, hx⟩ := r.vInts dv e1 e2
  exact ⟨a, ns, rfl, hx, nn _ _ R H q .refl r (.t (.int _))⟩
theorem lo_maxL : LoC K mg (rMax K) fMaxL := by
  rintro Z P R as G m σ H vs ds k Q r h ⟨d, ts, ns, rfl, e1, e2, hz, q⟩ nn
  obtain ⟨v, rfl, dv⟩ := pone h
  obtain ⟨a, rfl, hx⟩ := r.vInts dv e1 e2
  refine ⟨a, ns, rfl, hx, hz, fun y h1 h2 => nn (.t (.int (mxI ns))) _ R H q .refl r (.t ?_)⟩
  obtain ⟨g1, g2⟩ := mxI_ok hz
  have e : y = mxI ns := Int.le_antisymm (g2 y h1) (h2 _ g1)
  rw [e]
  exact .int _
theorem lo_minL : LoC K mg (rMin K) fMinL := by
  rintro Z P R as G m σ H vs ds k Q r h ⟨d, ts, ns, rfl, e1, e2, hz, q⟩ nn
  obtain ⟨v, rfl, dv⟩ := pone h
  obtain ⟨a, rfl, hx⟩ := r.vInts dv e1 e2
  refine ⟨a, ns, rfl, hx, hz, fun y h1 h2 => nn (.t (.int (mnI ns))) _ R H q .refl r (.t ?_)⟩
  obtain ⟨g1, g2⟩ := mnI_ok hz
  have e : y = mnI ns := Int.le_antisymm (h2 _ g1) (g2 y h1)
  rw [e]
  exact .int _
/-- int(n), int(flag) -/
def fInt : OC := fun m ds k => ∃ d, ds = [d] ∧ ((∃ i, view m d = some (.int i) ∧ k (.t (.int i))) ∨ ∃ b, view m d = some (.bl b) ∧ k (.t (.int (if b then 1 else 0))))
theorem lo_int : LoC K mg (fun xs H Q => (∃ i, xs = [.int i] ∧ Q (.int i) H) ∨ ∃ k, xs = [.bl k] ∧ Q (.int (if k then 1 else 0)) H) fInt := by
  rintro Z P R as G m σ H vs ds k Q r h ⟨d, rfl, ⟨i, e1, q⟩ | ⟨b, e1, q⟩⟩ nn
  · obtain ⟨v, rfl, dv⟩ := pone h
    rw [r.vInt dv e1]
    exact .inl ⟨i, rfl, nn _ _ R H q .refl r (.t (.int _))⟩
  · obtain ⟨v, rfl, dv⟩ := pone h
    rw [r.vBl dv e1]
    exact .inr ⟨b, rfl, nn _ _ R H q .refl r (.t (.int _))⟩
/-- list(xs), tuple(xs): new known ones -/
def fList : OC := fun m ds k => ∃ d ts, ds = [d] ∧ (view m d = some (.lst ts) ∨ view m d = some (.tup ts)) ∧ k (.t (.lst ts))
theorem lo_list : LoC K mg (fun xs H Q => ∃ p ys, xs = [.ref p] ∧ (SqL K H p ys ∨ SqT K H p ys) ∧ ∀ l, H l = none → Q (.ref l) (upd H l (.lst ys))) fList := by
  rintro Z P R as G m σ H vs ds k Q r h ⟨d, ts, rfl, e1, q⟩ nn
  obtain ⟨v, rfl, dv⟩ := pone h
  rcases e1 with e1 | e1
  · obtain ⟨a, xs, rfl, hx, rx⟩ := r.vLst dv e1
    refine ⟨a, xs, rfl, .inl (.of hx), fun p hp => ?_⟩
    obtain ⟨r', n'⟩ := r.laid (o := .lst xs) hp
    exact nn _ _ _ _ q n' r' (.t (.lstP upd_same (Reps.mono n'.r rx)))
  · obtain ⟨a, xs, rfl, hx, rx⟩ := r.vTup dv e1
    refine ⟨a, xs, rfl, .inr (.of hx), fun p hp => ?_⟩
    obtain ⟨r', n'⟩ := r.laid (o := .lst xs) hp
    exact nn _ _ _ _ q n' r' (.t (.lstP upd_same (Reps.mono n'.r rx)))
def fTuple : OC := fun m ds k => ∃ d ts, ds = [d] ∧ view m d = some (.lst ts) ∧ k (.t (.tup ts))
theorem lo_tuple : LoC K mg (fun xs H Q => ∃ p ys, xs = [.ref p] ∧ ((SqL K H p ys ∧ ∀ l, H l = none → Q (.ref l) (upd H l (.tup ys))) ∨ (SqT K H p ys ∧ Q (.ref p) H))) fTuple := by
  rintro Z P R as G m σ H vs ds k Q r h ⟨d, ts, rfl, e1, q⟩ nn
  obtain ⟨v, rfl, dv⟩ := pone h
  obtain ⟨a, xs, rfl, hx, rx⟩ := r.vLst dv e1
  refine ⟨a, xs, rfl, .inl ⟨.of hx, fun p hp => ?_⟩⟩
  obtain ⟨r', n'⟩ := r.laid (o := .tup xs) hp
  exact nn _ _ _ _ q n' r' (.t (.tupP upd_same (Reps.mono n'.r rx)))
def fStrI : OC := fun m ds k => ∃ d i, ds = [d] ∧ view m d = some (.int i) ∧ i.natAbs.log2 < 1920 ∧ k (.t (.str (toString i)))
theorem lo_strI : LoC K mg (fun xs H Q => ∃ i, xs = [.int i] ∧ i.natAbs.log2 < 1920 ∧ Q (.str (toString i)) H) fStrI := by
  rintro Z P R as G m σ H vs ds k Q r h ⟨d, i, rfl, e1, hz, q⟩ nn
  obtain ⟨v, rfl, dv⟩ := pone h
  rw [r.vInt dv e1]
  exact ⟨i, rfl, hz, nn _ _ R H q .refl r (.t (.str _))⟩
/-- the built-in class of data -/
def kindT : Tr → Option String
  | .non => some "NoneType" | .bl _ => some "bool" | .int _ => some "int" | .str _ => some "str"
  | .lst _ => some "list" | .tup _ => some "tuple" | .dic _ => some "dict"
  | _ => none
/-- isinstance(x, T), T a built-in class -/
def fIsi (T : String) : OC := fun m ds k => ∃ d x kd b, ds = [d, .t (.ty T)] ∧ view m d = some x ∧ kindT x = some kd ∧ kitB kd T = some b ∧ k (.t (.bl b))
theorem lo_isi (T : String) : LoC K mg (rIsi K) (fIsi T) := by
  rintro Z P R as G m σ H vs ds k Q r h0 ⟨d, x, kd, b, rfl, e1, e2, e3, q⟩ nn
  obtain ⟨v, w, rfl, dv, dw⟩ := ptwo h0
  cases dw with
  | t rw' =>
    cases rw' with
    | ty n =>
      have q0 := r.repd dv e1
      have ty : TyX K H v (.type kd) := by
        cases q0 with
        | non => cases e2; exact .base .non
        | bl b => cases e2; exact .base (.bl b)
        | int i => cases e2; exact .base (.int i)
        | str s => cases e2; exact .base (.str s)
        | ty n => cases e2
        | cls h => cases e2
        | scr h => cases e2
        | lst h l f => cases e2; exact .base (.lst h)
        | tup h l f => cases e2; exact .base (.tup h)
        | dic h l f =>
          cases e2
          rcases h with h | ⟨o, h⟩
          · exact .base (.dK h)
          · exact .fDict h
        | ins m h l f => cases e2
      exact ⟨v, .ty T, _, _, b, rfl, .ty T, ty, kit_ty e3, nn _ _ R H q .refl r (.t (.bl _))⟩
end
end VL

/-! VL, part J: promises of defs, calls of them. -/
namespace VL
open PySem L2

/-- a def's promise by values: from its arguments, what is wanted of the answer, of an exception -/
abbrev VSp := List Dv → (Tr → Prop) → XK → Prop
def liftS (K : PySem.W.Frag) (mg : Str → Option Value) (Z : Rsc) (n : Nat) (sp : VSp) : Sp := fun vs H Q E => vs.length = n ∧ ∃ P R ds k x, P.H0 = H ∧ P.R0 = R ∧ (∀ a, ¬ P.mu a) ∧ Rel K mg Z P R [] [] [] [] H ∧ Paired (DRep K mg R P.hd []) vs ds ∧ sp ds k x ∧
  (∀ y v R' H', k y → Rel K mg Z P R' [] [] [] [] H' → Rep K mg R' v y → Q v H') ∧ ∀ nm cl R' H', x nm → mg nm = some cl → Rel K mg Z P R' [] [] [] [] H' → E cl none H'

def blank (n : Nat) : Sto := List.replicate n none
def startG (N : List Str) (ds : List Dv) : Env := ds.map some ++ List.replicate (N.length - ds.length) none

section
variable {K : PySem.W.Frag} {mg : Str → Option Value} {Z : Rsc} {P : Pm} {R R' H H' : Hp} {as : List Addr} {G : Env} {m : Sto} {σ : L2.St}
theorem rep_as {hd : Nat → Addr} {v : V} {d : Dv} (h : DRep K mg R hd [] v d) (as : List Addr) : DRep K mg R hd as v d := by
  cases h with
  | t h => exact .t h
  | loc h => simp at h
  | hnd i => exact .hnd i
/-- the state at a def's beginning -/
theorem Rel.begin {N : List Str} {vs : List V} {ds : List Dv} (n : Nat) (r : Rel K mg Z P R [] [] [] [] H) (h : Paired (DRep K mg R P.hd []) vs ds) (hl : vs.length ≤ N.length) : Rel K mg Z P R (List.replicate n 0) (startG N ds) (blank n) (L2.start N vs) H :=
  { r with
    len := by
      have e := Paired.length h
      unfold startG L2.start
      simp only [List.length_append, List.length_map, List.length_replicate]
      omega
    env := fun i d e => by
      have el := Paired.length h
      unfold startG at e
      by_cases hi : i < ds.length
      · rw [List.getElem?_append_left (by simpa using hi), List.getElem?_map] at e
        cases q : ds[i]? with
        | none => rw [q] at e; cases e
        | some d' =>
          rw [q] at e
          cases e
          have hv : i < vs.length := by omega
          refine ⟨vs[i], ?_, rep_as (paired_at h i _ _ (List.getElem?_eq_getElem hv) q) _⟩
          unfold L2.start
          rw [List.getElem?_append_left (by simpa using hv), List.getElem?_map, List.getElem?_eq_getElem hv]
          rfl
      · rw [List.getElem?_append_right (by simpa using hi), List.getElem?_replicate] at e
        split at e <;> cases e
    sto := fun j x e => by
      unfold blank at e
      rw [List.getElem?_replicate] at e
      split at e <;> cases e
    inj := fun j k x y a e => by
      unfold blank at e
      rw [List.getElem?_replicate] at e
      split at e <;> cases e
    la := by unfold blank; rw [List.length_replicate, List.length_replicate] }
/-- nothing but the heap -/
theorem Rel.bare (r : Rel K mg Z P R as G m σ H) : Rel K mg Z P R [] [] [] [] H :=
  { r with len := rfl, env := fun i d e => by simp at e, sto := fun j x e => by simp at e, inj := fun j k x y a e => by simp at e, la := rfl }
end

def W0 : WX := fun _ _ _ _ => False
section
variable {Pg : Program} {w : World} {K : PySem.W.Frag} {mg : Str → Option Value} {base : Heap}
/-- a def that raises nothing, by its body's reading -/
theorem fun_S {x qual : Str} {st : Stmt} {f : Addr} {fd : FuncData} {N ps : List Str} {k : Nat} (Z : Rsc) {sp : VSp} {u : VS} (nst : Nat) (F : Fun K x qual st f fd) (S : FnScope N ps (defScope st))
    (body : ∀ (cdv : Value) (A : Around) (outer : List PySem.Env) (s : Shared) (H : Hp) (E : L2.XK), Room k (A.deeper (PyProof.Rows.envOfC qual (defScope st) s.heap.objs.size f cdv)) →
      PSs (cxOf CX0 Pg w K mg base N qual (defScope st) f cdv A outer s H E).nox (defBody st) (LS K mg Z W0 u))
    (hu : ∀ ds k x, ds.length = ps.length → sp ds k x → u (fun _ _ => k .non) (fun d _ => ∃ y, d = .t y ∧ k y) (fun _ _ => False) (fun _ _ => False) (fun _ _ => False) (startG N ds) (blank nst)) :
    FnOk Pg w K mg base CX0 (k + 1) f fd ps (liftS K mg Z ps.length sp) := by
  have hpl : ps.length ≤ N.length := by have := congrArg List.length S.pre; rw [List.length_take] at this; omega
  refine F.ok S (fun vs H Q E h => h.1) (fun cdv A outer s H vs Q E hr h => ⟨_, body cdv A outer s H E hr, ?_⟩)
  obtain ⟨hl, P, R, ds, k, x, e0, e1, e2, r, rv, hs, hq, he⟩ := h
  refine ⟨P, R, _, startG N ds, blank nst, _, _, _, _, _, r.begin nst rv (by omega), hu ds k x (by rw [← Paired.length rv]; exact hl) hs, ?_⟩
  exact ⟨fun G m R as σ H' a b => hq .non .non R H' a b.bare .non, fun d m v R as G σ H' ⟨y, ed, a⟩ b c => by
    subst ed
    cases c with
    | t c => exact hq y v R H' a b.bare c, fun _ _ _ _ _ _ a _ => a, fun _ _ _ _ _ _ a _ => a, fun _ _ _ _ _ _ _ _ a => a.elim⟩
/-- a def that may raise -/
theorem fun_X {x qual : Str} {st : Stmt} {f : Addr} {fd : FuncData} {N ps : List Str} {k : Nat} (Z : Rsc) {sp : VSp} {u : VS} (nst : Nat) (F : Fun K x qual st f fd) (S : FnScope N ps (defScope st))
    (body : ∀ (cdv : Value) (A : Around) (outer : List PySem.Env) (s : Shared) (H : Hp) (E : L2.XK), Room k (A.deeper (PyProof.Rows.envOfC qual (defScope st) s.heap.objs.size f cdv)) →
      PSs (cxOf (L2.CX Pg w) Pg w K mg base N qual (defScope st) f cdv A outer s H E) (defBody st) (LS K mg Z (fun cls d _ H => E cls d H) u))
    (hu : ∀ ds k x, ds.length = ps.length → sp ds k x → u (fun _ _ => k .non) (fun d _ => ∃ y, d = .t y ∧ k y) (fun _ _ => False) (fun _ _ => False) (fun n _ => x n) (startG N ds) (blank nst)) :
    FnOk Pg w K mg base (L2.CX Pg w) (k + 1) f fd ps (liftS K mg Z ps.length sp) := by
  have hpl : ps.length ≤ N.length := by have := congrArg List.length S.pre; rw [List.length_take] at this; omega
  refine F.okX S (fun vs H Q E h => h.1) (fun cdv A outer s H vs Q E hr h => ⟨_, body cdv A outer s H E hr, ?_⟩)
  obtain ⟨hl, P, R, ds, k, x, e0, e1, e2, r, rv, hs, hq, he⟩ := h
  refine ⟨P, R, _, startG N ds, blank nst, _, _, _, _, _, r.begin nst rv (by omega), hu ds k x (by rw [← Paired.length rv]; exact hl) hs, ?_⟩
  exact ⟨fun G m R as σ H' a b => hq .non .non R H' a b.bare .non, fun d m v R as G σ H' ⟨y, ed, a⟩ b c => by
    subst ed
    cases c with
    | t c => exact hq y v R H' a b.bare c, fun _ _ _ _ _ _ a _ => a, fun _ _ _ _ _ _ a _ => a, fun nm cl m R as G σ H' a b c => he nm cl R H' a b c.bare⟩
end

/-! ### calls -/
/-- arguments: all known, or borrowed for the call -/
def allT : List Dv → Bool
  | [] => true
  | .loc _ :: _ => false
  | _ :: r => allT r
def bors (m : Sto) : List Dv → Option (List Dv)
  | [] => some []
  | .hnd i :: r => (bors m r).map (.hnd i :: ·)
  | d :: r => (view m d).bind fun x => (bors m r).map (.t x :: ·)
abbrev vCall (sp : VSp) (es : VA) : VE := fun G m k x => es G m (fun ds => (allT ds = true ∧ sp ds (fun y => k (.t y)) x) ∨ ∃ ds', bors m ds = some ds' ∧ sp ds' (fun y => y.flat = true ∧ k (.t y)) x) x
section
variable {K : PySem.W.Frag} {mg : Str → Option Value} {Z Z' : Rsc} {W : WX} {P : Pm} {R R' H H' : Hp} {as : List Addr} {G : Env} {m : Sto} {σ : L2.St}
theorem allT_rep {hd : Nat → Addr} : ∀ {vs : List V} {ds : List Dv}, Paired (DRep K mg R hd as) vs ds → allT ds = true → Paired (DRep K mg R hd []) vs ds
  | _, _, .nil, _ => .nil
  | _, _, .cons r t, h => by
    cases r with
    | t q => exact .cons (.t q) (allT_rep t h)
    | hnd i => exact .cons (.hnd i) (allT_rep t h)
    | loc q => cases h
/-- the heap as it is, all known but the ambient -/
noncomputable def around (P : Pm) (H : Hp) : Hp := fun a => open Classical in if P.B a then none else H a
theorem around_same (P : Pm) (H : Hp) : Same (around P H) H := fun a o e => by
  unfold around at e
  split at e
  · cases e
  · exact e
theorem around_of {P : Pm} {H : Hp} {a : Addr} {o : HO} (e : H a = some o) (n : ¬ P.B a) : around P H a = some o := by
  unfold around
  rw [if_neg n]
  exact e
theorem Own.around {a : Addr} {x : Tr} (h : Own K mg R H a x) (n : ¬ P.B a) (s : Same R (around P H)) : Rep K mg (VL.around P H) (.ref a) x := by
  cases x with
  | lst ts => obtain ⟨xs, h1, h2⟩ := h; exact .lstP (around_of h1 n) (Reps.mono s h2)
  | dic ts => obtain ⟨xs, h1, h2⟩ := h; exact .dicP (.inl (around_of h1 n)) (RepsP.mono s h2)
  | ins c ts => obtain ⟨C, dx, xs, h0, h1, h2⟩ := h; exact .insP h0 (around_of h1 n) (RepsP.mono s h2)
  | _ => exact h.elim
theorem Rel.same_around (r : Rel K mg Z P R as G m σ H) : Same R (around P H) := fun a o e => around_of (r.ex a o e) fun b => by rw [r.rb a b] at e; cases e
theorem bors_rep (r : Rel K mg Z P R as G m σ H) : ∀ {vs : List V} {ds ds' : List Dv}, Paired (DRep K mg R P.hd as) vs ds → bors m ds = some ds' → Paired (DRep K mg (around P H) P.hd []) vs ds'
  | _, _, _, .nil, h => by simp [bors] at h; subst h; exact .nil
  | _, _, _, .cons (b := d) q t, h => by
    have vw : ∀ {v : V} {d : Dv} {x : Tr}, DRep K mg R P.hd as v d → view m d = some x → Rep K mg (around P H) v x := fun {v d x} q e => by
      cases q with
      | t q => cases e; exact q.mono r.same_around
      | hnd i => cases e
      | loc q =>
        obtain ⟨a, h1, h2, _, h4, _⟩ := r.sto _ _ (getD_some e)
        rw [h1] at q; cases q
        exact h2.around h4 r.same_around
    cases d with
    | t x =>
      simp only [bors, view, Option.bind_some] at h
      cases e : bors m _ with
      | none => rw [e] at h; cases h
      | some us => rw [e] at h; cases h; exact .cons (.t (vw q rfl)) (bors_rep r t e)
    | hnd i =>
      simp only [bors] at h
      cases e : bors m _ with
      | none => rw [e] at h; cases h
      | some us => rw [e] at h; cases h; cases q; exact .cons (.hnd i) (bors_rep r t e)
    | loc j =>
      simp only [bors] at h
      cases e0 : view m (.loc j) with
      | none => rw [e0] at h; cases h
      | some x =>
        rw [e0] at h
        cases e : bors m _ with
        | none => rw [e] at h; cases h
        | some us => rw [e] at h; cases h; exact .cons (.t (vw q e0)) (bors_rep r t e)
theorem callS {sp : VSp} {es : VA} {n : Nat} (hZ : Z'.Z = Z.Z) (hn : ∀ ds k x, sp ds k x → ds.length = n) : ∀ σ H Q, LE K mg Z W (vCall sp es) σ H Q → tCallS (liftS K mg Z' n sp) (WE W) (LA K mg Z W es) σ H Q :=
  fun σ H Q ⟨P, R, as, G, m, k, x, r, h, nn⟩ => LA.go r h (fun ds vs R1 H1 h1 n1 r1 d1 => by
    have bare : ∀ Rn : Hp, Same Rn H1 → (∀ a, P.B a → Rn a = none) → Rel K mg Z' ⟨H1, Rn, fun _ => False, P.hd, P.B⟩ Rn [] [] [] [] H1 := fun Rn h1 h2 =>
      ⟨h1, rfl, fun i d e => by simp at e, fun j x e => by simp at e, fun j k x y a e => by simp at e, by rw [hZ]; exact r1.vol, h2, fun a o e _ _ => e, fun a e => e, fun a e => .inl e, Same.refl _, rfl⟩
    have back : ∀ {Rn R2 H2 : Hp}, Rel K mg Z' ⟨H1, Rn, fun _ => False, P.hd, P.B⟩ R2 [] [] [] [] H2 → (∀ a o, ¬ P.B a → H1 a = some o → H2 a = some o) ∧ (∀ a, H1 a ≠ none → H2 a ≠ none) ∧ Z.Z H2 P.hd P.B := fun {Rn R2 H2} q =>
      ⟨fun a o hb e => q.frame a o e (fun z => z) hb, q.dom, by rw [← hZ]; exact q.vol⟩
    rcases h1 with ⟨h1, h2⟩ | ⟨ds', h1, h2⟩
    · have fin : ∀ {R2 H2 : Hp}, Rel K mg Z' ⟨H1, R1, fun _ => False, P.hd, P.B⟩ R2 [] [] [] [] H2 → Nx P R1 H1 R2 H2 ∧ Rel K mg Z P R2 as G m σ H2 := fun {R2 H2} q => by
        obtain ⟨b1, b2, b3⟩ := back q
        have nx : Nx P R1 H1 R2 H2 := ⟨q.r0, b1, q.fresh, b2⟩
        exact ⟨nx, r1.step nx q.ex b3⟩
      refine ⟨by rw [Paired.length d1]; exact hn _ _ _ h2, _, R1, ds, _, x, rfl, rfl, fun _ z => z, bare R1 r1.ex r1.rb, allT_rep d1 h1, h2, fun y v R2 H2 hk q rv => ?_, fun nm cl R2 H2 a b q => ?_⟩
      · obtain ⟨nx, r2⟩ := fin q
        exact nn.ok _ _ _ _ hk (n1.trans nx) r2 (.t rv)
      · obtain ⟨nx, r2⟩ := fin q
        exact nn.er nm cl _ _ a b (n1.trans nx) r2
    · have fin : ∀ {R2 H2 : Hp}, Rel K mg Z' ⟨H1, around P H1, fun _ => False, P.hd, P.B⟩ R2 [] [] [] [] H2 → Nx P R1 H1 R1 H2 ∧ Rel K mg Z P R1 as G m σ H2 := fun {R2 H2} q => by
        obtain ⟨b1, b2, b3⟩ := back q
        have nx : Nx P R1 H1 R1 H2 := ⟨Same.refl _, b1, fun a e => .inl e, b2⟩
        exact ⟨nx, r1.step nx (fun a o e => b1 a o (fun b => by rw [r1.rb a b] at e; cases e) (r1.ex a o e)) b3⟩
      refine ⟨(Paired.length (bors_rep r1 d1 h1)).trans (hn _ _ _ h2), _, around P H1, ds', _, x, rfl, rfl, fun _ z => z, bare _ (around_same P H1) (fun a b => by unfold around; rw [if_pos b]), bors_rep r1 d1 h1, h2, fun y v R2 H2 hk q rv => ?_, fun nm cl R2 H2 a b q => ?_⟩
      · obtain ⟨nx, r2⟩ := fin q
        exact nn.ok _ _ _ _ hk.2 (n1.trans nx) r2 (.t (rv.flat hk.1))
      · obtain ⟨nx, r2⟩ := fin q
        exact nn.er nm cl _ _ a b (n1.trans nx) r2) nn.er
end
section
variable {X : Cx} {Z Z' : Rsc} {W : WX} {CX : CXT} {k : Nat} {f : Addr} {fd : FuncData} {ps : List Str} {sp : VSp} {x : Str} {p pos : Pos} {e : Expr} {es : List Expr} {va : VA}
theorem v_call (F : FnOk X.prog X.w X.K X.mg X.base CX k f fd ps (liftS X.K X.mg Z' ps.length sp)) (hZ : Z'.Z = Z.Z) (hn : ∀ ds k x, sp ds k x → ds.length = ps.length) (hr : Room k X.A) (hg : Gl X x) (hm : X.mg x = some (.ref f)) (hk : PySem.W.keepIn X.K (.ref f) = true) (hb : Binds X.K fd ps []) (hx : ∀ σ, PassesAt CX X σ (WE W σ))
    (ha : PA X (e :: es) (LA X.K X.mg Z W va)) (hdb : (x == ("__debug__" : Str)) = false := by decide) (he : starEach (e :: es) X.env = (false, eval e X.env) :: starEach es X.env := by rfl) (hpl : (backTo pos (starEach es X.env)).any (·.1) = false := by rfl) :
    PE X (.Call (.Name x p) (e :: es) [] pos) (LE X.K X.mg Z W (vCall sp va)) := PE.imp (pe_callS F hr hg hm hk hb hx ha hdb he hpl) (callS hZ hn)
theorem pas0 {X : Cx} {W : WX} (σ : L2.St) : PassesAt CX0 X σ (WE W σ) := fun _ _ _ _ _ _ h => h.elim
theorem pasX {X : Cx} {W : WX} (tk : Takes X W) (σ : L2.St) : PassesAt (L2.CX X.prog X.w) X σ (WE W σ) := passAt tk σ
theorem pasN {X : Cx} (σ : L2.St) : PassesAt (L2.CX X.prog X.w) X σ (WE W0 σ) := passAt takes0 σ
end
end VL

/-! VL, part K: steps of a reading, one by one. -/
namespace VL
open PySem L2

section
variable {G : Env} {m : Sto} {k : DK} {x : XK} {nx : SK} {rt : RK} {bk ct : SK} {ex : XS}
theorem st_seq {a b : VS} (h : a (fun G' m' => b nx rt bk ct ex G' m') rt bk ct ex G m) : vSeq a b nx rt bk ct ex G m := h
theorem st_next (h : nx G m) : vNext nx rt bk ct ex G m := h
theorem st_brk (h : bk G m) : vBrk nx rt bk ct ex G m := h
theorem st_cnt (h : ct G m) : vCnt nx rt bk ct ex G m := h
theorem st_drop {e : VE} (h : e G m (fun _ => nx G m) (fun n => ex n m)) : vDrop e nx rt bk ct ex G m := h
theorem st_ret {e : VE} (h : e G m (fun d => rt d m) (fun n => ex n m)) : vRet e nx rt bk ct ex G m := h
theorem st_retN (h : rt (.t .non) m) : vRetN nx rt bk ct ex G m := h
theorem st_if {t : VT} {a b : VS} (h : t G m (fun c => (c = true → a nx rt bk ct ex G m) ∧ (c = false → b nx rt bk ct ex G m)) (fun n => ex n m)) : vIfS t a b nx rt bk ct ex G m := h
theorem st_set {i : Nat} {e : VE} (h : e G m (fun d => nx (G.set i (some d)) m) (fun n => ex n m)) : vSet i e nx rt bk ct ex G m := h
theorem st_asg {e : VE} {g : VG} (h : e G m (fun d => ∃ t, d = .t t ∧ g t G (fun G' => nx G' m)) (fun n => ex n m)) : vAsg e g nx rt bk ct ex G m := h
theorem st_par {i j : Nat} {es : VA} (h : es G m (fun ds => ∃ d e, ds = [d, e] ∧ nx ((G.set i (some d)).set j (some e)) m) (fun n => ex n m)) : vPar i j es nx rt bk ct ex G m := h
theorem st_aug {i : Nat} {f : O2} {e : VE} {d0 : Dv} (h0 : G[i]? = some (some d0)) (h : e G m (fun d => f m d0 d (fun z => nx (G.set i (some z)) m)) (fun n => ex n m)) : vAug i f e nx rt bk ct ex G m := ⟨d0, h0, h⟩
theorem st_frz {j : Nat} {u : VS} {t : Tr} (h0 : m[j]? = some (some t)) (h : u nx rt bk ct ex (G.map (frzD j t)) (m.set j none)) : vFrz j u nx rt bk ct ex G m := ⟨t, h0, h⟩
theorem st_forget {is : List Nat} {u : VS} (h : u nx rt bk ct ex (is.foldl (fun g i => g.set i none) G) m) : vForget is u nx rt bk ct ex G m := h
theorem st_newL {i j : Nat} {es : VA} (h : es G m (fun ds => ∃ ts, unT ds = some ts ∧ ts.length ≤ sizeLine ∧ j < m.length ∧ noLoc j (G.set i none) = true ∧ nx (G.set i (some (.loc j))) (m.set j (some (.lst ts)))) (fun n => ex n m)) : vNewL i j es nx rt bk ct ex G m := h
theorem st_newD {i j : Nat} (h1 : j < m.length) (h2 : noLoc j (G.set i none) = true) (h : nx (G.set i (some (.loc j))) (m.set j (some (.dic [])))) : vNewD i j nx rt bk ct ex G m := ⟨h1, h2, h⟩
theorem st_app {o e : VE} (h : o G m (fun d => ∃ j ts, d = .loc j ∧ m[j]? = some (some (.lst ts)) ∧ e G m (fun y => ∃ t, y = .t t ∧ ts.length < sizeLine ∧ nx G (m.set j (some (.lst (ts ++ [t]))))) (fun n => ex n m)) (fun n => ex n m)) : vApp o e nx rt bk ct ex G m := h
theorem st_app2 {e : VE} {j : Nat} {ts : List Tr} {K2 : Dv → List Tr → Prop} (h : m[j]? = some (some (.lst ts))) {A : Nat → List Tr → Prop} (q : A j ts) : ∃ j' ts', Dv.loc j = .loc j' ∧ m[j']? = some (some (.lst ts')) ∧ A j' ts' := ⟨j, ts, rfl, h, q⟩
theorem st_setI {o i e : VE} (h : e G m (fun y => ∃ t, y = .t t ∧ o G m (fun d => i G m (fun d2 => fSetI (fun m' => nx G m') m d d2 t) (fun n => ex n m)) (fun n => ex n m)) (fun n => ex n m)) : vSetI o i e nx rt bk ct ex G m := h
theorem st_setIL {nx : Sto → Prop} {j : Nat} {ts : List Tr} {i : Dv} {n : Int} {q : Nat} {t : Tr} (h1 : m[j]? = some (some (.lst ts))) (h2 : view m i = some (.int n)) (h3 : ixN ts.length n = some q) (h : nx (m.set j (some (.lst (ts.set q t))))) : fSetI nx m (.loc j) i t := ⟨j, rfl, .inl ⟨ts, n, q, h1, h2, h3, h⟩⟩
theorem st_setID {nx : Sto → Prop} {j : Nat} {ts : List (Key × Tr)} {i : Dv} (ky : Key) {t : Tr} (h1 : m[j]? = some (some (.dic ts))) (h2 : view m i = some (kT ky)) (h3 : ts.length < sizeLine) (h : nx (m.set j (some (.dic (putT ts ky t))))) : fSetI nx m (.loc j) i t := ⟨j, rfl, .inr ⟨ts, ky, h1, h2, h3, h⟩⟩
/-! targets -/
theorem st_gName {i : Nat} {t : Tr} {k : Env → Prop} (h : k (G.set i (some (.t t)))) : vgName i t G k := h
theorem st_gNil {k : Env → Prop} (h : k G) : vgNil [] G k := ⟨rfl, h⟩
theorem st_gCons {g : VG} {gs : VGs} {t : Tr} {r : List Tr} {k : Env → Prop} (h : g t G (fun G' => gs r G' k)) : vgCons g gs (t :: r) G k := ⟨t, r, rfl, h⟩
theorem st_gTup {n : Nat} {gs : VGs} {ts : List Tr} {k : Env → Prop} (hl : ts.length = n) (h : gs ts G k) : vgTup n gs (.tup ts) G k := ⟨ts, rfl, hl, h⟩
/-! expressions -/
theorem st_var {i : Nat} {d : Dv} (h : G[i]? = some (some d)) (q : k d) : vVar i G m k x := ⟨d, h, q⟩
theorem st_c {c : Tr} (q : k (.t c)) : vC c G m k x := q
theorem st_op {f : O2} {a b : VE} (h : a G m (fun d => b G m (fun e => f m d e k) x) x) : vOp f a b G m k x := h
theorem st_I {C : Int → Int → Prop} {g : Int → Int → Tr} {d e : Dv} {i j : Int} (h1 : view m d = some (.int i)) (h2 : view m e = some (.int j)) (c : C i j) (q : k (.t (g i j))) : fI C g m d e k := ⟨i, j, h1, h2, c, q⟩
theorem st_I0 {g : Int → Int → Tr} {d e : Dv} {i j : Int} (h1 : view m d = some (.int i)) (h2 : view m e = some (.int j)) (q : k (.t (g i j))) : fI0 g m d e k := ⟨i, j, h1, h2, q⟩
theorem st_sl {f : OS} {e : VE} {lo hi : VO} (h : e G m (fun d => lo G m (fun l => hi G m (fun u => f m d l u k) x) x) x) : vSl f e lo hi G m k x := h
theorem st_oN {k : Option Int → Prop} (h : k none) : voN G m k x := h
theorem st_oS {e : VE} {k : Option Int → Prop} (h : e G m (fun d => ∃ i, view m d = some (.int i) ∧ k (some i)) x) : voS e G m k x := h
theorem st_rev {e : VE} (h : e G m (fun d => ∃ ts, view m d = some (.lst ts) ∧ k (.t (.lst ts.reverse))) x) : vRev e G m k x := h
theorem st_neg {e : VE} (h : e G m (fun d => ∃ i, view m d = some (.int i) ∧ k (.t (.int (-i)))) x) : vNeg e G m k x := h
theorem st_not {e : VE} (h : e G m (fun d => ∃ c, view m d = some (.bl c) ∧ k (.t (.bl (!c)))) x) : vNot e G m k x := h
theorem st_and {a b : VE} (h : a G m (fun d => ∃ c, view m d = some (.bl c) ∧ (c = true → b G m k x) ∧ (c = false → k (.t (.bl false)))) x) : vAnd a b G m k x := h
theorem st_or {a b : VE} (h : a G m (fun d => ∃ c, view m d = some (.bl c) ∧ (c = true → k (.t (.bl true))) ∧ (c = false → b G m k x)) x) : vOr a b G m k x := h
theorem st_ifE {t : VT} {a b : VE} (h : t G m (fun c => (c = true → a G m k x) ∧ (c = false → b G m k x)) x) : vIf t a b G m k x := h
theorem st_ch {f g : O2} {a b c : VE} (h : a G m (fun d => b G m (fun e => f m d e (fun z => ∃ q, view m z = some (.bl q) ∧ (q = true → c G m (fun e2 => g m e e2 k) x) ∧ (q = false → k (.t (.bl false))))) x) x) : vCh f g a b c G m k x := h
theorem st_tB {e : VE} {k : Bool → Prop} (h : e G m (fun d => ∃ b, view m d = some (.bl b) ∧ k b) x) : vtB e G m k x := h
theorem st_tT {e : VE} {k : Bool → Prop} (h : e G m (fun d => ∃ t b, view m d = some t ∧ truT t = some b ∧ k b) x) : vtT e G m k x := h
theorem st_tAnd {a b : VT} {k : Bool → Prop} (h : a G m (fun c => (c = true → b G m k x) ∧ (c = false → k false)) x) : vtAnd a b G m k x := h
theorem st_tOr {a b : VT} {k : Bool → Prop} (h : a G m (fun c => (c = true → k true) ∧ (c = false → b G m k x)) x) : vtOr a b G m k x := h
theorem st_tNot {a : VT} {k : Bool → Prop} (h : a G m (fun c => k (!c)) x) : vtNot a G m k x := h
theorem st_tYes {k : Bool → Prop} (h : k true) : vtYes G m k x := h
theorem st_aNil {k : List Dv → Prop} (h : k []) : vaNil G m k x := h
theorem st_aCons {e : VE} {r : VA} {k : List Dv → Prop} (h : e G m (fun d => r G m (fun ds => k (d :: ds)) x) x) : vaCons e r G m k x := h
theorem st_lst {es : VA} (h : es G m (fun ds => ∃ ts, unT ds = some ts ∧ ts.length ≤ sizeLine ∧ k (.t (.lst ts))) x) : vLst es G m k x := h
theorem st_tup {es : VA} (h : es G m (fun ds => ∃ ts, unT ds = some ts ∧ ts.length ≤ sizeLine ∧ k (.t (.tup ts))) x) : vTup es G m k x := h
theorem st_unT {ds : List Dv} {ts : List Tr} {A : List Tr → Prop} (h : unT ds = some ts) (hz : ts.length ≤ sizeLine) (q : A ts) : ∃ ts', unT ds = some ts' ∧ ts'.length ≤ sizeLine ∧ A ts' := ⟨ts, h, hz, q⟩
theorem st_bl {d : Dv} {b : Bool} {A : Bool → Prop} (h : view m d = some (.bl b)) (q : A b) : ∃ b', view m d = some (.bl b') ∧ A b' := ⟨b, h, q⟩
theorem st_in {d : Dv} {i : Int} {A : Int → Prop} (h : view m d = some (.int i)) (q : A i) : ∃ i', view m d = some (.int i') ∧ A i' := ⟨i, h, q⟩
theorem st_ls {d : Dv} {ts : List Tr} {A : List Tr → Prop} (h : view m d = some (.lst ts)) (q : A ts) : ∃ ts', view m d = some (.lst ts') ∧ A ts' := ⟨ts, h, q⟩
theorem st_tt {t : Tr} {A : Tr → Prop} (q : A t) : ∃ t', Dv.t t = .t t' ∧ A t' := ⟨t, rfl, q⟩
theorem st_de {d e : Dv} {A : Dv → Dv → Prop} (q : A d e) : ∃ d' e', [d, e] = [d', e'] ∧ A d' e' := ⟨d, e, rfl, q⟩
theorem st_CB {f : OC} {es : VA} (h : es G m (fun ds => f m ds k) x) : vCB f es G m k x := h
theorem st_call {sp : VSp} {es : VA} (h : es G m (fun ds => (allT ds = true ∧ sp ds (fun y => k (.t y)) x) ∨ ∃ ds', bors m ds = some ds' ∧ sp ds' (fun y => y.flat = true ∧ k (.t y)) x) x) : vCall sp es G m k x := h
theorem st_callS {sp : VSp} {ds : List Dv} (h : allT ds = true) (q : sp ds (fun y => k (.t y)) x) : (allT ds = true ∧ sp ds (fun y => k (.t y)) x) ∨ ∃ ds', bors m ds = some ds' ∧ sp ds' (fun y => y.flat = true ∧ k (.t y)) x := .inl ⟨h, q⟩
theorem st_callB {sp : VSp} {ds ds' : List Dv} (h : bors m ds = some ds') (q : sp ds' (fun y => y.flat = true ∧ k (.t y)) x) : (allT ds = true ∧ sp ds (fun y => k (.t y)) x) ∨ ∃ ds', bors m ds = some ds' ∧ sp ds' (fun y => y.flat = true ∧ k (.t y)) x := .inr ⟨ds', h, q⟩
/-! a branch -/
theorem br_t {A B : Prop} (h : A) : (true = true → A) ∧ (true = false → B) := ⟨fun _ => h, fun z => by cases z⟩
theorem br_f {A B : Prop} (h : B) : (false = true → A) ∧ (false = false → B) := ⟨(fun z => by cases z), fun _ => h⟩
theorem br_d {c : Prop} [Decidable c] {A B : Prop} (h1 : c → A) (h2 : ¬ c → B) : (decide c = true → A) ∧ (decide c = false → B) := ⟨fun z => h1 (of_decide_eq_true z), fun z => h2 (of_decide_eq_false z)⟩
theorem br_nd {c : Prop} [Decidable c] {A B : Prop} (h1 : ¬ c → A) (h2 : c → B) : ((!decide c) = true → A) ∧ ((!decide c) = false → B) := ⟨fun z => h1 (by simpa using z), fun z => h2 (by simpa using z)⟩
theorem br_n {b : Bool} {A B : Prop} (h : (b = true → B) ∧ (b = false → A)) : ((!b) = true → A) ∧ ((!b) = false → B) := ⟨fun z => h.2 (by simpa using z), fun z => h.1 (by simpa using z)⟩
/-! loops -/
theorem st_for {it : VI} {tg : VG} {body : VS} (h : it G m (fun ts => ∃ I : Nat → Env → Sto → Prop, I 0 G m ∧
  (∀ (i : Nat) t G' m', ts[i]? = some t → I i G' m' → tg t G' (fun G2 => body (I (i + 1)) rt nx (I (i + 1)) ex G2 m')) ∧ ∀ G' m', I ts.length G' m' → nx G' m') (fun n => ex n m)) : vFor it tg body nx rt bk ct ex G m := h
theorem st_iL {e : VE} {k : List Tr → Prop} (h : e G m (fun d => ∃ ts, (d = .t (.lst ts) ∨ ∃ ns : List Int, d = .t (.scr ns) ∧ ts = ns.map .int) ∧ k ts) x) : viL e G m k x := h
theorem st_iL1 {ts : List Tr} {k : List Tr → Prop} (h : k ts) : ∃ ts', (Dv.t (.lst ts) = .t (.lst ts') ∨ ∃ ns : List Int, Dv.t (.lst ts) = .t (.scr ns) ∧ ts' = ns.map .int) ∧ k ts' := ⟨ts, .inl rfl, h⟩
theorem st_iL2 {ns : List Int} {k : List Tr → Prop} (h : k (ns.map .int)) : ∃ ts', (Dv.t (.scr ns) = .t (.lst ts') ∨ ∃ ns' : List Int, Dv.t (.scr ns) = .t (.scr ns') ∧ ts' = ns'.map .int) ∧ k ts' := ⟨_, .inr ⟨ns, rfl, rfl⟩, h⟩
theorem st_iT {e : VE} {k : List Tr → Prop} (h : e G m (fun d => ∃ ts, d = .t (.tup ts) ∧ k ts) x) : viT e G m k x := h
theorem st_iR1 {e : VE} {k : List Tr → Prop} (h : e G m (fun d => ∃ n : Int, view m d = some (.int n) ∧ -(2 ^ 62) ≤ n ∧ n < 2 ^ 62 ∧ k (rng 0 n.toNat)) x) : viR1 e G m k x := h
theorem st_iR1a {d : Dv} {n : Int} {k : List Tr → Prop} (h : view m d = some (.int n)) (h1 : -(2 ^ 62) ≤ n) (h2 : n < 2 ^ 62) (q : k (rng 0 n.toNat)) : ∃ n : Int, view m d = some (.int n) ∧ -(2 ^ 62) ≤ n ∧ n < 2 ^ 62 ∧ k (rng 0 n.toNat) := ⟨n, h, h1, h2, q⟩
theorem st_iR2 {a b : VE} {k : List Tr → Prop} (h : a G m (fun d => b G m (fun e => ∃ i n : Int, view m d = some (.int i) ∧ view m e = some (.int n) ∧ (-(2 ^ 62) ≤ i ∧ i < 2 ^ 62 ∧ -(2 ^ 62) ≤ n ∧ n < 2 ^ 62) ∧ k (rng i (n - i).toNat)) x) x) : viR2 a b G m k x := h
theorem st_iR2a {d e : Dv} {i n : Int} {k : List Tr → Prop} (h : view m d = some (.int i)) (h' : view m e = some (.int n)) (hb : -(2 ^ 62) ≤ i ∧ i < 2 ^ 62 ∧ -(2 ^ 62) ≤ n ∧ n < 2 ^ 62) (q : k (rng i (n - i).toNat)) : ∃ i n : Int, view m d = some (.int i) ∧ view m e = some (.int n) ∧ (-(2 ^ 62) ≤ i ∧ i < 2 ^ 62 ∧ -(2 ^ 62) ≤ n ∧ n < 2 ^ 62) ∧ k (rng i (n - i).toNat) := ⟨i, n, h, h', hb, q⟩
theorem st_iZip {a b : VE} {k : List Tr → Prop} (h : a G m (fun d => b G m (fun e => ∃ xs ys, d = .t (.lst xs) ∧ e = .t (.lst ys) ∧ k (zipT xs ys)) x) x) : viZip a b G m k x := h
theorem st_iZipa {xs ys : List Tr} {k : List Tr → Prop} (h : k (zipT xs ys)) : ∃ xs' ys', Dv.t (.lst xs) = .t (.lst xs') ∧ Dv.t (.lst ys) = .t (.lst ys') ∧ k (zipT xs' ys') := ⟨xs, ys, rfl, rfl, h⟩
theorem st_iEnum {a : VE} {k : List Tr → Prop} (h : a G m (fun d => ∃ ts, (d = .t (.lst ts) ∨ ∃ ns : List Int, d = .t (.scr ns) ∧ ts = ns.map .int) ∧ k (enumT ts)) x) : viEnum a G m k x := h
theorem st_iStr {a : VE} {k : List Tr → Prop} (h : a G m (fun d => ∃ z, view m d = some (.str z) ∧ k (z.cps.toList.map fun c => .str ⟨#[c]⟩)) x) : viStr a G m k x := h
theorem st_lc {it : VI} {tg : VG} {ts : VT} {el : VE} {vs : List Nat} (h : it G m (fun us => ∃ I : Nat → List Tr → Prop, I 0 [] ∧
  (∀ (i : Nat) t acc, us[i]? = some t → I i acc → tg t (wipeG G vs) (fun G2 => ts G2 m (fun b => (b = true → el G2 m (fun d => ∃ y, d = .t y ∧ acc.length < sizeLine ∧ I (i + 1) (acc ++ [y])) noX) ∧ (b = false → I (i + 1) acc)) noX)) ∧
  ∀ acc, I us.length acc → k (.t (.lst acc))) x) : vLc it tg ts el vs G m k x := h
/-- a comprehension whose elements are known: f of the items that pass -/
theorem lc_map {us : List Tr} {k : DK} {A : Nat → Tr → List Tr → (Nat → List Tr → Prop) → Prop} (f : Tr → Tr) (hz : us.length ≤ sizeLine) (hs : ∀ (i : Nat) t acc, us[i]? = some t → acc.length < sizeLine → ∀ I : Nat → List Tr → Prop, I (i + 1) (acc ++ [f t]) → A i t acc I) (hk : k (.t (.lst (us.map f)))) :
    ∃ I : Nat → List Tr → Prop, I 0 [] ∧ (∀ (i : Nat) t acc, us[i]? = some t → I i acc → A i t acc I) ∧ ∀ acc, I us.length acc → k (.t (.lst acc)) :=
  ⟨fun i acc => acc = (us.take i).map f, by simp, fun i t acc e h => by
    subst h
    obtain ⟨hi, he⟩ := List.getElem?_eq_some_iff.mp e
    refine hs i t _ e (by rw [List.length_map, List.length_take]; omega) _ ?_
    rw [List.take_succ, e]
    simp, fun acc h => by subst h; rw [List.take_length]; exact hk⟩
/-- a while, a dict walked: by hand -/
theorem st_wh {t : VT} {body : VS} (I : Nat → Env → Sto → Prop) (q0 : Nat) (h0 : I q0 G m) (h : ∀ q G' m', I q G' m' →
  t G' m' (fun c => (c = true → body (fun G2 m2 => ∃ q', q' < q ∧ I q' G2 m2) rt nx (fun G2 m2 => ∃ q', q' < q ∧ I q' G2 m2) ex G' m') ∧ (c = false → nx G' m')) (fun n => ex n m')) : vWh t body nx rt bk ct ex G m := ⟨I, ⟨q0, h0⟩, h⟩
end
end VL

/-! VL, part L: the rules under short names, operators of several kinds in one. -/
namespace VL
open PySem L2

/-! ### operators -/
def fAdd : O2 := fun m d e k => fI0 (fun i j => .int (i + j)) m d e k ∨ (fCatS m d e k ∨ fCatL m d e k)
def fSub : O2 := fI0 fun i j => .int (i - j)
def CM (i j : Int) : Prop := CMul i j ∨ CMulW i j
def fMul : O2 := fun m d e k => fI CM (fun i j => .int (i * j)) m d e k ∨ fRep m d e k
def fMod : O2 := fI (fun _ j => 0 < j) fun i j => .int (i % j)
def fDiv : O2 := fI CDivW fun i j => .int (i / j)
def fPow : O2 := fI CPow fun i j => .int (i ^ j.toNat)
def fLt : O2 := fI0 fun i j => .bl (decide (i < j))
def fLe : O2 := fI0 fun i j => .bl (decide (i ≤ j))
def fGt : O2 := fI0 fun i j => .bl (decide (j < i))
def fGe : O2 := fI0 fun i j => .bl (decide (j ≤ i))
def fIs : O2 := fun m d e k => fIsN m d e k ∨ fIsB m d e k
def fIsnt : O2 := fun m d e k => fNotN m d e k ∨ fNotB m d e k
def fIdx : O2 := fun m d e k => (fIxL m d e k ∨ fIxR m d e k) ∨ (fIxT m d e k ∨ (fIxS m d e k ∨ fDGet m d e k))
def fIn' : O2 := fun m d e k => fIn false m d e k ∨ (fInS false m d e k ∨ fDIn m d e k)
def fNotIn' : O2 := fun m d e k => fIn true m d e k ∨ (fInS true m d e k ∨ fDNotIn m d e k)
def fSlc : OS := fun m d l u k => (fSlL m d l u k ∨ fSlR m d l u k) ∨ (fSlT m d l u k ∨ fSlS m d l u k)
section
variable {X : Cx} {Z : Rsc} {W : WX} {a b c : Expr} {ea eb ec : VE} {pos : Pos} {k : Nat}
theorem op_mulA : OpR X (binaryOp .Mult) (rI CM fun i j => .int (i * j)) := opI fun _ _ _ _ _ _ _ hc q => PyProof.Rows.mul_int q (hc.elim (fun h => h.ok) fun h => h.ok)
theorem v_add (ha : PE X a (LE X.K X.mg Z W ea)) (hb : PE X b (LE X.K X.mg Z W eb)) : PE X (.BinOp a .Add b pos) (LE X.K X.mg Z W (vOp fAdd ea eb)) :=
  v_op (op_or op_add (op_or op_add_str op_cat)) ((lo_I0 fun _ _ _ => .int _).or (lo_catS.or lo_catL)) ha hb
theorem v_sub (ha : PE X a (LE X.K X.mg Z W ea)) (hb : PE X b (LE X.K X.mg Z W eb)) : PE X (.BinOp a .Sub b pos) (LE X.K X.mg Z W (vOp fSub ea eb)) := v_op op_sub (lo_I0 fun _ _ _ => .int _) ha hb
theorem v_mul (ha : PE X a (LE X.K X.mg Z W ea)) (hb : PE X b (LE X.K X.mg Z W eb)) : PE X (.BinOp a .Mult b pos) (LE X.K X.mg Z W (vOp fMul ea eb)) := v_op (op_or op_mulA op_rep) ((lo_I fun _ _ _ => .int _).or lo_rep) ha hb
theorem v_mod (ha : PE X a (LE X.K X.mg Z W ea)) (hb : PE X b (LE X.K X.mg Z W eb)) : PE X (.BinOp a .Mod b pos) (LE X.K X.mg Z W (vOp fMod ea eb)) := v_op op_mod (lo_I fun _ _ _ => .int _) ha hb
theorem v_div (ha : PE X a (LE X.K X.mg Z W ea)) (hb : PE X b (LE X.K X.mg Z W eb)) : PE X (.BinOp a .FloorDiv b pos) (LE X.K X.mg Z W (vOp fDiv ea eb)) := v_op op_fdivW (lo_I fun _ _ _ => .int _) ha hb
theorem v_pow (ha : PE X a (LE X.K X.mg Z W ea)) (hb : PE X b (LE X.K X.mg Z W eb)) : PE X (.BinOp a .Pow b pos) (LE X.K X.mg Z W (vOp fPow ea eb)) := v_op op_pow (lo_I fun _ _ _ => .int _) ha hb
theorem l_lt : Lo2 X.K X.mg (rI0 fun i j => .bl (decide (i < j))) fLt := lo_I0 fun _ _ _ => .bl _
theorem l_le : Lo2 X.K X.mg (rI0 fun i j => .bl (decide (i ≤ j))) fLe := lo_I0 fun _ _ _ => .bl _
theorem l_gt : Lo2 X.K X.mg (rI0 fun i j => .bl (decide (j < i))) fGt := lo_I0 fun _ _ _ => .bl _
theorem l_ge : Lo2 X.K X.mg (rI0 fun i j => .bl (decide (j ≤ i))) fGe := lo_I0 fun _ _ _ => .bl _
theorem v_lt (ha : PE X a (LE X.K X.mg Z W ea)) (hb : PE X b (LE X.K X.mg Z W eb)) : PE X (.Compare a [.Lt] [b] pos) (LE X.K X.mg Z W (vOp fLt ea eb)) := v_cmp op_lt l_lt ha hb (nomark _)
theorem v_le (ha : PE X a (LE X.K X.mg Z W ea)) (hb : PE X b (LE X.K X.mg Z W eb)) : PE X (.Compare a [.LtE] [b] pos) (LE X.K X.mg Z W (vOp fLe ea eb)) := v_cmp op_le l_le ha hb (nomark _)
theorem v_gt (ha : PE X a (LE X.K X.mg Z W ea)) (hb : PE X b (LE X.K X.mg Z W eb)) : PE X (.Compare a [.Gt] [b] pos) (LE X.K X.mg Z W (vOp fGt ea eb)) := v_cmp op_gt l_gt ha hb (nomark _)
theorem v_ge (ha : PE X a (LE X.K X.mg Z W ea)) (hb : PE X b (LE X.K X.mg Z W eb)) : PE X (.Compare a [.GtE] [b] pos) (LE X.K X.mg Z W (vOp fGe ea eb)) := v_cmp op_ge l_ge ha hb (nomark _)
theorem v_eq (hr : Room k X.A) (ha : PE X a (LE X.K X.mg Z W ea)) (hb : PE X b (LE X.K X.mg Z W eb)) : PE X (.Compare a [.Eq] [b] pos) (LE X.K X.mg Z W (vOp fEqD ea eb)) := v_cmp (op_eqD hr.units) lo_eqD ha hb (nomark _)
theorem v_ne (hr : Room k X.A) (ha : PE X a (LE X.K X.mg Z W ea)) (hb : PE X b (LE X.K X.mg Z W eb)) : PE X (.Compare a [.NotEq] [b] pos) (LE X.K X.mg Z W (vOp fNeD ea eb)) := v_cmp (op_neD hr.units) lo_neD ha hb (nomark _)
theorem v_is (ha : PE X a (LE X.K X.mg Z W ea)) (hb : PE X b (LE X.K X.mg Z W eb)) : PE X (.Compare a [.Is] [b] pos) (LE X.K X.mg Z W (vOp fIs ea eb)) := v_cmp (op_or op_isN op_isBl) (lo_isN.or lo_isB) ha hb (nomark _)
theorem v_isnot (ha : PE X a (LE X.K X.mg Z W ea)) (hb : PE X b (LE X.K X.mg Z W eb)) : PE X (.Compare a [.IsNot] [b] pos) (LE X.K X.mg Z W (vOp fIsnt ea eb)) := v_cmp (op_or op_notN op_notBl) (lo_notN.or lo_notB) ha hb (nomark _)
theorem v_in (hr : Room k X.A) (ha : PE X a (LE X.K X.mg Z W ea)) (hb : PE X b (LE X.K X.mg Z W eb)) (hm : behindInMarks .In b = false := by rfl) : PE X (.Compare a [.In] [b] pos) (LE X.K X.mg Z W (vOp fIn' ea eb)) := v_cmp (op_or op_in_seq (op_or op_in_sign (op_dIn (hu_of hr)))) ((lo_in false).or (lo_inS.or lo_dIn)) ha hb hm
theorem v_notin (hr : Room k X.A) (ha : PE X a (LE X.K X.mg Z W ea)) (hb : PE X b (LE X.K X.mg Z W eb)) (hm : behindInMarks .NotIn b = false := by rfl) : PE X (.Compare a [.NotIn] [b] pos) (LE X.K X.mg Z W (vOp fNotIn' ea eb)) := v_cmp (op_or op_notIn_seq (op_or op_notIn_sign (op_dNotIn (hu_of hr)))) ((lo_in true).or (lo_notInS.or lo_dNotIn)) ha hb hm
theorem vt_lt (ha : PE X a (LE X.K X.mg Z W ea)) (hb : PE X b (LE X.K X.mg Z W eb)) : PT X (.Compare a [.Lt] [b] pos) (LT X.K X.mg Z W (vtB (vOp fLt ea eb))) := vt_cmp op_lt l_lt ha hb (nomark _)
theorem vt_le (ha : PE X a (LE X.K X.mg Z W ea)) (hb : PE X b (LE X.K X.mg Z W eb)) : PT X (.Compare a [.LtE] [b] pos) (LT X.K X.mg Z W (vtB (vOp fLe ea eb))) := vt_cmp op_le l_le ha hb (nomark _)
theorem vt_gt (ha : PE X a (LE X.K X.mg Z W ea)) (hb : PE X b (LE X.K X.mg Z W eb)) : PT X (.Compare a [.Gt] [b] pos) (LT X.K X.mg Z W (vtB (vOp fGt ea eb))) := vt_cmp op_gt l_gt ha hb (nomark _)
theorem vt_ge (ha : PE X a (LE X.K X.mg Z W ea)) (hb : PE X b (LE X.K X.mg Z W eb)) : PT X (.Compare a [.GtE] [b] pos) (LT X.K X.mg Z W (vtB (vOp fGe ea eb))) := vt_cmp op_ge l_ge ha hb (nomark _)
theorem vt_eq (hr : Room k X.A) (ha : PE X a (LE X.K X.mg Z W ea)) (hb : PE X b (LE X.K X.mg Z W eb)) : PT X (.Compare a [.Eq] [b] pos) (LT X.K X.mg Z W (vtB (vOp fEqD ea eb))) := vt_cmp (op_eqD hr.units) lo_eqD ha hb (nomark _)
theorem vt_ne (hr : Room k X.A) (ha : PE X a (LE X.K X.mg Z W ea)) (hb : PE X b (LE X.K X.mg Z W eb)) : PT X (.Compare a [.NotEq] [b] pos) (LT X.K X.mg Z W (vtB (vOp fNeD ea eb))) := vt_cmp (op_neD hr.units) lo_neD ha hb (nomark _)
theorem vt_is (ha : PE X a (LE X.K X.mg Z W ea)) (hb : PE X b (LE X.K X.mg Z W eb)) : PT X (.Compare a [.Is] [b] pos) (LT X.K X.mg Z W (vtB (vOp fIs ea eb))) := vt_cmp (op_or op_isN op_isBl) (lo_isN.or lo_isB) ha hb (nomark _)
theorem vt_isnot (ha : PE X a (LE X.K X.mg Z W ea)) (hb : PE X b (LE X.K X.mg Z W eb)) : PT X (.Compare a [.IsNot] [b] pos) (LT X.K X.mg Z W (vtB (vOp fIsnt ea eb))) := vt_cmp (op_or op_notN op_notBl) (lo_notN.or lo_notB) ha hb (nomark _)
theorem vt_in (hr : Room k X.A) (ha : PE X a (LE X.K X.mg Z W ea)) (hb : PE X b (LE X.K X.mg Z W eb)) (hm : behindInMarks .In b = false := by rfl) : PT X (.Compare a [.In] [b] pos) (LT X.K X.mg Z W (vtB (vOp fIn' ea eb))) := vt_cmp (op_or op_in_seq (op_or op_in_sign (op_dIn (hu_of hr)))) ((lo_in false).or (lo_inS.or lo_dIn)) ha hb hm
theorem vt_notin (hr : Room k X.A) (ha : PE X a (LE X.K X.mg Z W ea)) (hb : PE X b (LE X.K X.mg Z W eb)) (hm : behindInMarks .NotIn b = false := by rfl) : PT X (.Compare a [.NotIn] [b] pos) (LT X.K X.mg Z W (vtB (vOp fNotIn' ea eb))) := vt_cmp (op_or op_notIn_seq (op_or op_notIn_sign (op_dNotIn (hu_of hr)))) ((lo_in true).or (lo_notInS.or lo_dNotIn)) ha hb hm
/-- a <= b < c and its like: both operators by their names -/
theorem v_chLL (ha : PE X a (LE X.K X.mg Z W ea)) (hb : PE X b (LE X.K X.mg Z W eb)) (hc : PE X c (LE X.K X.mg Z W ec)) (hm : lastMarks [.LtE, .LtE] [b, c] = false := by with_unfolding_all rfl) : PE X (.Compare a [.LtE, .LtE] [b, c] pos) (LE X.K X.mg Z W (vCh fLe fLe ea eb ec)) := v_chain op_le op_le l_le l_le ha hb hc hm
theorem v_chLT (ha : PE X a (LE X.K X.mg Z W ea)) (hb : PE X b (LE X.K X.mg Z W eb)) (hc : PE X c (LE X.K X.mg Z W ec)) (hm : lastMarks [.LtE, .Lt] [b, c] = false := by with_unfolding_all rfl) : PE X (.Compare a [.LtE, .Lt] [b, c] pos) (LE X.K X.mg Z W (vCh fLe fLt ea eb ec)) := v_chain op_le op_lt l_le l_lt ha hb hc hm
theorem vt_chLL (ha : PE X a (LE X.K X.mg Z W ea)) (hb : PE X b (LE X.K X.mg Z W eb)) (hc : PE X c (LE X.K X.mg Z W ec)) (hm : lastMarks [.LtE, .LtE] [b, c] = false := by with_unfolding_all rfl) : PT X (.Compare a [.LtE, .LtE] [b, c] pos) (LT X.K X.mg Z W (vtB (vCh fLe fLe ea eb ec))) := vt_chain op_le op_le l_le l_le ha hb hc hm
theorem vt_chLT (ha : PE X a (LE X.K X.mg Z W ea)) (hb : PE X b (LE X.K X.mg Z W eb)) (hc : PE X c (LE X.K X.mg Z W ec)) (hm : lastMarks [.LtE, .Lt] [b, c] = false := by with_unfolding_all rfl) : PT X (.Compare a [.LtE, .Lt] [b, c] pos) (LT X.K X.mg Z W (vtB (vCh fLe fLt ea eb ec))) := vt_chain op_le op_lt l_le l_lt ha hb hc hm
theorem v_idx (hr : Room k X.A) (ha : PE X a (LE X.K X.mg Z W ea)) (hb : PE X b (LE X.K X.mg Z W eb)) (hs : PlainIx b := by exact fun _ _ => rfl) : PE X (.Subscript a b pos) (LE X.K X.mg Z W (vOp fIdx ea eb)) :=
  v_ix (IxR.or (IxR.or ix_list ix_list) (IxR.or ix_tup (IxR.or ix_str (ix_dict (hu_of hr))))) ((lo_ixL.or lo_ixR).or (lo_ixT.or (lo_ixS.or lo_dget))) ha hb hs
theorem v_slc {lo hi : Option Expr} {ve : VE} {vl vh : VO} {p2 : Pos} (he : PE X a (LE X.K X.mg Z W ve)) (hl : PO X lo (LO X.K X.mg Z W vl)) (hu : PO X hi (LO X.K X.mg Z W vh)) : PE X (.Subscript a (.Slice lo hi none p2) pos) (LE X.K X.mg Z W (vSl fSlc ve vl vh)) :=
  v_sl (SlR.or (SlR.or sl_list sl_list) (SlR.or sl_tup sl_str)) ((los_L.or los_R).or (los_T.or los_S)) he hl hu
theorem vs_augAdd {i : Nat} {x : Str} {ve : VE} {pos' : Pos} (hN : X.N.Nodup) (hi : X.N[i]? = some x) (hx : Loc X.env.scope x) (he : PE X a (LE X.K X.mg Z W ve)) (hf : X.fn x = true ∨ X.env.scope.names.lookup x = some .local := by first | exact .inl rfl | exact .inr rfl | assumption) :
    PS X (.AugAssign (.Name x pos') .Add a pos) (LS X.K X.mg Z W (vAug i (fI0 fun i j => .int (i + j)) ve)) := vs_aug (lip_I fun i j => i + j) ip_add hN hi hx he hf
theorem vs_augSub {i : Nat} {x : Str} {ve : VE} {pos' : Pos} (hN : X.N.Nodup) (hi : X.N[i]? = some x) (hx : Loc X.env.scope x) (he : PE X a (LE X.K X.mg Z W ve)) (hf : X.fn x = true ∨ X.env.scope.names.lookup x = some .local := by first | exact .inl rfl | exact .inr rfl | assumption) :
    PS X (.AugAssign (.Name x pos') .Sub a pos) (LS X.K X.mg Z W (vAug i (fI0 fun i j => .int (i - j)) ve)) := vs_aug (lip_I fun i j => i - j) ip_sub hN hi hx he hf
end

/-! ### built-in calls by name -/
def fMax : OC := fun m ds k => fMax2 m ds k ∨ fMaxL m ds k
def fMin : OC := fun m ds k => fMin2 m ds k ∨ fMinL m ds k
section
variable {X : Cx} {Z : Rsc} {W : WX} {a b : Expr} {es : List Expr} {ea eb : VE} {va : VA} {p pos : Pos} {k : Nat}
theorem v_len (hg : Gl X "len") (hm : X.mg "len" = none) (ha : PA X (a :: es) (LA X.K X.mg Z W va)) (he : starEach (a :: es) X.env = (false, eval a X.env) :: starEach es X.env := by rfl) (hpl : (backTo pos (starEach es X.env)).any (·.1) = false := by rfl) : PE X (.Call (.Name "len" p) (a :: es) [] pos) (LE X.K X.mg Z W (vCB fLen va)) :=
  v_callB call_len lo_len hg hm (by decide +kernel) ha (by decide) (by decide) he hpl
theorem v_abs (hg : Gl X "abs") (hm : X.mg "abs" = none) (ha : PA X (a :: es) (LA X.K X.mg Z W va)) (he : starEach (a :: es) X.env = (false, eval a X.env) :: starEach es X.env := by rfl) (hpl : (backTo pos (starEach es X.env)).any (·.1) = false := by rfl) : PE X (.Call (.Name "abs" p) (a :: es) [] pos) (LE X.K X.mg Z W (vCB fAbs va)) :=
  v_callB call_abs lo_abs hg hm (by decide +kernel) ha (by decide) (by decide) he hpl
theorem v_sum (hc : X.calm = true) (hg : Gl X "sum") (hm : X.mg "sum" = none) (ha : PA X (a :: es) (LA X.K X.mg Z W va)) (he : starEach (a :: es) X.env = (false, eval a X.env) :: starEach es X.env := by rfl) (hpl : (backTo pos (starEach es X.env)).any (·.1) = false := by rfl) : PE X (.Call (.Name "sum" p) (a :: es) [] pos) (LE X.K X.mg Z W (vCB fSum va)) :=
  v_callB (cr_sum hc) lo_sum hg hm (by decide +kernel) ha (by decide) (by decide) he hpl
theorem v_max (hc : X.calm = true) (hg : Gl X "max") (hm : X.mg "max" = none) (ha : PA X (a :: es) (LA X.K X.mg Z W va)) (he : starEach (a :: es) X.env = (false, eval a X.env) :: starEach es X.env := by rfl) (hpl : (backTo pos (starEach es X.env)).any (·.1) = false := by rfl) : PE X (.Call (.Name "max" p) (a :: es) [] pos) (LE X.K X.mg Z W (vCB fMax va)) :=
  v_callB (callR_or (call_max2 hc) (cr_max hc)) (lo_max2.or lo_maxL) hg hm (by decide +kernel) ha (by decide) (by decide) he hpl
theorem v_min (hc : X.calm = true) (hg : Gl X "min") (hm : X.mg "min" = none) (ha : PA X (a :: es) (LA X.K X.mg Z W va)) (he : starEach (a :: es) X.env = (false, eval a X.env) :: starEach es X.env := by rfl) (hpl : (backTo pos (starEach es X.env)).any (·.1) = false := by rfl) : PE X (.Call (.Name "min" p) (a :: es) [] pos) (LE X.K X.mg Z W (vCB fMin va)) :=
  v_callB (callR_or (call_min2 hc) (cr_min hc)) (lo_min2.or lo_minL) hg hm (by decide +kernel) ha (by decide) (by decide) he hpl
theorem v_intc (hg : Gl X "int") (hm : X.mg "int" = none) (ha : PA X (a :: es) (LA X.K X.mg Z W va)) (he : starEach (a :: es) X.env = (false, eval a X.env) :: starEach es X.env := by rfl) (hpl : (backTo pos (starEach es X.env)).any (·.1) = false := by rfl) : PE X (.Call (.Name "int" p) (a :: es) [] pos) (LE X.K X.mg Z W (vCB fInt va)) :=
  v_callTy call_int1 lo_int hg hm (by decide +kernel) ha (by decide) (by decide) he hpl
theorem v_listc (hg : Gl X "list") (hm : X.mg "list" = none) (ha : PA X (a :: es) (LA X.K X.mg Z W va)) (he : starEach (a :: es) X.env = (false, eval a X.env) :: starEach es X.env := by rfl) (hpl : (backTo pos (starEach es X.env)).any (·.1) = false := by rfl) : PE X (.Call (.Name "list" p) (a :: es) [] pos) (LE X.K X.mg Z W (vCB fList va)) :=
  v_callTy call_list_of lo_list hg hm (by decide +kernel) ha (by decide) (by decide) he hpl
theorem v_tuplec (hg : Gl X "tuple") (hm : X.mg "tuple" = none) (ha : PA X (a :: es) (LA X.K X.mg Z W va)) (he : starEach (a :: es) X.env = (false, eval a X.env) :: starEach es X.env := by rfl) (hpl : (backTo pos (starEach es X.env)).any (·.1) = false := by rfl) : PE X (.Call (.Name "tuple" p) (a :: es) [] pos) (LE X.K X.mg Z W (vCB fTuple va)) :=
  v_callTy call_tuple_of lo_tuple hg hm (by decide +kernel) ha (by decide) (by decide) he hpl
theorem v_strc (hg : Gl X "str") (hm : X.mg "str" = none) (ha : PA X (a :: es) (LA X.K X.mg Z W va)) (he : starEach (a :: es) X.env = (false, eval a X.env) :: starEach es X.env := by rfl) (hpl : (backTo pos (starEach es X.env)).any (·.1) = false := by rfl) : PE X (.Call (.Name "str" p) (a :: es) [] pos) (LE X.K X.mg Z W (vCB fStrI va)) :=
  v_callTy call_str_int lo_strI hg hm (by decide +kernel) ha (by decide) (by decide) he hpl
/-- isinstance(a, T), T the built-in class of that name -/
theorem v_ty {x : Str} {T : String} (hg : Gl X x) (hm : X.mg x = none) (hv : bootBuiltins x = some (.type T)) (hn : x ≠ "__name__" := by decide) (hd : (x == ("__debug__" : Str)) = false := by decide) : PE X (.Name x pos) (LE X.K X.mg Z W (vC (.ty T))) :=
  PE.imp (pe_bltn (v := .ty T) hg hm hv rfl hn hd) fun σ H Q ⟨P, R, as, G, m, k, xk, r, hk, n⟩ => n.ok _ _ R H hk .refl r (.t (.ty T))
theorem v_isi (T : String) (hg : Gl X "isinstance") (hm : X.mg "isinstance" = none) (ha : PA X (a :: es) (LA X.K X.mg Z W va)) (he : starEach (a :: es) X.env = (false, eval a X.env) :: starEach es X.env := by rfl) (hpl : (backTo pos (starEach es X.env)).any (·.1) = false := by rfl) : PE X (.Call (.Name "isinstance" p) (a :: es) [] pos) (LE X.K X.mg Z W (vCB (fIsi T) va)) :=
  v_callB call_isi (lo_isi T) hg hm (by decide +kernel) ha (by decide) (by decide) he hpl
end
end VL

/-! VL, part M: module constants, calls of defs in a bundle. -/
namespace VL
open PySem L2

/-- all that a call of the def named x wants -/
def Df (Pg : Program) (w : World) (K : PySem.W.Frag) (mg : Str → Option Value) (base : Heap) (CX : CXT) (k : Nat) (x : Str) (ps : List Str) (Z : Rsc) (sp : VSp) : Prop :=
  ∃ f fd, FnOk Pg w K mg base CX k f fd ps (liftS K mg Z ps.length sp) ∧ mg x = some (.ref f) ∧ PySem.W.keepIn K (.ref f) = true ∧ Binds K fd ps []
section
variable {X : Cx} {Z Z' : Rsc} {W : WX} {CX : CXT} {k : Nat} {ps : List Str} {sp : VSp} {x : Str} {p pos : Pos} {e : Expr} {es : List Expr} {va : VA}
theorem v_callD (D : Df X.prog X.w X.K X.mg X.base CX k x ps Z' sp) (hZ : Z'.Z = Z.Z) (hn : ∀ ds k x, sp ds k x → ds.length = ps.length) (hr : Room k X.A) (hg : Gl X x) (hx : ∀ σ, PassesAt CX X σ (WE W σ))
    (ha : PA X (e :: es) (LA X.K X.mg Z W va)) (hdb : (x == ("__debug__" : Str)) = false := by decide) (he : starEach (e :: es) X.env = (false, eval e X.env) :: starEach es X.env := by rfl) (hpl : (backTo pos (starEach es X.env)).any (·.1) = false := by rfl) :
    PE X (.Call (.Name x p) (e :: es) [] pos) (LE X.K X.mg Z W (vCall sp va)) := by
  obtain ⟨f, fd, F, hm, hk, hb⟩ := D
  exact v_call F hZ hn hr hg hm hk hb hx ha hdb he hpl
theorem v_globI {i : Int} (hg : Gl X x) (hm : ∃ t, X.mg x = some (.int i t)) (hd : (x == ("__debug__" : Str)) = false := by decide) : PE X (.Name x pos) (LE X.K X.mg Z W (vC (.int i))) := by
  obtain ⟨t, hm⟩ := hm
  exact v_glob (v := .int i) hg hm ⟨t, rfl⟩ (fun _ => .int i) hd
theorem v_globS {i : Str} (hg : Gl X x) (hm : ∃ t, X.mg x = some (.str i t)) (hd : (x == ("__debug__" : Str)) = false := by decide) : PE X (.Name x pos) (LE X.K X.mg Z W (vC (.str i))) := by
  obtain ⟨t, hm⟩ := hm
  exact v_glob (v := .str i) hg hm ⟨t, rfl⟩ (fun _ => .str i) hd
end

/-! ### an ambient thing is made -/
/-- a thing of the kind Z is made of such arguments, all of it new -/
def spMk (K : PySem.W.Frag) (mg : Str → Option Value) (A : List Dv → Prop) (Z : Rsc) : Sp := fun vs H Q _ => ∃ (R : Hp) (ds : List Dv), Same R H ∧ Paired (DRep K mg R (fun _ => 0) []) vs ds ∧ A ds ∧
  ∀ d H' B, Z.Z H' (fun _ => d) B → (∀ b, B b → H b = none) → Same H H' → Q (.ref d) H'
/-- ambient things are forgotten -/
def noH : Env → Env
  | [] => []
  | some (.hnd _) :: r => none :: noH r
  | o :: r => o :: noH r
theorem noH_len : ∀ G : Env, (noH G).length = G.length
  | [] => rfl
  | none :: r => congrArg (· + 1) (noH_len r)
  | some (.t _) :: r => congrArg (· + 1) (noH_len r)
  | some (.loc _) :: r => congrArg (· + 1) (noH_len r)
  | some (.hnd _) :: r => congrArg (· + 1) (noH_len r)
theorem noH_at : ∀ {G : Env} {i : Nat} {d : Dv}, (noH G)[i]? = some (some d) → G[i]? = some (some d) ∧ ∀ l, d ≠ .hnd l
  | [], i, d, h => by simp [noH] at h
  | none :: r, 0, d, h => by simp [noH] at h
  | some (.t x) :: r, 0, d, h => by simp [noH] at h; subst h; exact ⟨by simp, fun l e => by cases e⟩
  | some (.loc x) :: r, 0, d, h => by simp [noH] at h; subst h; exact ⟨by simp, fun l e => by cases e⟩
  | some (.hnd x) :: r, 0, d, h => by simp [noH] at h
  | none :: r, i + 1, d, h => by simpa using noH_at (G := r) (by simpa [noH] using h)
  | some (.t x) :: r, i + 1, d, h => by simpa using noH_at (G := r) (by simpa [noH] using h)
  | some (.loc x) :: r, i + 1, d, h => by simpa using noH_at (G := r) (by simpa [noH] using h)
  | some (.hnd x) :: r, i + 1, d, h => by simpa using noH_at (G := r) (by simpa [noH] using h)
def Mk (Pg : Program) (w : World) (K : PySem.W.Frag) (mg : Str → Option Value) (base : Heap) (k : Nat) (x : Str) (ps : List Str) (sp : Sp) : Prop :=
  ∃ f fd, FnOk Pg w K mg base CX0 k f fd ps sp ∧ mg x = some (.ref f) ∧ PySem.W.keepIn K (.ref f) = true ∧ Binds K fd ps []
def noHnd : Env → Bool
  | [] => true
  | some (.hnd _) :: _ => false
  | _ :: r => noHnd r
theorem noHnd_at {i : Nat} : ∀ {G : Env} {j : Nat}, noHnd G = true → G[j]? ≠ some (some (.hnd i))
  | [], j, _ => by simp
  | o :: r, 0, h => fun e => by
    have e : o = some (.hnd i) := by simpa using e
    subst e
    cases h
  | o :: r, j + 1, h => fun e => by
    have h' : noHnd r = true := by
      cases o with
      | none => exact h
      | some d => cases d with
        | t x => exact h
        | loc k => exact h
        | hnd k => cases h
    exact noHnd_at h' (by simpa using e)
/-- x = make(..), and on with what was made about -/
def vMk (A : List Dv → Prop) (i : Nat) (es : VA) (u : VS) : VS := fun nx rt bk ct ex G m => es G m (fun ds => A ds ∧ allT ds = true ∧ noHnd G = true ∧
  u (fun G' m' => nx (noH G') m') (fun d m' => ∃ y, d = .t y ∧ rt d m') (fun G' m' => bk (noH G') m') (fun G' m' => ct (noH G') m') (fun n m' => ex n m') (G.set i (some (.hnd 0))) m) (fun n => ex n m)
theorem noneG_at {n i : Nat} {d : Dv} : (List.replicate n (none : Option Dv))[i]? ≠ some (some d) := fun e => by
  rw [List.getElem?_replicate] at e
  split at e <;> cases e
theorem allT_noH {K : PySem.W.Frag} {mg : Str → Option Value} {R : Hp} {hd hd' : Nat → Addr} {as as' : List Addr} : ∀ {vs : List V} {ds : List Dv}, Paired (DRep K mg R hd as) vs ds → ds.all (fun d => match d with | .t _ => true | _ => false) = true → Paired (DRep K mg R hd' as') vs ds
  | _, _, .nil, _ => .nil
  | _, _, .cons r t, h => by
    rw [List.all_cons, Bool.and_eq_true] at h
    cases r with
    | t q => exact .cons (.t q) (allT_noH t h.2)
    | hnd i => cases h.1
    | loc q => cases h.1
def onlyT (ds : List Dv) : Bool := ds.all (fun d => match d with | .t _ => true | _ => false)
section
variable {X : Cx} {Z : Rsc} {W : WX} {k : Nat} {x y : Str} {i : Nat} {p p2 p4 pos : Pos} {rest : List Stmt} {u : VS} {ps : List Str} {z : Expr} {zs : List Expr} {va : VA} {A : List Dv → Prop}
/-- the ambient is let go -/
theorem Rel.leave {P : Pm} {hd' : Nat → Addr} {B : Addr → Prop} {K : PySem.W.Frag} {mg : Str → Option Value} {R : Hp} {as : List Addr} {G : Env} {m : Sto} {σ : L2.St} {H : Hp} (hz : Z.n0 = 0) (nB : ∀ a, ¬ P.B a) (hB : ∀ b, B b → P.H0 b = none)
    (r2 : Rel K mg Z ⟨P.H0, P.R0, P.mu, hd', B⟩ R as G m σ H) : Rel K mg Z0 P R as (noH G) m σ H := by
  refine ⟨r2.ex, by rw [noH_len]; exact r2.len, fun l dd e => ?_, fun l t e => ?_, r2.inj, nB, fun b hb => absurd hb (nB b), fun b o e n1 n2 => ?_, r2.dom, r2.fresh, r2.r0, r2.la⟩
  · obtain ⟨e1, e2⟩ := noH_at e
    obtain ⟨v, q1, q2⟩ := r2.env l dd e1
    refine ⟨v, q1, ?_⟩
    cases q2 with
    | t q => exact .t q
    | loc q => exact .loc q
    | hnd q => exact absurd rfl (e2 q)
  · obtain ⟨b, q1, q2, q3, q4, q5⟩ := r2.sto l t e
    refine ⟨b, q1, q2, q3, nB b, ?_⟩
    rcases q5 with q5 | q5
    · exact .inl q5
    · exact absurd q5.2 (by rw [hz]; omega)
  · refine r2.frame b o e n1 fun hb => ?_
    have q := hB b hb
    rw [e] at q; cases q
theorem vs_mk (D : Mk X.prog X.w X.K X.mg X.base k x ps (spMk X.K X.mg A Z)) (hA : ∀ ds, A ds → onlyT ds = true) (hz : Z.n0 = 0) (hr : Room k X.A) (hg : Gl X x) (hN : X.N.Nodup) (hi : X.N[i]? = some y) (hx : Loc X.env.scope y) (ha : PA X (z :: zs) (LA X.K X.mg Z0 W va)) (h : PSs X rest (LS X.K X.mg Z W u))
    (hdb : (x == ("__debug__" : Str)) = false := by decide) (he : starEach (z :: zs) X.env = (false, eval z X.env) :: starEach zs X.env := by rfl) (hpl : (backTo p4 (starEach zs X.env)).any (·.1) = false := by rfl)
    (hs : swapsWith (.Call (.Name x p2) (z :: zs) [] p4) (some (.Name y p)) pos.line X.env = pure false := by rfl) (hf : X.fn y = true ∨ X.env.scope.names.lookup y = some .local := by first | exact .inl rfl | exact .inr rfl | assumption) :
    PSs X (.Assign [.Name y p] (.Call (.Name x p2) (z :: zs) [] p4) pos :: rest) (LS X.K X.mg Z0 W (vMk A i va u)) := by
  obtain ⟨f, fd, F, hm, hk, hb⟩ := D
  refine PSs.imp (pss_cons (ps_set hN hi hx (pe_callS F hr hg hm hk hb (pas0 (W := W)) ha hdb he hpl) hs hf) h) fun D σ H ⟨P, R, as, G, m, nx, rt, bk, ct, ex, r, h0, kk⟩ => ?_
  refine LA.go r h0 (fun ds vs R1 H1 ⟨hAd, hT, hh, hu⟩ n1 r1 d1 => ?_) kk.er
  have nB : ∀ a, ¬ P.B a := r1.vol
  refine ⟨R1, ds, r1.ex, allT_noH d1 (hA ds hAd), hAd, fun d H' B hZ hB hsm => ?_⟩
  have hB0 : ∀ b, B b → P.H0 b = none := fun b hb => by
    cases q : P.H0 b with
    | none => rfl
    | some o => exact absurd (hB b hb) (r1.dom b (by rw [q]; simp))
  have r' : Rel X.K X.mg Z ⟨P.H0, P.R0, P.mu, fun _ => d, B⟩ R1 as (G.set i (some (.hnd 0))) m (σ.set i (some (.ref d))) H' := by
    refine ⟨r1.ex.trans hsm, by rw [List.length_set, List.length_set]; exact r1.len, fun l dd e => ?_, fun l t e => ?_, r1.inj, hZ, fun b hb => ?_, fun b o e n1 n2 => hsm _ _ (r1.frame b o e n1 (nB b)), fun b e => ?_, r1.fresh, r1.r0, r1.la⟩
    · by_cases hl : i = l
      · subst hl
        by_cases hL : i < G.length
        · rw [List.getElem?_set_self hL] at e
          cases e
          exact ⟨_, List.getElem?_set_self (by rw [← r1.len]; exact hL), .hnd (hd := fun _ => d) 0⟩
        · rw [List.getElem?_eq_none (by rw [List.length_set]; omega)] at e; cases e
      · rw [List.getElem?_set_ne hl] at e
        obtain ⟨v, q1, q2⟩ := r1.env l dd e
        refine ⟨v, by rw [List.getElem?_set_ne hl]; exact q1, ?_⟩
        cases q2 with
        | t q => exact .t q
        | loc q => exact .loc q
        | hnd q => exact absurd e (noHnd_at hh)
    · obtain ⟨b, q1, q2, q3, q4, q5⟩ := r1.sto l t e
      obtain ⟨o, ho⟩ := q2.there
      refine ⟨b, q1, q2.mono (Same.refl _) fun o q => hsm _ _ q, q3, (fun hb => by rw [hB b hb] at ho; cases ho), ?_⟩
      rcases q5 with q5 | q5
      · exact .inl q5
      · exact absurd q5.2 (by show ¬ l < 0; omega)
    · cases q : R1 b with
      | none => rfl
      | some o => exact absurd (r1.ex _ _ q) (by rw [hB b hb]; simp)
    · cases q : H1 b with
      | none => exact absurd q (r1.dom b e)
      | some o => rw [hsm _ _ q]; simp
  refine ⟨_, R1, as, _, m, _, _, _, _, _, r', hu, ⟨fun G2 m2 R2 as2 σ2 H2 q r2 => kk.nx _ m2 R2 as2 σ2 H2 q (Rel.leave hz nB hB0 r2), fun dd m2 v2 R2 as2 G2 σ2 H2 ⟨y2, ey, q⟩ r2 d2 => ?_, fun G2 m2 R2 as2 σ2 H2 q r2 => kk.bk _ m2 R2 as2 σ2 H2 q (Rel.leave hz nB hB0 r2), fun G2 m2 R2 as2 σ2 H2 q r2 => kk.ct _ m2 R2 as2 σ2 H2 q (Rel.leave hz nB hB0 r2), fun nm cl m2 R2 as2 G2 σ2 H2 q hcl r2 => kk.ex nm cl m2 R2 as2 _ σ2 H2 q hcl (Rel.leave hz nB hB0 r2)⟩⟩
  subst ey
  cases d2 with
  | t rv2 => exact kk.rt _ m2 v2 R2 as2 _ σ2 H2 q (Rel.leave hz nB hB0 r2) (.t rv2)
end
end VL

/-! VL, part N: steps for a driver; the law's last step. -/
namespace VL
open PySem L2
theorem n0_le {Z : Rsc} {j : Nat} (h : Z.n0 = 0) : Z.n0 ≤ j := by rw [h]; exact Nat.zero_le _
theorem sz {n : Nat} (h : n ≤ 1000) : n ≤ sizeLine := Nat.le_of_lt (small1000 h)
section
variable {G : Env} {m : Sto} {k : DK} {x : XK} {d e : Dv} {i j : Int} {ns ms : List Int} {ts us : List Tr} {t u : Tr} {b c : Bool} {z y : Str}
theorem sp_add (h1 : view m d = some (.int i)) (h2 : view m e = some (.int j)) (q : k (.t (.int (i + j)))) : fAdd m d e k := .inl ⟨i, j, h1, h2, q⟩
theorem sp_addS (h1 : view m d = some (.str z)) (h2 : view m e = some (.str y)) (q : k (.t (.str (z ++ y)))) (hz : z.length + y.length ≤ sizeLine) : fAdd m d e k := .inr (.inl ⟨z, y, h1, h2, hz, q⟩)
theorem sp_addL (h1 : view m d = some (.lst ts)) (h2 : view m e = some (.lst us)) (q : k (.t (.lst (ts ++ us)))) (hz : ts.length + us.length ≤ sizeLine) : fAdd m d e k := .inr (.inr ⟨ts, us, h1, h2, hz, q⟩)
theorem sp_sub (h1 : view m d = some (.int i)) (h2 : view m e = some (.int j)) (q : k (.t (.int (i - j)))) : fSub m d e k := ⟨i, j, h1, h2, q⟩
theorem sp_mul (h1 : view m d = some (.int i)) (h2 : view m e = some (.int j)) (q : k (.t (.int (i * j)))) (c : CM i j) : fMul m d e k := .inl ⟨i, j, h1, h2, c, q⟩
theorem sp_rep (h1 : view m d = some (.lst ts)) (h2 : view m e = some (.int i)) (q : k (.t (.lst (List.replicate i.toNat ts).flatten))) (c1 : -(2 ^ 63) ≤ i) (c2 : i < 2 ^ 63) (c3 : ts.length * i.toNat ≤ sizeLine) : fMul m d e k := .inr ⟨ts, i, h1, h2, c1, c2, c3, q⟩
theorem sp_mod (h1 : view m d = some (.int i)) (h2 : view m e = some (.int j)) (q : k (.t (.int (i % j)))) (c : 0 < j) : fMod m d e k := ⟨i, j, h1, h2, c, q⟩
theorem cdw {i j : Int} (h1 : 0 < j) (h2 : j < 2 ^ 64) : CDivW i j := ⟨h1, by
  have : j.natAbs.log2 < 64 := by
    rw [Nat.log2_lt (by omega)]
    omega
  omega⟩
theorem sp_div (h1 : view m d = some (.int i)) (h2 : view m e = some (.int j)) (q : k (.t (.int (i / j)))) (c : 0 < j) (c2 : j < 2 ^ 64) : fDiv m d e k := ⟨i, j, h1, h2, cdw c c2, q⟩
theorem sp_divW (h1 : view m d = some (.int i)) (h2 : view m e = some (.int j)) (q : k (.t (.int (i / j)))) (c : CDivW i j) : fDiv m d e k := ⟨i, j, h1, h2, c, q⟩
theorem sp_pow (h1 : view m d = some (.int i)) (h2 : view m e = some (.int j)) (q : k (.t (.int (i ^ j.toNat)))) (c : 0 ≤ j) (c2 : j ≤ 1000000) (c3 : i.natAbs < 2 ^ 64) : fPow m d e k := ⟨i, j, h1, h2, ⟨c, c2, c3⟩, q⟩
theorem sp_lt (h1 : view m d = some (.int i)) (h2 : view m e = some (.int j)) (q : k (.t (.bl (decide (i < j))))) : fLt m d e k := ⟨i, j, h1, h2, q⟩
theorem sp_le (h1 : view m d = some (.int i)) (h2 : view m e = some (.int j)) (q : k (.t (.bl (decide (i ≤ j))))) : fLe m d e k := ⟨i, j, h1, h2, q⟩
theorem sp_gt (h1 : view m d = some (.int i)) (h2 : view m e = some (.int j)) (q : k (.t (.bl (decide (j < i))))) : fGt m d e k := ⟨i, j, h1, h2, q⟩
theorem sp_ge (h1 : view m d = some (.int i)) (h2 : view m e = some (.int j)) (q : k (.t (.bl (decide (j ≤ i))))) : fGe m d e k := ⟨i, j, h1, h2, q⟩
theorem lay_int {i : Int} : lay 60 (.int i) = true := by unfold lay; rfl
theorem lay_bl {i : Bool} : lay 60 (.bl i) = true := by unfold lay; rfl
theorem lay_ints {ns : List Int} : lay 60 (.lst (ns.map .int)) = true := by unfold lay; exact lays_ints _ _
theorem sp_eqI (h1 : view m d = some (.int i)) (h2 : view m e = some (.int j)) (q : k (.t (.bl (decide (i = j))))) : fEqD m d e k := ⟨_, _, h1, h2, lay_int, lay_int, by rw [eqT_int]; exact q⟩
theorem sp_neI (h1 : view m d = some (.int i)) (h2 : view m e = some (.int j)) (q : k (.t (.bl (!decide (i = j))))) : fNeD m d e k := ⟨_, _, h1, h2, lay_int, lay_int, by rw [eqT_int]; exact q⟩
theorem sp_eqB (h1 : view m d = some (.bl b)) (h2 : view m e = some (.bl c)) (q : k (.t (.bl (decide (b = c))))) : fEqD m d e k := ⟨_, _, h1, h2, lay_bl, lay_bl, by rw [eqT_bl]; exact q⟩
theorem sp_neB (h1 : view m d = some (.bl b)) (h2 : view m e = some (.bl c)) (q : k (.t (.bl (!decide (b = c))))) : fNeD m d e k := ⟨_, _, h1, h2, lay_bl, lay_bl, by rw [eqT_bl]; exact q⟩
theorem sp_eqL (h1 : view m d = some (.lst (ns.map .int))) (h2 : view m e = some (.lst (ms.map .int))) (q : k (.t (.bl (decide (ns = ms))))) : fEqD m d e k := ⟨_, _, h1, h2, lay_ints, lay_ints, by rw [eqT_ints]; exact q⟩
theorem sp_neL (h1 : view m d = some (.lst (ns.map .int))) (h2 : view m e = some (.lst (ms.map .int))) (q : k (.t (.bl (!decide (ns = ms))))) : fNeD m d e k := ⟨_, _, h1, h2, lay_ints, lay_ints, by rw [eqT_ints]; exact q⟩
theorem sp_eqNil (h1 : view m d = some (.lst [])) (h2 : view m e = some (.lst [])) (q : k (.t (.bl true))) : fEqD m d e k := ⟨_, _, h1, h2, lay_ints (ns := []), lay_ints (ns := []), by rw [show eqT (.lst []) (.lst []) = true from eqT_refl 60 (lay_ints (ns := []))]; exact q⟩
/-- a thing and its like -/
theorem sp_eqR (h1 : view m d = some t) (h2 : view m e = some t) (q : k (.t (.bl true))) (hl : lay 60 t = true) : fEqD m d e k := ⟨_, _, h1, h2, hl, hl, by rw [eqT_refl 60 hl]; exact q⟩
theorem sp_neR (h1 : view m d = some t) (h2 : view m e = some t) (q : k (.t (.bl false))) (hl : lay 60 t = true) : fNeD m d e k := ⟨_, _, h1, h2, hl, hl, by rw [eqT_refl 60 hl]; exact q⟩
theorem sp_eq (h1 : view m d = some t) (h2 : view m e = some u) (q : k (.t (.bl (eqT t u)))) (hl : lay 60 t = true) (hl2 : lay 60 u = true) : fEqD m d e k := ⟨_, _, h1, h2, hl, hl2, q⟩
theorem sp_ne (h1 : view m d = some t) (h2 : view m e = some u) (q : k (.t (.bl (!eqT t u)))) (hl : lay 60 t = true) (hl2 : lay 60 u = true) : fNeD m d e k := ⟨_, _, h1, h2, hl, hl2, q⟩
theorem sp_isN (h1 : view m d = some t) (h2 : view m e = some .non) (q : k (.t (.bl t.isN))) : fIs m d e k := .inl ⟨t, h1, h2, q⟩
theorem sp_isnN (h1 : view m d = some t) (h2 : view m e = some .non) (q : k (.t (.bl (!t.isN)))) : fIsnt m d e k := .inl ⟨t, h1, h2, q⟩
theorem sp_isB (h1 : view m d = some (.bl b)) (h2 : view m e = some (.bl c)) (q : k (.t (.bl (decide (b = c))))) : fIs m d e k := .inr ⟨b, c, h1, h2, q⟩
theorem sp_isnB (h1 : view m d = some (.bl b)) (h2 : view m e = some (.bl c)) (q : k (.t (.bl (!decide (b = c))))) : fIsnt m d e k := .inr ⟨b, c, h1, h2, q⟩
theorem sp_ixL (h1 : view m d = some (.lst ts)) (h2 : view m e = some (.int i)) (h3 : atI ts i = some t) (q : k (.t t)) : fIdx m d e k := .inl (.inl ⟨ts, i, t, h1, h2, h3, q⟩)
theorem sp_ixT (h1 : view m d = some (.tup ts)) (h2 : view m e = some (.int i)) (h3 : atI ts i = some t) (q : k (.t t)) : fIdx m d e k := .inr (.inl ⟨ts, i, t, h1, h2, h3, q⟩)
theorem atI_of {α : Type} {ts : List α} {i : Int} {t : α} (h : 0 ≤ i) (e : ts[i.toNat]? = some t) : atI ts i = some t := by
  obtain ⟨n, rfl⟩ := Int.eq_ofNat_of_zero_le h
  exact atI_nat e
theorem sp_ixI (h1 : view m d = some (.lst (ns.map .int))) (h2 : view m e = some (.int i)) (q : k (.t (.int (ns.getD i.toNat 0)))) (h3 : 0 ≤ i) (h4 : i < ns.length) : fIdx m d e k := .inl (.inl ⟨_, i, .int (ns.getD i.toNat 0), h1, h2, atI_of h3 (by
  have hl : i.toNat < ns.length := by omega
  rw [List.getElem?_map, List.getElem?_eq_getElem hl, List.getD_eq_getElem?_getD, List.getElem?_eq_getElem hl]; rfl), q⟩)
theorem sp_ixR (h1 : view m d = some (.scr ns)) (h2 : view m e = some (.int i)) (q : k (.t (.int (ns.getD i.toNat 0)))) (h3 : 0 ≤ i) (h4 : i < ns.length) : fIdx m d e k := .inl (.inr ⟨_, i, ns.getD i.toNat 0, h1, h2, atI_of h3 (by
  have hl : i.toNat < ns.length := by omega
  rw [List.getD_eq_getElem?_getD, List.getElem?_eq_getElem hl]; rfl), q⟩)
theorem sp_slL {l u : Option Int} (h1 : view m d = some (.lst ts)) (q : k (.t (.lst (cutG ts l u)))) : fSlc m d l u k := .inl (.inl ⟨ts, h1, q⟩)
theorem sp_slI {l u : Option Int} (h1 : view m d = some (.lst (ns.map .int))) (q : k (.t (.lst ((cutG ns l u).map .int)))) : fSlc m d l u k := sp_slL h1 (by rw [cutG_map]; exact q)
theorem sp_addI (h1 : view m d = some (.lst (ns.map .int))) (h2 : view m e = some (.lst (ms.map .int))) (q : k (.t (.lst ((ns ++ ms).map .int)))) (hz : ns.length + ms.length ≤ 1000000) : fAdd m d e k := sp_addL h1 h2 (by rw [← List.map_append]; exact q) (by rw [List.length_map, List.length_map, sizeLine_eq]; omega)
theorem sp_addI1 (h1 : view m d = some (.lst [.int i])) (h2 : view m e = some (.lst (ms.map .int))) (q : k (.t (.lst ((i :: ms).map .int)))) (hz : ms.length ≤ 999999) : fAdd m d e k := sp_addI (ns := [i]) h1 h2 q (by simp; omega)
theorem sp_addI2 (h1 : view m d = some (.lst (ns.map .int))) (h2 : view m e = some (.lst [.int i])) (q : k (.t (.lst ((ns ++ [i]).map .int)))) (hz : ns.length ≤ 999999) : fAdd m d e k := sp_addI (ms := [i]) h1 h2 q (by simp; omega)
theorem rep_one (x : Int) : ∀ n : Nat, (List.replicate n [Tr.int x]).flatten = (List.replicate n x).map Tr.int
  | 0 => rfl
  | n + 1 => by rw [List.replicate_succ, List.flatten_cons, rep_one x n, List.replicate_succ, List.map_cons]; rfl
theorem sp_rep1 (h1 : view m d = some (.lst [.int j])) (h2 : view m e = some (.int i)) (q : k (.t (.lst ((List.replicate i.toNat j).map .int)))) (c : -1000000 ≤ i ∧ i ≤ 1000000) : fMul m d e k := sp_rep h1 h2 (by rw [rep_one]; exact q) (by omega) (by omega) (by rw [sizeLine_eq]; simp; omega)
theorem cut_to {α : Type} (xs : List α) {a : Int} (h : 0 ≤ a) : cutG xs none (some a) = xs.take a.toNat := by
  obtain ⟨i, rfl⟩ := Int.eq_ofNat_of_zero_le h
  unfold cutG
  rw [HT.sIx_nat, HT.sIx_none, List.drop_zero, Int.toNat_natCast, Nat.sub_zero]
  by_cases c : i ≤ xs.length
  · rw [Nat.min_eq_left c]
  · rw [Nat.min_eq_right (by omega), List.take_of_length_le (Nat.le_refl _), List.take_of_length_le (by omega)]
theorem cut_from {α : Type} (xs : List α) {a : Int} (h : 0 ≤ a) : cutG xs (some a) none = xs.drop a.toNat := by
  obtain ⟨i, rfl⟩ := Int.eq_ofNat_of_zero_le h
  unfold cutG
  rw [HT.sIx_nat, HT.sIx_none, Int.toNat_natCast]
  by_cases c : i ≤ xs.length
  · rw [Nat.min_eq_left c, List.take_of_length_le (by rw [List.length_drop]; exact Nat.le_refl _)]
  · rw [Nat.min_eq_right (by omega), List.drop_eq_nil_of_le (Nat.le_refl _), List.drop_eq_nil_of_le (by omega), List.take_nil]
theorem sp_slR {l u : Option Int} (h1 : view m d = some (.scr ns)) (q : k (.t (.lst ((cutG ns l u).map .int)))) : fSlc m d l u k := .inl (.inr ⟨ns, h1, q⟩)
theorem sp_lenL (h1 : view m d = some (.lst ts)) (q : k (.t (.int ts.length))) : fLen m [d] k := ⟨d, _, _, rfl, h1, rfl, (fun z e => by cases e), q⟩
theorem sp_lenT (h1 : view m d = some (.tup ts)) (q : k (.t (.int ts.length))) : fLen m [d] k := ⟨d, _, _, rfl, h1, rfl, (fun z e => by cases e), q⟩
theorem sp_lenR (h1 : view m d = some (.scr ns)) (q : k (.t (.int ns.length))) : fLen m [d] k := ⟨d, _, _, rfl, h1, rfl, (fun z e => by cases e), q⟩
theorem sp_abs (h1 : view m d = some (.int i)) (q : k (.t (.int (if i < 0 then -i else i)))) : fAbs m [d] k := ⟨d, i, rfl, h1, q⟩
theorem sp_max2 (h1 : view m d = some (.int i)) (h2 : view m e = some (.int j)) (q : k (.t (.int (max i j)))) : fMax m [d, e] k := .inl ⟨d, e, i, j, rfl, h1, h2, q⟩
theorem sp_min2 (h1 : view m d = some (.int i)) (h2 : view m e = some (.int j)) (q : k (.t (.int (min i j)))) : fMin m [d, e] k := .inl ⟨d, e, i, j, rfl, h1, h2, q⟩
theorem sp_maxL (h1 : view m d = some (.lst (ns.map .int))) (q : k (.t (.int (mxI ns)))) (h : 0 < ns.length) : fMax m [d] k := .inr ⟨d, _, ns, rfl, h1, intsOf_map ns, h, q⟩
theorem sp_minL (h1 : view m d = some (.lst (ns.map .int))) (q : k (.t (.int (mnI ns)))) (h : 0 < ns.length) : fMin m [d] k := .inr ⟨d, _, ns, rfl, h1, intsOf_map ns, h, q⟩
theorem sp_sum (h1 : view m d = some (.lst (ns.map .int))) (q : k (.t (.int ns.sum))) : fSum m [d] k := ⟨d, _, ns, rfl, h1, intsOf_map ns, q⟩
theorem sp_int (h1 : view m d = some (.int i)) (q : k (.t (.int i))) : fInt m [d] k := ⟨d, rfl, .inl ⟨i, h1, q⟩⟩
theorem sp_intB (h1 : view m d = some (.bl b)) (q : k (.t (.int (if b then 1 else 0)))) : fInt m [d] k := ⟨d, rfl, .inr ⟨b, h1, q⟩⟩
theorem sp_list (h1 : view m d = some (.lst ts)) (q : k (.t (.lst ts))) : fList m [d] k := ⟨d, ts, rfl, .inl h1, q⟩
theorem sp_listT (h1 : view m d = some (.tup ts)) (q : k (.t (.lst ts))) : fList m [d] k := ⟨d, ts, rfl, .inr h1, q⟩
theorem sp_tuple (h1 : view m d = some (.lst ts)) (q : k (.t (.tup ts))) : fTuple m [d] k := ⟨d, ts, rfl, h1, q⟩
theorem sp_strI (h1 : view m d = some (.int i)) (q : k (.t (.str (toString i)))) (h : i.natAbs.log2 < 1920) : fStrI m [d] k := ⟨d, i, rfl, h1, h, q⟩
theorem sp_isi {T : String} {kd : String} (h1 : view m d = some t) (h2 : kindT t = some kd) (h3 : kitB kd T = some b) (q : k (.t (.bl b))) : fIsi T m [d, .t (.ty T)] k := ⟨d, t, kd, b, rfl, h1, h2, h3, q⟩
theorem sp_isiT {T : String} {kd : String} (h1 : view m d = some t) (h2 : kindT t = some kd) (h3 : kitB kd T = some true) (q : k (.t (.bl true))) : fIsi T m [d, .t (.ty T)] k := ⟨d, t, kd, true, rfl, h1, h2, h3, q⟩
theorem sp_isiF {T : String} {kd : String} (h1 : view m d = some t) (h2 : kindT t = some kd) (h3 : kitB kd T = some false) (q : k (.t (.bl false))) : fIsi T m [d, .t (.ty T)] k := ⟨d, t, kd, false, rfl, h1, h2, h3, q⟩
theorem sp_ixM (h1 : view m d = some (.lst ts)) (h2 : view m e = some (.int i)) (q : ∀ t ∈ ts, k (.t t)) (h3 : 0 ≤ i) (h4 : i < (ts.length : Int)) : fIdx m d e k := by
  have hl : i.toNat < ts.length := by omega
  exact .inl (.inl ⟨ts, i, ts[i.toNat], h1, h2, atI_of h3 (List.getElem?_eq_getElem hl), q _ (List.getElem_mem hl)⟩)
/-! branches, known -/
theorem br_dt {c : Prop} [Decidable c] {A B : Prop} (h1 : c) (h2 : A) : (decide c = true → A) ∧ (decide c = false → B) := br_d (fun _ => h2) fun n => absurd h1 n
theorem br_df {c : Prop} [Decidable c] {A B : Prop} (h1 : ¬ c) (h2 : B) : (decide c = true → A) ∧ (decide c = false → B) := br_d (fun n => absurd n h1) fun _ => h2
/-- an if without an else, on from what holds behind it -/
theorem br_joinN {c : Bool} {A : Prop} {R : SK} {rt : RK} {bk ct : SK} {ex : XS} (J : Env → Sto → Prop) (hr : ∀ G' m', J G' m' → R G' m') (h1 : (∀ G' m', J G' m' → R G' m') → c = true → A) (h2 : c = false → J G m) : (c = true → A) ∧ (c = false → vNext R rt bk ct ex G m) := ⟨h1 hr, fun z => hr _ _ (h2 z)⟩
theorem ints_all {C : Int → Prop} : ∀ {acc : List Tr}, (∀ (i : Nat) y, acc[i]? = some y → ∃ p, y = .int p ∧ C p) → ∃ ps : List Int, acc = ps.map .int ∧ ∀ p ∈ ps, C p
  | [], _ => ⟨[], rfl, fun p h => by cases h⟩
  | y :: r, h => by
    obtain ⟨p, rfl, hp⟩ := h 0 y rfl
    obtain ⟨ps, rfl, hq⟩ := ints_all (acc := r) fun i z e => h (i + 1) z (by simpa using e)
    exact ⟨p :: ps, rfl, fun q hq' => by
      rcases List.mem_cons.mp hq' with rfl | e
      · exact hp
      · exact hq q e⟩
theorem an_lt {n l : Nat} {A : Prop} (h : n < l) (q : A) : n < l ∧ A := ⟨h, q⟩
theorem st_newL' {nx : SK} {i j : Nat} {ds : List Dv} (h1 : unT ds = some ts) (h2 : ts.length ≤ sizeLine) (h3 : j < m.length) (h4 : noLoc j (G.set i none) = true) (h : nx (G.set i (some (.loc j))) (m.set j (some (.lst ts)))) :
    ∃ ts, unT ds = some ts ∧ ts.length ≤ sizeLine ∧ j < m.length ∧ noLoc j (G.set i none) = true ∧ nx (G.set i (some (.loc j))) (m.set j (some (.lst ts))) := ⟨ts, h1, h2, h3, h4, h⟩
theorem st_app3 {n : Nat} (h : m[n]? = some (some (.lst ts))) {A : Nat → List Tr → Prop} (q : A n ts) : ∃ j' ts', Dv.loc n = .loc j' ∧ m[j']? = some (some (.lst ts')) ∧ A j' ts' := ⟨n, ts, rfl, h, q⟩
theorem st_rA {d : Dv} {n : Int} {A : Int → Prop} (h : view m d = some (.int n)) (q : A n) (h1 : -(2 ^ 62) ≤ n) (h2 : n < 2 ^ 62) : ∃ n : Int, view m d = some (.int n) ∧ -(2 ^ 62) ≤ n ∧ n < 2 ^ 62 ∧ A n := ⟨n, h, h1, h2, q⟩
theorem st_rB {d e : Dv} {i n : Int} {A : Int → Int → Prop} (h : view m d = some (.int i)) (h' : view m e = some (.int n)) (q : A i n) (hb : -(2 ^ 62) ≤ i ∧ i < 2 ^ 62 ∧ -(2 ^ 62) ≤ n ∧ n < 2 ^ 62) : ∃ i n : Int, view m d = some (.int i) ∧ view m e = some (.int n) ∧ (-(2 ^ 62) ≤ i ∧ i < 2 ^ 62 ∧ -(2 ^ 62) ≤ n ∧ n < 2 ^ 62) ∧ A i n := ⟨i, n, h, h', hb, q⟩
theorem st_zA {A : List Tr → List Tr → Prop} (q : A ts us) : ∃ xs' ys', Dv.t (.lst ts) = .t (.lst xs') ∧ Dv.t (.lst us) = .t (.lst ys') ∧ A xs' ys' := ⟨ts, us, rfl, rfl, q⟩
theorem st_sv {d : Dv} {A : Str → Prop} (h : view m d = some (.str z)) (q : A z) : ∃ z', view m d = some (.str z') ∧ A z' := ⟨z, h, q⟩
theorem st_callS' {ds : List Dv} {A B : Prop} (h : allT ds = true) (q : A) : (allT ds = true ∧ A) ∨ B := .inl ⟨h, q⟩
theorem st_callB' {ds ds' : List Dv} {A : Prop} {C : List Dv → Prop} (h : bors m ds = some ds') (q : C ds') : A ∨ ∃ ds', bors m ds = some ds' ∧ C ds' := .inr ⟨ds', h, q⟩
theorem lc_mapB {us : List Tr} {B : List Tr → Prop} {A : Nat → Tr → List Tr → (Nat → List Tr → Prop) → Prop} (f : Tr → Tr) (hz : us.length ≤ sizeLine) (hs : ∀ (i : Nat) t acc, us[i]? = some t → acc.length < sizeLine → ∀ I : Nat → List Tr → Prop, I (i + 1) (acc ++ [f t]) → A i t acc I) (hk : B (us.map f)) :
    ∃ I : Nat → List Tr → Prop, I 0 [] ∧ (∀ (i : Nat) t acc, us[i]? = some t → I i acc → A i t acc I) ∧ ∀ acc, I us.length acc → B acc :=
  ⟨fun i acc => acc = (us.take i).map f, by simp, fun i t acc e h => by
    subst h
    obtain ⟨hi, he⟩ := List.getElem?_eq_some_iff.mp e
    refine hs i t _ e (by rw [List.length_map, List.length_take]; omega) _ ?_
    rw [List.take_succ, e]
    simp, fun acc h => by subst h; rw [List.take_length]; exact hk⟩
/-- a comprehension all of whose items fail the test -/
theorem lc_none {us : List Tr} {B : List Tr → Prop} {A : Nat → Tr → List Tr → (Nat → List Tr → Prop) → Prop} (hs : ∀ (i : Nat) t, us[i]? = some t → ∀ I : Nat → List Tr → Prop, I (i + 1) [] → A i t [] I) (hk : B []) :
    ∃ I : Nat → List Tr → Prop, I 0 [] ∧ (∀ (i : Nat) t acc, us[i]? = some t → I i acc → A i t acc I) ∧ ∀ acc, I us.length acc → B acc :=
  ⟨fun _ acc => acc = [], rfl, fun i t acc e h => by subst h; exact hs i t e _ rfl, fun acc h => by subst h; exact hk⟩
/-- a comprehension with a test: how many pass -/
theorem lc_cnt {us : List Tr} {B : List Tr → Prop} {A : Nat → Tr → List Tr → (Nat → List Tr → Prop) → Prop} (c : Nat → Nat) (h0 : c 0 = 0) (hz : us.length ≤ sizeLine)
    (hs : ∀ (i : Nat) t acc, us[i]? = some t → acc.length < sizeLine → ∀ I : Nat → List Tr → Prop, (c (i + 1) = c i + 1 → ∀ y, I (i + 1) (acc ++ [y])) → (c (i + 1) = c i → I (i + 1) acc) → A i t acc I) (hk : ∀ acc : List Tr, acc.length = c us.length → B acc) :
    ∃ I : Nat → List Tr → Prop, I 0 [] ∧ (∀ (i : Nat) t acc, us[i]? = some t → I i acc → A i t acc I) ∧ ∀ acc, I us.length acc → B acc :=
  ⟨fun i acc => acc.length = c i ∧ acc.length ≤ i, ⟨h0.symm, Nat.le_refl _⟩, fun i t acc e ⟨h1, h2⟩ => by
    obtain ⟨hi, _⟩ := List.getElem?_eq_some_iff.mp e
    exact hs i t acc e (by omega) _ (fun q y => ⟨by rw [List.length_append, h1, q]; rfl, by rw [List.length_append]; simp; omega⟩) fun q => ⟨by rw [h1, q], by omega⟩, fun acc ⟨h1, _⟩ => hk acc h1⟩
/-- a comprehension over anything: what holds of the elements -/
theorem lc_all {us : List Tr} {B : List Tr → Prop} {A : Nat → Tr → List Tr → (Nat → List Tr → Prop) → Prop} (C : Nat → Tr → Prop) (hz : us.length ≤ sizeLine)
    (hs : ∀ (i : Nat) t acc, us[i]? = some t → acc.length < sizeLine → ∀ I : Nat → List Tr → Prop, (∀ y, C i y → I (i + 1) (acc ++ [y])) → A i t acc I) (hk : ∀ acc : List Tr, acc.length = us.length → (∀ (i : Nat) y, acc[i]? = some y → C i y) → B acc) :
    ∃ I : Nat → List Tr → Prop, I 0 [] ∧ (∀ (i : Nat) t acc, us[i]? = some t → I i acc → A i t acc I) ∧ ∀ acc, I us.length acc → B acc :=
  ⟨fun i acc => acc.length = i ∧ ∀ (l : Nat) y, acc[l]? = some y → C l y, ⟨rfl, fun l y e => by simp at e⟩, fun i t acc e ⟨h1, h2⟩ => by
    obtain ⟨hi, _⟩ := List.getElem?_eq_some_iff.mp e
    refine hs i t acc e (by omega) _ fun y hy => ⟨by rw [List.length_append, h1]; rfl, fun l w hw => ?_⟩
    by_cases hl : l < acc.length
    · rw [List.getElem?_append_left hl] at hw; exact h2 l w hw
    · rw [List.getElem?_append_right (by omega)] at hw
      have hl2 : l - acc.length = 0 := by
        by_cases q : l - acc.length = 0
        · exact q
        · rw [List.getElem?_eq_none (by simp; omega)] at hw; cases hw
      rw [hl2] at hw
      have e2 : y = w := by simpa using hw
      subst e2
      have : l = i := by omega
      rw [this]; exact hy, fun acc ⟨h1, h2⟩ => hk acc h1 h2⟩
/-- a for: an invariant by places -/
theorem fr_inv {nx : SK} {A : Nat → Tr → Env → Sto → (Nat → Env → Sto → Prop) → Prop} (I : Nat → Env → Sto → Prop) (h0 : I 0 G m) (hs : ∀ (i : Nat) t G' m', ts[i]? = some t → I i G' m' → A i t G' m' I) (hd : ∀ G' m', I ts.length G' m' → nx G' m') :
    ∃ I : Nat → Env → Sto → Prop, I 0 G m ∧ (∀ (i : Nat) t G' m', ts[i]? = some t → I i G' m' → A i t G' m' I) ∧ ∀ G' m', I ts.length G' m' → nx G' m' := ⟨I, h0, hs, hd⟩
end

/-! ### x = list(e), an owned list at the site j -/
abbrev vNewC (i j : Nat) (e : VE) : VS := fun nx _ _ _ ex G m => e G m (fun d => ∃ ts, (view m d = some (.lst ts) ∨ view m d = some (.tup ts)) ∧ j < m.length ∧ noLoc j (G.set i none) = true ∧ nx (G.set i (some (.loc j))) (m.set j (some (.lst ts)))) (fun n => ex n m)
theorem st_newC {nx : SK} {G : Env} {m : Sto} {d : Dv} {i j : Nat} {ts : List Tr} (h1 : view m d = some (.lst ts)) (h3 : j < m.length) (h4 : noLoc j (G.set i none) = true) (h : nx (G.set i (some (.loc j))) (m.set j (some (.lst ts)))) :
    ∃ ts, (view m d = some (.lst ts) ∨ view m d = some (.tup ts)) ∧ j < m.length ∧ noLoc j (G.set i none) = true ∧ nx (G.set i (some (.loc j))) (m.set j (some (.lst ts))) := ⟨ts, .inl h1, h3, h4, h⟩
section
variable {X : Cx} {Z : Rsc} {W : WX} {e : Expr} {ve : VE} {pos : Pos}
theorem vs_newC {i j : Nat} {x : Str} {pos' p2 p3 : Pos} (hg : Gl X "list") (hm : X.mg "list" = none) (hN : X.N.Nodup) (hi : X.N[i]? = some x) (hx : Loc X.env.scope x) (h : PE X e (LE X.K X.mg Z W ve)) (he : starEach [e] X.env = (false, eval e X.env) :: starEach [] X.env := by rfl) (hpl : (backTo p3 (starEach [] X.env)).any (·.1) = false := by rfl)
    (hs : swapsWith (.Call (.Name "list" p2) [e] [] p3) (some (.Name x pos')) pos.line X.env = pure false := by rfl) (hf : X.fn x = true ∨ X.env.scope.names.lookup x = some .local := by first | exact .inl rfl | exact .inr rfl | assumption) :
    PS X (.Assign [.Name x pos'] (.Call (.Name "list" p2) [e] [] p3) pos) (LS X.K X.mg Z W (vNewC i j ve)) :=
  PS.imp (ps_set hN hi hx (pe_callTy call_list_of hg hm (by decide +kernel) (pa_cons h pa_nil he) (by decide) (by decide) he hpl) hs hf) fun D σ H ⟨P, R, as, G, m, nx, rt, bk, ct, ex, r, h, k⟩ => LE.go r h (fun d v R1 H1 ⟨ts, e1, hj, hn, h1⟩ n1 r1 d1 => by
    rcases e1 with e1 | e1
    · obtain ⟨a, xs, rfl, hx, rx⟩ := r1.vLst d1 e1
      exact ⟨a, xs, rfl, .inl (.of hx), fun p hp => k.nx _ _ _ _ _ _ h1 (r1.newAt hp hj hn ⟨xs, upd_same, rx⟩)⟩
    · obtain ⟨a, xs, rfl, hx, rx⟩ := r1.vTup d1 e1
      exact ⟨a, xs, rfl, .inr (.of hx), fun p hp => k.nx _ _ _ _ _ _ h1 (r1.newAt hp hj hn ⟨xs, upd_same, rx⟩)⟩) k.er
end
theorem noHnd_noH : ∀ G : Env, noHnd (noH G) = true
  | [] => rfl
  | none :: r => noHnd_noH r
  | some (.t _) :: r => noHnd_noH r
  | some (.loc _) :: r => noHnd_noH r
  | some (.hnd _) :: r => noHnd_noH r
theorem noHnd_tail {o : Option Dv} {r : Env} (h : noHnd (o :: r) = true) : noHnd r = true := by
  cases o with
  | none => exact h
  | some d => cases d with
    | t x => exact h
    | loc x => exact h
    | hnd x => cases h
/-! ### a law's promise -/
def spLaw (K : PySem.W.Frag) : Sp := fun vs H Q _ => ∃ (a : Addr) (ns : List Int), vs = [.ref a] ∧ SqL K H a (ns.map V.int) ∧ ns.length ≤ 63 ∧ ∀ H', Q (.bl true) H'
def S_law : VSp := fun ds k _ => ∃ ns : List Int, ds = [.t (.scr ns)] ∧ ns.length ≤ 63 ∧ k (.bl true)
theorem law_lift {K : PySem.W.Frag} {mg : Str → Option Value} (vs : List V) (H : Hp) (Q : VK) (E : L2.XK) (h : spLaw K vs H Q E) : liftS K mg Z0 1 S_law vs H Q E := by
  obtain ⟨a, ns, rfl, hS, hn, hq⟩ := h
  refine ⟨rfl, ⟨H, H, fun _ => False, fun _ => 0, fun _ => False⟩, H, [.t (.scr ns)], fun y => y = .bl true, fun _ => False, rfl, rfl, fun _ z => z, ?_, .cons (.t (.scr hS)) .nil, ⟨ns, rfl, hn, rfl⟩, fun y v R' H' e r rv => ?_, fun _ _ _ _ z => z.elim⟩
  · exact ⟨Same.refl _, rfl, fun i d e => by simp at e, fun j x e => by simp at e, fun j k x y a e => by simp at e, fun a z => z, fun a z => z.elim, fun a o e _ _ => e, fun a e => e, fun a e => .inl e, Same.refl _, rfl⟩
  · subst e
    cases rv
    exact hq _
end VL

namespace LK
open PySem L2 VL
abbrev N_is_whole : List Str := ["thing"]
abbrev N_is_weight : List Str := ["thing"]
abbrev N_are_parts : List Str := ["thing", "one"]
abbrev N_is_frame : List Str := ["thing", "base", "parts", "weights", "one"]
abbrev N_need_from : List Str := ["thing", "least"]
abbrev N_many_of : List Str := ["frame", "found", "turn"]
abbrev N_is_number : List Str := ["frame", "thing"]
abbrev N_written : List Str := ["frame", "n", "found", "turn"]
abbrev N_cut : List Str := ["parts", "row", "found", "at", "size"]
abbrev N_sums_of : List Str := ["frame", "n", "found", "figures", "weights", "figure", "weight"]
abbrev N_need_frames : List Str := ["thing", "frame"]
abbrev N_keeps : List Str := ["frames", "thing", "frame", "sums"]
abbrev N_next_keeping : List Str := ["frames", "n", "ahead"]
abbrev N_law_cell : List Str := ["script", "k"]
abbrev N_law_store : List Str := ["cell", "great"]
abbrev N_law_take : List Str := ["store", "many", "told", "one"]
abbrev N_law_frame : List Str := ["store", "longest", "base", "parts", "way", "one", "weights", "k", "any_one", "some"]
abbrev N_law_many : List Str := ["frame", "found", "k"]
abbrev N_law_figures : List Str := ["frame", "n", "found", "k"]
abbrev N_law_spread : List Str := ["frame", "n", "figures", "at", "sums", "size", "k"]
abbrev N_law_frames : List Str := ["store", "first", "found", "k", "other"]
abbrev N_law_long_frames : List Str := ["store", "many", "first", "found", "k", "other", "turned"]
abbrev N_law_copies : List Str := ["frames", "base", "parts", "weights"]
abbrev N_law_keeps : List Str := ["frames", "thing", "frame"]
abbrev N_law_next : List Str := ["frames", "n", "ahead"]
abbrev N_law : List Str := ["script", "at", "store", "frames", "given", "frame", "figures", "k", "some", "near", "n", "due", "again", "found"]
local macro_rules | `(tactic| walk_at "vl side") => `(tactic| first | assumption | omega | rfl | (simp only [List.length_cons, List.length_nil, List.length_map]; omega) | decide | exact sz (Nat.le_of_ble_eq_true rfl))
local macro_rules | `(tactic| walk_at "vl call") => `(tactic| (exact absurd rfl rfl))
local macro_rules | `(tactic| walk_at "vl more") => `(tactic| (exact absurd rfl rfl))
local macro_rules | `(tactic| walk_at "vl op") => `(tactic| first
  | ((with_reducible apply sp_ixL); rfl; rfl; rfl) | ((with_reducible apply sp_ixT); rfl; rfl; rfl) | ((with_reducible apply sp_ixI); rfl; rfl) | ((with_reducible apply sp_ixR); rfl; rfl)
  | ((with_reducible apply sp_add); rfl; rfl) | ((with_reducible apply sp_addI); rfl; rfl) | ((with_reducible apply sp_addI1); rfl; rfl) | ((with_reducible apply sp_addI2); rfl; rfl) | ((with_reducible apply sp_addL); rfl; rfl) | ((with_reducible apply sp_sub); rfl; rfl)
  | ((with_reducible apply sp_mul); rfl; rfl) | ((with_reducible apply sp_mod); rfl; rfl) | ((with_reducible apply sp_divW); rfl; rfl) | ((with_reducible apply sp_pow); rfl; rfl)
  | ((with_reducible apply sp_lt); rfl; rfl) | ((with_reducible apply sp_le); rfl; rfl) | ((with_reducible apply sp_gt); rfl; rfl) | ((with_reducible apply sp_ge); rfl; rfl)
  | ((with_reducible apply sp_eqI); rfl; rfl) | ((with_reducible apply sp_neI); rfl; rfl) | ((with_reducible apply sp_eqB); rfl; rfl) | ((with_reducible apply sp_neB); rfl; rfl)
  | ((with_reducible apply sp_eqL); rfl; rfl) | ((with_reducible apply sp_neL); rfl; rfl) | ((with_reducible apply sp_eqNil); rfl; rfl) | ((with_reducible apply sp_isN); rfl; rfl) | ((with_reducible apply sp_isnN); rfl; rfl) | ((with_reducible apply sp_isB); rfl; rfl) | ((with_reducible apply sp_isnB); rfl; rfl)
  | ((with_reducible apply sp_ixM); rfl; rfl) | ((with_reducible apply sp_rep1); rfl; rfl) | ((with_reducible apply sp_rep); rfl; rfl) | ((with_reducible apply sp_slI); rfl) | ((with_reducible apply sp_slL); rfl) | ((with_reducible apply sp_slR); rfl))
local macro_rules | `(tactic| walk_at "vl built") => `(tactic| first
  | ((with_reducible apply sp_isiT); rfl; rfl; rfl) | ((with_reducible apply sp_isiF); rfl; rfl; rfl) | ((with_reducible apply sp_lenL); rfl) | ((with_reducible apply sp_lenT); rfl) | ((with_reducible apply sp_lenR); rfl) | ((with_reducible apply sp_abs); rfl) | ((with_reducible apply sp_max2); rfl; rfl) | ((with_reducible apply sp_min2); rfl; rfl)
  | ((with_reducible apply sp_maxL); rfl) | ((with_reducible apply sp_minL); rfl) | ((with_reducible apply sp_sum); rfl) | ((with_reducible apply sp_int); rfl) | ((with_reducible apply sp_intB); rfl) | ((with_reducible apply sp_list); rfl) | ((with_reducible apply sp_listT); rfl)
  | ((with_reducible apply sp_tuple); rfl) | ((with_reducible apply sp_strI); rfl))
local macro_rules | `(tactic| walk_at "vl leaf") => `(tactic| first
  | with_reducible apply br_t | with_reducible apply br_f | with_reducible apply br_n | ((with_reducible apply br_dt); walk_at "vl side") | ((with_reducible apply br_df); walk_at "vl side")
  | with_reducible apply st_tt | ((with_reducible apply st_rA); rfl) | ((with_reducible apply st_rB); rfl; rfl) | ((with_reducible apply st_bl); rfl) | ((with_reducible apply st_in); rfl) | ((with_reducible apply st_ls); rfl) | (refine st_callS' rfl ?_) | (refine st_callB' rfl ?_)
  | with_reducible apply st_de | ((with_reducible apply st_app3); rfl)
  | (refine st_newL' rfl (sz (Nat.le_of_ble_eq_true rfl)) (Nat.le_of_ble_eq_true rfl) rfl ?_) | (refine st_unT rfl (sz (Nat.le_of_ble_eq_true rfl)) ?_)
  | ((with_reducible apply st_newC); rfl; exact Nat.le_of_ble_eq_true rfl; rfl) | with_reducible apply st_iL1 | with_reducible apply st_iL2 | with_reducible apply st_zA | ((with_reducible apply st_sv); rfl)
  | ((with_reducible apply st_gTup); rfl) | with_reducible apply st_gCons | with_reducible apply st_gNil | ((with_reducible apply st_frz); rfl) | ((with_reducible apply st_aug); rfl) | ((with_reducible apply st_I0); rfl; rfl) | ((with_reducible apply st_setIL); rfl; rfl; rfl))
local macro_rules | `(tactic| walk_at "vl step") => `(tactic| first | ((with_reducible apply st_var); rfl) | walk_at "vl leaf" | walk_at "vl op" | walk_at "vl built" | walk_at "vl call" | walk_at "vl more")
local macro_rules | `(tactic| walk_at "vl") => `(tactic| (repeat (first | with_reducible apply st_seq | walk_at "vl step")))
local macro_rules | `(tactic| walk_at "vl1") => `(tactic| (repeat (walk_at "vl step")))
local macro_rules | `(tactic| walk_at "vl fin") => `(tactic| first | omega | assumption | exact cdw (by omega) (by omega) | exact .inl (.inr ⟨by omega, by omega⟩) | exact .inl (.inl ⟨by omega, by omega⟩) | decide)
/-! ### frames -/
abbrev frT (b : Int) (ps ws : List Int) : Tr := .tup [.int b, .lst (ps.map .int), .lst (ws.map .int)]
structure OkF (b : Int) (ps ws : List Int) : Prop where
  b1 : 2 ≤ b
  b2 : b ≤ 16
  p1 : 2 ≤ ps.length
  p2 : ps.length ≤ 4
  p3 : ∀ p ∈ ps, 1 ≤ p ∧ p ≤ 6
  w1 : (ws.length : Int) = ps.sum
  w2 : ∀ w ∈ ws, -9 ≤ w ∧ w ≤ 9
theorem sum_bounds {lo hi : Int} : ∀ {ps : List Int}, (∀ p ∈ ps, lo ≤ p ∧ p ≤ hi) → lo * ps.length ≤ ps.sum ∧ ps.sum ≤ hi * ps.length
  | [], _ => by simp
  | p :: ps, h => by
    have h1 := h p List.mem_cons_self
    have h2 := sum_bounds (ps := ps) fun q hq => h q (List.mem_cons_of_mem _ hq)
    rw [List.sum_cons, List.length_cons]
    have e1 : lo * ((ps.length + 1 : Nat) : Int) = lo * ps.length + lo := by push_cast; rw [Int.mul_add, Int.mul_one]
    have e2 : hi * ((ps.length + 1 : Nat) : Int) = hi * ps.length + hi := by push_cast; rw [Int.mul_add, Int.mul_one]
    rw [e1, e2]
    omega
theorem OkF.sum {b : Int} {ps ws : List Int} (h : OkF b ps ws) : 2 ≤ ps.sum ∧ ps.sum ≤ 24 := by
  have q := sum_bounds h.p3
  have := h.p1
  have := h.p2
  omega
theorem cmr {i j : Int} (h1 : -(2 ^ 64) < j) (h2 : j < 2 ^ 64) : CM i j := .inl (.inr ⟨h1, h2⟩)
theorem cml {i j : Int} (h1 : -(2 ^ 64) < i) (h2 : i < 2 ^ 64) : CM i j := .inl (.inl ⟨h1, h2⟩)
theorem mem_at {α : Type} {xs : List α} {i : Nat} {t : α} (h : xs[i]? = some t) : t ∈ xs := by
  obtain ⟨hl, e⟩ := List.getElem?_eq_some_iff.mp h
  rw [← e]; exact List.getElem_mem hl
theorem int_at {xs : List Int} {i : Nat} {t : Tr} (h : (xs.map Tr.int)[i]? = some t) : ∃ n, t = .int n ∧ xs[i]? = some n := by
  rw [List.getElem?_map] at h
  cases e : xs[i]? with
  | none => rw [e] at h; cases h
  | some n => rw [e] at h; cases h; exact ⟨n, rfl, rfl⟩
/-- a body's reading meets its promise -/
abbrev Meets (n : Nat) (N : List Str) (S : VSp) (u : VS) (nst : Nat) : Prop := ∀ (ds : List Dv) (k : Tr → Prop) (x : VL.XK), ds.length = n → S ds k x → u (fun _ _ => k .non) (fun d _ => ∃ y, d = .t y ∧ k y) (fun _ _ => False) (fun _ _ => False) (fun _ _ => False) (startG N ds) (blank nst)
/-! a store: a resource -/
def StoreIs (H : Hp) (hd : Nat → Addr) (B : Addr → Prop) : Prop := ∃ g c t : Int, H (hd 0) = some (.lst [.int g, .int c, .int t]) ∧ ∀ a, B a ↔ a = hd 0
def StoreZ : Rsc := ⟨StoreIs, fun H H' hd B e ⟨g, c, t, h1, h2⟩ => ⟨g, c, t, by rw [e _ ((h2 _).mpr rfl)]; exact h1, h2⟩, fun H hd B ⟨g, c, t, h1, h2⟩ a ha => by
    rw [(h2 a).mp ha, h1]; simp, 0⟩
/-- any number below many -/
def S_law_take : VSp := fun ds k _ => ∃ many : Int, ds = [.hnd 0, .t (.int many)] ∧ 0 < many ∧ many < 2 ^ 64 ∧ ∀ i : Int, 0 ≤ i → i < many → k (.int i)
theorem S_law_take.len : ∀ ds k x, S_law_take ds k x → ds.length = 2 := fun ds k x ⟨_, e, _⟩ => by rw [e]; rfl
def A_law_store : List Dv → Prop := fun ds => ∃ c : Int, ds = [.t (.int c)]
theorem A_law_store.only : ∀ ds, A_law_store ds → onlyT ds = true := fun ds ⟨ns, e⟩ => by rw [e]; rfl
theorem take_step {K : PySem.W.Frag} {mg : Str → Option Value} {P : Pm} {R H H' : Hp} (r : Rel K mg StoreZ P R [] [] [] [] H) (h : ∀ a, ¬ P.B a → H' a = H a) (z : StoreIs H' P.hd P.B) : Rel K mg StoreZ P R [] [] [] [] H' :=
  r.step ⟨Same.refl _, fun a o n e => by rw [h a n]; exact e, fun a e => .inl e, fun a e => by
    by_cases hb : P.B a
    · exact StoreZ.dm H' P.hd P.B z a hb
    · rw [h a hb]; exact e⟩ (fun a o e => by
    have hb : ¬ P.B a := fun b => by rw [r.rb a b] at e; cases e
    rw [h a hb]; exact r.ex a o e) z
theorem i_take {many : Int} {k : Tr → Prop} {x : VL.XK} (q : ∀ i : Int, 0 ≤ i → i < many → k (.int i)) (h1 : 0 < many) (h2 : many < 2 ^ 64) : S_law_take [.hnd 0, .t (.int many)] k x := ⟨many, rfl, h1, h2, q⟩
local macro_rules | `(tactic| walk_at "vl call") => `(tactic| ((with_reducible apply i_take); intro _ _ _))
def S_is_whole : VSp := fun ds k _ => ∃ i : Int, ds = [.t (.int i)] ∧ k (.bl true)
theorem S_is_whole.len : ∀ ds k x, S_is_whole ds k x → ds.length = 1 := fun ds k x ⟨_, e, _⟩ => by rw [e]; rfl
theorem i_is_whole {i : Int} {k : Tr → Prop} {x : VL.XK} (q : k (.bl true)) : S_is_whole [.t (.int i)] k x := ⟨i, rfl, q⟩
local macro_rules | `(tactic| walk_at "vl call") => `(tactic| with_reducible apply i_is_whole)
def u_is_whole : VS :=
  (vRet (vAnd (vCB (fIsi "int") (vaCons (vVar 0) (vaCons (vC (.ty "int")) vaNil))) (vNot (vCB (fIsi "bool") (vaCons (vVar 0) (vaCons (vC (.ty "bool")) vaNil))))))

theorem w_is_whole : Meets 1 N_is_whole S_is_whole u_is_whole 0 := by
  rintro ds k x hl ⟨i, rfl, hk⟩
  unfold u_is_whole
  walk_at "vl"
  exact hk
def S_is_weight : VSp := fun ds k _ => ∃ i : Int, ds = [.t (.int i)] ∧ -9 ≤ i ∧ i ≤ 9 ∧ k (.bl true)
theorem S_is_weight.len : ∀ ds k x, S_is_weight ds k x → ds.length = 1 := fun ds k x ⟨_, e, _⟩ => by rw [e]; rfl
theorem i_is_weight {i : Int} {k : Tr → Prop} {x : VL.XK} (q : k (.bl true)) (h1 : -9 ≤ i) (h2 : i ≤ 9) : S_is_weight [.t (.int i)] k x := ⟨i, rfl, h1, h2, q⟩
local macro_rules | `(tactic| walk_at "vl call") => `(tactic| with_reducible apply i_is_weight)
def u_is_weight : VS :=
  (vRet (vAnd (vCall S_is_whole (vaCons (vVar 0) vaNil)) (vOp fLe (vCB fAbs (vaCons (vVar 0) vaNil)) (vC (.int 9)))))

theorem w_is_weight : Meets 1 N_is_weight S_is_weight u_is_weight 0 := by
  rintro ds k x hl ⟨i, rfl, h1, h2, hk⟩
  unfold u_is_weight
  walk_at "vl"
  have e : decide ((if i < 0 then -i else i) ≤ 9) = true := decide_eq_true (by split <;> omega)
  rw [e]; exact hk
def S_are_parts : VSp := fun ds k _ => ∃ ps : List Int, ds = [.t (.lst (ps.map .int))] ∧ 2 ≤ ps.length ∧ ps.length ≤ 4 ∧ (∀ p ∈ ps, 1 ≤ p ∧ p ≤ 6) ∧ k (.bl true)
theorem S_are_parts.len : ∀ ds k x, S_are_parts ds k x → ds.length = 1 := fun ds k x ⟨_, e, _⟩ => by rw [e]; rfl
theorem i_are_parts {ps : List Int} {k : Tr → Prop} {x : VL.XK} (q : k (.bl true)) (h1 : 2 ≤ ps.length) (h2 : ps.length ≤ 4) (h3 : ∀ p ∈ ps, 1 ≤ p ∧ p ≤ 6) : S_are_parts [.t (.lst (ps.map .int))] k x := ⟨ps, rfl, h1, h2, h3, q⟩
local macro_rules | `(tactic| walk_at "vl call") => `(tactic| with_reducible apply i_are_parts)
def u_are_parts : VS :=
  (vSeq (vIfS (vtOr (vtNot (vtB (vCB (fIsi "list") (vaCons (vVar 0) (vaCons (vC (.ty "list")) vaNil))))) (vtNot (vtB (vCh fLe fLe (vC (.int 2)) (vCB fLen (vaCons (vVar 0) vaNil)) (vC (.int 4))))))
  (vRet (vC (.bl false)))
  vNext)
  (vSeq (vRet (vOp fEqD (vLc (viL (vVar 0)) (vgName 1) (vtOr (vtNot (vtB (vCall S_is_whole (vaCons (vVar 1) vaNil)))) (vtNot (vtB (vCh fLe fLe (vC (.int 1)) (vVar 1) (vC (.int 6)))))) (vVar 1) [1]) (vLst vaNil))) vNext))

theorem w_are_parts : Meets 1 N_are_parts S_are_parts u_are_parts 0 := by
  rintro ds k x hl ⟨ps, rfl, h1, h2, h3, hk⟩
  unfold u_are_parts
  have hm : (ps.map Tr.int).length = ps.length := List.length_map ..
  walk_at "vl"
  refine lc_none (fun i t e I hI => ?_) ?_
  · obtain ⟨p, rfl, hp⟩ := int_at e
    obtain ⟨q1, q2⟩ := h3 p (mem_at hp)
    walk_at "vl"
    exact hI
  · walk_at "vl"
    exact hk
def S_is_frame : VSp := fun ds k _ => ∃ (b : Int) (ps ws : List Int), ds = [.t (frT b ps ws)] ∧ OkF b ps ws ∧ k (.bl true)
theorem S_is_frame.len : ∀ ds k x, S_is_frame ds k x → ds.length = 1 := fun ds k x ⟨_, _, _, e, _⟩ => by rw [e]; rfl
theorem i_is_frame {b : Int} {ps ws : List Int} {k : Tr → Prop} {x : VL.XK} (q : k (.bl true)) (h : OkF b ps ws) : S_is_frame [.t (frT b ps ws)] k x := ⟨b, ps, ws, rfl, h, q⟩
local macro_rules | `(tactic| walk_at "vl call") => `(tactic| with_reducible apply i_is_frame)
def u_is_frame : VS :=
  (vSeq (vIfS (vtOr (vtNot (vtB (vCB (fIsi "tuple") (vaCons (vVar 0) (vaCons (vC (.ty "tuple")) vaNil))))) (vtB (vOp fNeD (vCB fLen (vaCons (vVar 0) vaNil)) (vC (.int 3)))))
  (vRet (vC (.bl false)))
  vNext)
  (vSeq (vAsg (vVar 0) (vgTup 3 (vgCons (vgName 1) (vgCons (vgName 2) (vgCons (vgName 3) vgNil)))))
  (vSeq (vIfS (vtOr (vtNot (vtB (vCall S_is_whole (vaCons (vVar 1) vaNil)))) (vtOr (vtNot (vtB (vCh fLe fLe (vC (.int 2)) (vVar 1) (vC (.int 16))))) (vtNot (vtB (vCall S_are_parts (vaCons (vVar 2) vaNil))))))
  (vRet (vC (.bl false)))
  vNext)
  (vSeq (vIfS (vtOr (vtNot (vtB (vCB (fIsi "list") (vaCons (vVar 3) (vaCons (vC (.ty "list")) vaNil))))) (vtB (vOp fNeD (vCB fLen (vaCons (vVar 3) vaNil)) (vCB fSum (vaCons (vVar 2) vaNil)))))
  (vRet (vC (.bl false)))
  vNext)
  (vSeq (vRet (vOp fEqD (vLc (viL (vVar 3)) (vgName 4) (vtNot (vtB (vCall S_is_weight (vaCons (vVar 4) vaNil)))) (vVar 4) [4]) (vLst vaNil))) vNext)))))

theorem w_is_frame : Meets 1 N_is_frame S_is_frame u_is_frame 0 := by
  rintro ds k x hl ⟨b, ps, ws, rfl, h, hk⟩
  have h1 := h.b1
  have h2 := h.b2
  have hw := h.w1
  unfold u_is_frame
  have hm : (ws.map Tr.int).length = ws.length := List.length_map ..
  walk_at "vl"
  · refine lc_none (fun i t e I hI => ?_) ?_
    · obtain ⟨p, rfl, hp⟩ := int_at e
      obtain ⟨q1, q2⟩ := h.w2 p (mem_at hp)
      walk_at "vl"
      · exact hI
      · exact q1
      · exact q2
    · walk_at "vl"
      exact hk
  · exact h.p1
  · exact h.p2
  · exact h.p3
/-! ### numbers -/
def L (ps : List Int) : Nat := ps.sum.toNat
def S_many_of : VSp := fun ds k _ => ∃ (b : Int) (ps ws : List Int), ds = [.t (frT b ps ws)] ∧ OkF b ps ws ∧ k (.int (b ^ L ps))
theorem S_many_of.len : ∀ ds k x, S_many_of ds k x → ds.length = 1 := fun ds k x ⟨_, _, _, e, _⟩ => by rw [e]; rfl
theorem i_many_of {b : Int} {ps ws : List Int} {k : Tr → Prop} {x : VL.XK} (q : k (.int (b ^ L ps))) (h : OkF b ps ws) : S_many_of [.t (frT b ps ws)] k x := ⟨b, ps, ws, rfl, h, q⟩
local macro_rules | `(tactic| walk_at "vl call") => `(tactic| with_reducible apply i_many_of)
def u_many_of : VS :=
  (vSeq (vSet 1 (vC (.int 1)))
  (vSeq (vFor (viR1 (vCB fSum (vaCons (vOp fIdx (vVar 0) (vC (.int 1))) vaNil))) (vgName 2)
  (vSet 1 (vOp fMul (vVar 1) (vOp fIdx (vVar 0) (vC (.int 0))))))
  (vRet (vVar 1))))

theorem w_many_of : Meets 1 N_many_of S_many_of u_many_of 0 := by
  rintro ds k x hl ⟨b, ps, ws, rfl, h, hk⟩
  obtain ⟨s1, s2⟩ := h.sum
  have h1 := h.b1
  have h2 := h.b2
  unfold u_many_of
  walk_at "vl"
  · refine fr_inv (fun i G m => ∃ o, G = [some (.t (frT b ps ws)), some (.t (.int (b ^ i))), o] ∧ m = []) ⟨none, by first | (rw [Int.pow_zero]; rfl) | rw [Int.pow_zero], rfl⟩ ?_ ?_
    · rintro i t G' m' e ⟨o, rfl, rfl⟩
      obtain ⟨hi, rfl⟩ := rng_get e
      walk_at "vl"
      · exact ⟨_, by rw [Int.pow_succ]; rfl, rfl⟩
      · exact cmr (by omega) (by omega)
    · rintro G' m' ⟨o, rfl, rfl⟩
      rw [rng_len]
      walk_at "vl"
      exact hk
  all_goals omega
def S_is_number : VSp := fun ds k _ => ∃ (b : Int) (ps ws : List Int) (n : Int), ds = [.t (frT b ps ws), .t (.int n)] ∧ OkF b ps ws ∧ k (.bl (decide (0 ≤ n ∧ n < b ^ L ps)))
theorem S_is_number.len : ∀ ds k x, S_is_number ds k x → ds.length = 2 := fun ds k x ⟨_, _, _, _, e, _⟩ => by rw [e]; rfl
theorem i_is_number {b n : Int} {ps ws : List Int} {k : Tr → Prop} {x : VL.XK} (q : k (.bl (decide (0 ≤ n ∧ n < b ^ L ps)))) (h : OkF b ps ws) : S_is_number [.t (frT b ps ws), .t (.int n)] k x := ⟨b, ps, ws, n, rfl, h, q⟩
local macro_rules | `(tactic| walk_at "vl call") => `(tactic| with_reducible apply i_is_number)
def u_is_number : VS :=
  (vRet (vAnd (vCall S_is_whole (vaCons (vVar 1) vaNil)) (vCh fLe fLt (vC (.int 0)) (vVar 1) (vCall S_many_of (vaCons (vVar 0) vaNil)))))

theorem w_is_number : Meets 2 N_is_number S_is_number u_is_number 0 := by
  rintro ds k x hl ⟨b, ps, ws, n, rfl, h, hk⟩
  unfold u_is_number
  walk_at "vl"
  · refine br_d (fun c => ?_) (fun c => ?_)
    · walk_at "vl"
      · have e : decide (n < b ^ L ps) = decide (0 ≤ n ∧ n < b ^ L ps) := by simp [c]
        rw [e]; exact hk
      · exact h
    · walk_at "vl"
      have e : false = decide (0 ≤ n ∧ n < b ^ L ps) := by simp [c]
      rw [e]; exact hk
/-- the figures of n, the least first -/
def dg (b : Int) (L : Nat) (n : Int) : List Int := (List.range L).map fun j => n / b ^ j % b
theorem dg_succ (b : Int) (L : Nat) (n : Int) : dg b (L + 1) n = dg b L n ++ [n / b ^ L % b] := by
  unfold dg
  rw [List.range_succ, List.map_append]; rfl
theorem dg_len (b : Int) (L : Nat) (n : Int) : (dg b L n).length = L := by unfold dg; rw [List.length_map, List.length_range]
theorem pow_pos' {b : Int} (h : 2 ≤ b) (n : Nat) : 0 < b ^ n := Int.pow_pos (by omega)
theorem div_pow_succ {b n : Int} (h : 2 ≤ b) (i : Nat) : n / b ^ i / b = n / b ^ (i + 1) := by
  rw [Int.pow_succ, Int.ediv_ediv_of_nonneg (Int.le_of_lt (pow_pos' h i))]
def S_written : VSp := fun ds k _ => ∃ (b : Int) (ps ws : List Int) (n : Int), ds = [.t (frT b ps ws), .t (.int n)] ∧ OkF b ps ws ∧ k (.lst ((dg b (L ps) n).map .int).reverse)
theorem S_written.len : ∀ ds k x, S_written ds k x → ds.length = 2 := fun ds k x ⟨_, _, _, _, e, _⟩ => by rw [e]; rfl
theorem i_written {b n : Int} {ps ws : List Int} {k : Tr → Prop} {x : VL.XK} (q : k (.lst ((dg b (L ps) n).map .int).reverse)) (h : OkF b ps ws) : S_written [.t (frT b ps ws), .t (.int n)] k x := ⟨b, ps, ws, n, rfl, h, q⟩
local macro_rules | `(tactic| walk_at "vl call") => `(tactic| with_reducible apply i_written)
def u_written : VS :=
  (vSeq (vNewL 2 0 vaNil)
  (vSeq (vFor (viR1 (vCB fSum (vaCons (vOp fIdx (vVar 0) (vC (.int 1))) vaNil))) (vgName 3)
  (vSeq (vApp (vVar 2) (vOp fMod (vVar 1) (vOp fIdx (vVar 0) (vC (.int 0)))))
  (vSet 1 (vOp fDiv (vVar 1) (vOp fIdx (vVar 0) (vC (.int 0)))))))
  (vRet (vRev (vVar 2)))))

theorem w_written : Meets 2 N_written S_written u_written 1 := by
  rintro ds k x hl ⟨b, ps, ws, n, rfl, h, hk⟩
  obtain ⟨s1, s2⟩ := h.sum
  have h1 := h.b1
  have h2 := h.b2
  unfold u_written
  walk_at "vl"
  · refine fr_inv (fun i G m => ∃ o, G = [some (.t (frT b ps ws)), some (.t (.int (n / b ^ i))), some (.loc 0), o] ∧ m = [some (.lst ((dg b i n).map .int))]) ⟨none, by first | (rw [Int.pow_zero, Int.ediv_one]; rfl) | rw [Int.pow_zero, Int.ediv_one], rfl⟩ ?_ ?_
    · rintro i t G' m' e ⟨o, rfl, rfl⟩
      obtain ⟨hi, rfl⟩ := rng_get e
      walk_at "vl"
      refine an_lt (by rw [List.length_map, dg_len, sizeLine_eq]; omega) ?_
      walk_at "vl"
      refine ⟨_, by rw [← div_pow_succ h1]; rfl, by rw [dg_succ, List.map_append]; rfl⟩
      all_goals walk_at "vl fin"
    · rintro G' m' ⟨o, rfl, rfl⟩
      rw [rng_len]
      walk_at "vl"
      exact hk
  all_goals omega
def hor (b : Int) (ds : List Int) : Int := ds.foldl (fun a d => a * b + d) 0
theorem hor_snoc (b : Int) (ds : List Int) (d : Int) : hor b (ds ++ [d]) = hor b ds * b + d := by unfold hor; rw [List.foldl_append]; rfl
theorem take_snoc {α : Type} {xs : List α} {i : Nat} {t : α} (h : xs[i]? = some t) : xs.take (i + 1) = xs.take i ++ [t] := by
  rw [List.take_succ, h]; rfl
-- CUT
/-- a row in parts -/
def segs : List Int → List Int → List (List Int)
  | [], _ => []
  | p :: ps, row => row.take p.toNat :: segs ps (row.drop p.toNat)
def LL (xs : List (List Int)) : List Tr := xs.map fun l => .lst (l.map .int)
theorem LL_len (xs : List (List Int)) : (LL xs).length = xs.length := List.length_map ..
theorem segs_len : ∀ ps row, (segs ps row).length = ps.length
  | [], _ => rfl
  | p :: ps, row => by rw [segs, List.length_cons, segs_len ps, List.length_cons]
theorem sum_nonneg : ∀ {ps : List Int}, (∀ p ∈ ps, 0 ≤ p) → 0 ≤ ps.sum
  | [], _ => by simp
  | p :: ps, h => by
    have h1 := h p List.mem_cons_self
    have h2 := sum_nonneg (ps := ps) fun q hq => h q (List.mem_cons_of_mem _ hq)
    rw [List.sum_cons]; omega
theorem segs_get : ∀ {ps row : List Int} {i : Nat} {p : Int}, (∀ q ∈ ps, 0 ≤ q) → ps[i]? = some p → (segs ps row)[i]? = some ((row.drop (ps.take i).sum.toNat).take p.toNat)
  | [], _, _, _, _, h => by simp at h
  | q :: ps, row, 0, p, _, h => by
    have h : q = p := by simpa using h
    subst h
    simp [segs]
  | q :: ps, row, i + 1, p, hp, h => by
    have h : ps[i]? = some p := by simpa using h
    have h0 := hp q List.mem_cons_self
    have hn : 0 ≤ (ps.take i).sum := sum_nonneg fun z hz => hp z (List.mem_cons_of_mem _ (List.mem_of_mem_take hz))
    rw [segs, List.getElem?_cons_succ, segs_get (fun z hz => hp z (List.mem_cons_of_mem _ hz)) h, List.take_succ_cons, List.sum_cons, List.drop_drop]
    congr 2
    congr 1
    omega
theorem cut_nat {α : Type} (xs : List α) {a s : Int} (ha : 0 ≤ a) (hs : 0 ≤ s) : cutG xs (some a) (some (a + s)) = (xs.drop a.toNat).take s.toNat := by
  obtain ⟨i, rfl⟩ := Int.eq_ofNat_of_zero_le ha
  obtain ⟨j, rfl⟩ := Int.eq_ofNat_of_zero_le hs
  unfold cutG
  have e : (i : Int) + (j : Int) = ((i + j : Nat) : Int) := by omega
  rw [e, HT.sIx_nat, HT.sIx_nat, Int.toNat_natCast, Int.toNat_natCast]
  by_cases h : i < xs.length
  · rw [Nat.min_eq_left (Nat.le_of_lt h)]
    by_cases h2 : i + j ≤ xs.length
    · rw [Nat.min_eq_left h2]
      congr 1; omega
    · rw [Nat.min_eq_right (by omega), List.take_of_length_le (by rw [List.length_drop]; omega), List.take_of_length_le (by rw [List.length_drop]; omega)]
  · have e1 : min i xs.length = xs.length := Nat.min_eq_right (by omega)
    rw [e1, List.drop_eq_nil_of_le (Nat.le_refl _), List.drop_eq_nil_of_le (by omega), List.take_nil, List.take_nil]
theorem sum_take {ps : List Int} {i : Nat} {p : Int} (h : ps[i]? = some p) : (ps.take (i + 1)).sum = (ps.take i).sum + p := by
  rw [List.take_succ, h]; simp
def S_cut : VSp := fun ds k _ => ∃ ps row : List Int, ds = [.t (.lst (ps.map .int)), .t (.lst (row.map .int))] ∧ (∀ p ∈ ps, 0 ≤ p) ∧ ps.length ≤ 1000 ∧ k (.lst (LL (segs ps row)))
theorem S_cut.len : ∀ ds k x, S_cut ds k x → ds.length = 2 := fun ds k x ⟨_, _, e, _⟩ => by rw [e]; rfl
theorem i_cut {ps row : List Int} {k : Tr → Prop} {x : VL.XK} (q : k (.lst (LL (segs ps row)))) (h1 : ∀ p ∈ ps, 0 ≤ p) (h2 : ps.length ≤ 1000) : S_cut [.t (.lst (ps.map .int)), .t (.lst (row.map .int))] k x := ⟨ps, row, rfl, h1, h2, q⟩
local macro_rules | `(tactic| walk_at "vl call") => `(tactic| with_reducible apply i_cut)
def u_cut : VS :=
  (vSeq (vNewL 2 0 vaNil)
  (vSeq (vSet 3 (vC (.int 0)))
  (vSeq (vFor (viL (vVar 0)) (vgName 4)
  (vSeq (vApp (vVar 2) (vSl fSlc (vVar 1) (voS (vVar 3)) (voS (vOp fAdd (vVar 3) (vVar 4)))))
  (vAug 3 (fI0 fun i j => .int (i + j)) (vVar 4))))
  (vFrz 0 (vRet (vVar 2))))))

theorem w_cut : Meets 2 N_cut S_cut u_cut 1 := by
  rintro ds k x hl ⟨ps, row, rfl, h1, h2, hk⟩
  unfold u_cut
  walk_at "vl"
  refine fr_inv (fun i G m => ∃ o, G = [some (.t (.lst (ps.map .int))), some (.t (.lst (row.map .int))), some (.loc 0), some (.t (.int (ps.take i).sum)), o] ∧ m = [some (.lst (LL ((segs ps row).take i)))]) ⟨none, rfl, rfl⟩ ?_ ?_
  · rintro i t G' m' e ⟨o, rfl, rfl⟩
    obtain ⟨p, rfl, hp⟩ := int_at e
    have hi : i < ps.length := (List.getElem?_eq_some_iff.mp hp).1
    have hp0 := h1 p (mem_at hp)
    have hs : 0 ≤ (ps.take i).sum := sum_nonneg fun z hz => h1 z (List.mem_of_mem_take hz)
    walk_at "vl"
    refine an_lt (by rw [LL_len, List.length_take, segs_len, sizeLine_eq]; omega) ?_
    walk_at "vl"
    refine ⟨_, by rw [sum_take hp]; rfl, ?_⟩
    rw [cut_nat _ hs hp0, take_snoc (segs_get h1 hp)]
    unfold LL
    rw [List.map_append]
    rfl
  · rintro G' m' ⟨o, rfl, rfl⟩
    have e1 : (segs ps row).take ps.length = segs ps row := List.take_of_length_le (by rw [segs_len]; exact Nat.le_refl _)
    rw [List.length_map, e1]
    walk_at "vl"
    exact hk
theorem OkF.p0 {b : Int} {ps ws : List Int} (h : OkF b ps ws) : ∀ p ∈ ps, 0 ≤ p := fun p hp => by have := (h.p3 p hp).1; omega
def figs (b : Int) (ps : List Int) (n : Int) : List Int := (dg b (L ps) n).reverse
def dot (fs ws : List Int) : Int := (List.zipWith (fun a b => a * b) fs ws).sum
def smsOf (ps fs ws : List Int) : List Int := List.zipWith dot (segs ps fs) (segs ps ws)
def sms (b : Int) (ps ws : List Int) (n : Int) : List Int := smsOf ps (figs b ps n) ws
theorem sms_len (b : Int) (ps ws : List Int) (n : Int) : (sms b ps ws n).length = ps.length := by unfold sms smsOf; rw [List.length_zipWith, segs_len, segs_len, Nat.min_self]
theorem segs_mem : ∀ {ps row : List Int} {l : List Int}, l ∈ segs ps row → ∀ z ∈ l, z ∈ row
  | [], _, _, h => by cases h
  | p :: ps, row, l, h => fun z hz => by
    rw [segs] at h
    rcases List.mem_cons.mp h with rfl | h
    · exact List.mem_of_mem_take hz
    · exact List.mem_of_mem_drop (segs_mem h z hz)
def mulT : Tr → Tr
  | .tup [.int a, .int b] => .int (a * b)
  | _ => .non
theorem zip_mul : ∀ fs ws : List Int, (zipT (fs.map .int) (ws.map .int)).map mulT = (List.zipWith (fun a b => a * b) fs ws).map .int
  | [], ws => by simp [zipT]
  | f :: fs, [] => by simp [zipT]
  | f :: fs, w :: ws => by
    have := zip_mul fs ws
    unfold zipT at this ⊢
    rw [List.map_cons, List.map_cons, List.zipWith_cons_cons, List.map_cons, this, List.zipWith_cons_cons, List.map_cons]; rfl
theorem zip_at {xs ys : List Tr} {i : Nat} {t : Tr} (h : (zipT xs ys)[i]? = some t) : ∃ x y, t = .tup [x, y] ∧ xs[i]? = some x ∧ ys[i]? = some y := by
  unfold zipT at h
  rw [List.getElem?_zipWith] at h
  cases e1 : xs[i]? with
  | none => rw [e1] at h; cases h
  | some x =>
    cases e2 : ys[i]? with
    | none => rw [e1, e2] at h; cases h
    | some y => rw [e1, e2] at h; cases h; exact ⟨x, y, rfl, rfl, rfl⟩
theorem LL_at {xs : List (List Int)} {i : Nat} {t : Tr} (h : (LL xs)[i]? = some t) : ∃ l, t = .lst (l.map .int) ∧ xs[i]? = some l := by
  unfold LL at h
  rw [List.getElem?_map] at h
  cases e : xs[i]? with
  | none => rw [e] at h; cases h
  | some l => rw [e] at h; cases h; exact ⟨l, rfl, rfl⟩
theorem zip_len (xs ys : List Tr) : (zipT xs ys).length = min xs.length ys.length := by unfold zipT; rw [List.length_zipWith]
def S_sums_of : VSp := fun ds k _ => ∃ (b : Int) (ps ws : List Int) (n : Int), ds = [.t (frT b ps ws), .t (.int n)] ∧ OkF b ps ws ∧ k (.lst ((sms b ps ws n).map .int))
theorem S_sums_of.len : ∀ ds k x, S_sums_of ds k x → ds.length = 2 := fun ds k x ⟨_, _, _, _, e, _⟩ => by rw [e]; rfl
theorem i_sums_of {b n : Int} {ps ws : List Int} {k : Tr → Prop} {x : VL.XK} (q : k (.lst ((sms b ps ws n).map .int))) (h : OkF b ps ws) : S_sums_of [.t (frT b ps ws), .t (.int n)] k x := ⟨b, ps, ws, n, rfl, h, q⟩
local macro_rules | `(tactic| walk_at "vl call") => `(tactic| with_reducible apply i_sums_of)
theorem i_cutF {b n : Int} {ps ws : List Int} {k : Tr → Prop} {x : VL.XK} (q : k (.lst (LL (segs ps (figs b ps n))))) (h : OkF b ps ws) : S_cut [.t (.lst (ps.map .int)), .t (.lst ((dg b (L ps) n).map .int).reverse)] k x :=
  ⟨ps, figs b ps n, by unfold figs; rw [List.map_reverse], h.p0, by have := h.p2; omega, q⟩
def u_sums_of : VS :=
  (vSeq (vNewL 2 0 vaNil)
  (vSeq (vFor (viZip (vCall S_cut (vaCons (vOp fIdx (vVar 0) (vC (.int 1))) (vaCons (vCall S_written (vaCons (vVar 0) (vaCons (vVar 1) vaNil))) vaNil))) (vCall S_cut (vaCons (vOp fIdx (vVar 0) (vC (.int 1))) (vaCons (vOp fIdx (vVar 0) (vC (.int 2))) vaNil)))) (vgTup 2 (vgCons (vgName 3) (vgCons (vgName 4) vgNil)))
  (vApp (vVar 2) (vCB fSum (vaCons (vLc (viZip (vVar 3) (vVar 4)) (vgTup 2 (vgCons (vgName 5) (vgCons (vgName 6) vgNil))) vtYes (vOp fMul (vVar 5) (vVar 6)) [5, 6]) vaNil))))
  (vFrz 0 (vRet (vVar 2)))))

theorem w_sums_of : Meets 2 N_sums_of S_sums_of u_sums_of 1 := by
  rintro ds k x hl ⟨b, ps, ws, n, rfl, h, hk⟩
  have hp2 := h.p2
  have hp0 := h.p0
  unfold u_sums_of
  walk_at "vl"
  · refine i_cutF (b := b) (ws := ws) ?_ h
    walk_at "vl"
    · refine fr_inv (fun i G m => ∃ o3 o4 o5 o6 : Option Dv, G = [some (.t (frT b ps ws)), some (.t (.int n)), some (.loc 0), o3, o4, o5, o6] ∧ m = [some (.lst (((sms b ps ws n).take i).map .int))]) ⟨none, none, none, none, rfl, rfl⟩ ?_ ?_
      · rintro i t G' m' e ⟨o3, o4, o5, o6, rfl, rfl⟩
        obtain ⟨x1, y1, rfl, ex, ey⟩ := zip_at e
        obtain ⟨fs, rfl, hf⟩ := LL_at ex
        obtain ⟨vs, rfl, hv⟩ := LL_at ey
        have hi : i < ps.length := by have := (List.getElem?_eq_some_iff.mp hf).1; rwa [segs_len] at this
        have hsm : (sms b ps ws n)[i]? = some (dot fs vs) := by
          unfold sms smsOf
          rw [List.getElem?_zipWith, hf, hv]
        walk_at "vl"
        refine lc_mapB mulT ?_ (fun j t acc e hz I hI => ?_) ?_
        · rw [zip_len, List.length_map, List.length_map]
          have hvl : vs.length ≤ ws.length := by
            have e1 := segs_get (row := ws) hp0 (List.getElem?_eq_getElem hi)
            rw [hv] at e1
            cases e1
            rw [List.length_take, List.length_drop]; omega
          have hw1 := h.w1
          have hs := h.sum
          rw [sizeLine_eq]; omega
        · obtain ⟨x2, y2, rfl, ex2, ey2⟩ := zip_at e
          obtain ⟨f, rfl, hf2⟩ := int_at ex2
          obtain ⟨v, rfl, hv2⟩ := int_at ey2
          have hw := h.w2 v (segs_mem (mem_at hv) v (mem_at hv2))
          walk_at "vl"
          · exact ⟨hz, hI⟩
          all_goals walk_at "vl fin"
        · rw [zip_mul]
          walk_at "vl"
          refine an_lt (by rw [List.length_map, List.length_take, sms_len, sizeLine_eq]; omega) ?_
          walk_at "vl"
          refine ⟨_, _, _, _, rfl, ?_⟩
          rw [take_snoc hsm, List.map_append]
          rfl
      · rintro G' m' ⟨o3, o4, o5, o6, rfl, rfl⟩
        have e1 : (sms b ps ws n).take ps.length = sms b ps ws n := List.take_of_length_le (by rw [sms_len]; exact Nat.le_refl _)
        rw [zip_len, LL_len, LL_len, segs_len, segs_len, Nat.min_self, e1]
        walk_at "vl"
        exact hk
    · exact hp0
    · omega
  · exact h
theorem OkF.len {b : Int} {ps ws : List Int} (h : OkF b ps ws) (n : Int) : 0 < (sms b ps ws n).length := by rw [sms_len]; have := h.p1; omega
-- CUT
/-! frames together -/
abbrev Fr := Int × List Int × List Int
def frU (f : Fr) : Tr := frT f.1 f.2.1 f.2.2
def frs (fl : List Fr) : Tr := .lst (fl.map frU)
def OkU (f : Fr) : Prop := OkF f.1 f.2.1 f.2.2
structure OkFs (fl : List Fr) : Prop where
  l1 : 1 ≤ fl.length
  l2 : fl.length ≤ 3
  ok : ∀ f ∈ fl, OkU f
theorem fr_at {fl : List Fr} {i : Nat} {t : Tr} (h : (fl.map frU)[i]? = some t) : ∃ b ps ws, t = frT b ps ws ∧ fl[i]? = some (b, ps, ws) := by
  rw [List.getElem?_map] at h
  cases e : fl[i]? with
  | none => rw [e] at h; cases h
  | some f => rw [e] at h; cases h; exact ⟨f.1, f.2.1, f.2.2, rfl, rfl⟩
def S_need_frames : VSp := fun ds k _ => ∃ fl : List Fr, ds = [.t (.lst (fl.map frU))] ∧ OkFs fl ∧ k .non
theorem S_need_frames.len : ∀ ds k x, S_need_frames ds k x → ds.length = 1 := fun ds k x ⟨_, e, _⟩ => by rw [e]; rfl
theorem i_need_frames {fl : List Fr} {k : Tr → Prop} {x : VL.XK} (q : k .non) (h : OkFs fl) : S_need_frames [.t (.lst (fl.map frU))] k x := ⟨fl, rfl, h, q⟩
local macro_rules | `(tactic| walk_at "vl call") => `(tactic| with_reducible apply i_need_frames)
def u_need_frames : VS :=
  (vSeq (vIfS (vtOr (vtNot (vtB (vCB (fIsi "list") (vaCons (vVar 0) (vaCons (vC (.ty "list")) vaNil))))) (vtNot (vtB (vCh fLe fLe (vC (.int 1)) (vCB fLen (vaCons (vVar 0) vaNil)) (vC (.int 3))))))
  vNever
  vNext)
  (vSeq (vIfS (vtB (vOp fNeD (vLc (viL (vVar 0)) (vgName 1) (vtNot (vtB (vCall S_is_frame (vaCons (vVar 1) vaNil)))) (vVar 1) [1]) (vLst vaNil)))
  vNever
  vNext) vNext))

theorem w_need_frames : Meets 1 N_need_frames S_need_frames u_need_frames 0 := by
  rintro ds k x hl ⟨fl, rfl, h, hk⟩
  have h1 := h.l1
  have h2 := h.l2
  have hm : (fl.map frU).length = fl.length := List.length_map ..
  unfold u_need_frames
  walk_at "vl"
  refine lc_none (fun i t e I hI => ?_) ?_
  · obtain ⟨b, ps, ws, rfl, e2⟩ := fr_at e
    walk_at "vl"
    · exact hI
    · exact h.ok _ (mem_at e2)
  · walk_at "vl"
    refine sp_neR rfl rfl ?_ (lay_ints (ns := []))
    walk_at "vl"
    exact hk
/-- n keeps the frame -/
def keep1 (f : Fr) (n : Int) : Bool := decide (n < f.1 ^ L f.2.1) && decide (mxI (sms f.1 f.2.1 f.2.2 n) = mnI (sms f.1 f.2.1 f.2.2 n))
def keepAll (fl : List Fr) (n : Int) : Bool := fl.all fun f => keep1 f n
theorem keep_false {fl : List Fr} {n : Int} {f : Fr} (h : f ∈ fl) (e : keep1 f n = false) : keepAll fl n = false := by
  unfold keepAll
  rw [List.all_eq_false]
  exact ⟨f, h, by rw [e]; exact Bool.false_ne_true⟩
theorem keep_true {fl : List Fr} {n : Int} (h : ∀ f ∈ fl, keep1 f n = true) : keepAll fl n = true := by
  unfold keepAll
  rw [List.all_eq_true]
  exact h
def S_keeps : VSp := fun ds k _ => ∃ (fl : List Fr) (n : Int), ds = [.t (.lst (fl.map frU)), .t (.int n)] ∧ (∀ f ∈ fl, OkU f) ∧ 0 ≤ n ∧ k (.bl (keepAll fl n))
theorem S_keeps.len : ∀ ds k x, S_keeps ds k x → ds.length = 2 := fun ds k x ⟨_, _, e, _⟩ => by rw [e]; rfl
theorem i_keeps {fl : List Fr} {n : Int} {k : Tr → Prop} {x : VL.XK} (q : k (.bl (keepAll fl n))) (h : ∀ f ∈ fl, OkU f) (h1 : 0 ≤ n) : S_keeps [.t (.lst (fl.map frU)), .t (.int n)] k x := ⟨fl, n, rfl, h, h1, q⟩
local macro_rules | `(tactic| walk_at "vl call") => `(tactic| with_reducible apply i_keeps)
def u_keeps : VS :=
  (vSeq (vFor (viL (vVar 0)) (vgName 2)
  (vSeq (vIfS (vtNot (vtB (vCall S_is_number (vaCons (vVar 2) (vaCons (vVar 1) vaNil)))))
  (vRet (vC (.bl false)))
  vNext)
  (vSeq (vSet 3 (vCall S_sums_of (vaCons (vVar 2) (vaCons (vVar 1) vaNil))))
  (vIfS (vtB (vOp fNeD (vCB fMax (vaCons (vVar 3) vaNil)) (vCB fMin (vaCons (vVar 3) vaNil))))
  (vRet (vC (.bl false)))
  vNext))))
  (vRet (vC (.bl true))))

theorem w_keeps : Meets 2 N_keeps S_keeps u_keeps 0 := by
  rintro ds k x hl ⟨fl, n, rfl, h, h1, hk⟩
  unfold u_keeps
  walk_at "vl"
  refine fr_inv (fun i G m => (∀ f ∈ fl.take i, keep1 f n = true) ∧ ∃ o2 o3 : Option Dv, G = [some (.t (.lst (fl.map frU))), some (.t (.int n)), o2, o3] ∧ m = []) ⟨fun f hf => by simp at hf, none, none, rfl, rfl⟩ ?_ ?_
  · rintro i t G' m' e ⟨hi, o2, o3, rfl, rfl⟩
    obtain ⟨b, ps, ws, rfl, e2⟩ := fr_at e
    have hok : OkF b ps ws := h _ (mem_at e2)
    have hsl : 0 < (sms b ps ws n).length := hok.len n
    walk_at "vl"
    · by_cases c : n < b ^ L ps
      · have ed : decide (0 ≤ n ∧ n < b ^ L ps) = true := decide_eq_true ⟨h1, c⟩
        rw [ed]
        walk_at "vl"
        · refine br_d (fun c2 => ?_) (fun c2 => ?_)
          · walk_at "vl"
            refine ⟨fun f hf => ?_, _, _, rfl, rfl⟩
            rw [take_snoc e2] at hf
            rcases List.mem_append.mp hf with q | q
            · exact hi f q
            · have : f = (b, ps, ws) := by simpa using q
              subst this
              unfold keep1
              rw [decide_eq_true c, decide_eq_true c2]; rfl
          · walk_at "vl"
            have ek : keepAll fl n = false := keep_false (mem_at e2) (by unfold keep1; show (_ && decide (mxI (sms b ps ws n) = mnI (sms b ps ws n))) = false; rw [decide_eq_false c2, Bool.and_false])
            rw [ek] at hk; exact hk
        all_goals first | exact hok | exact hsl
      · have ed : decide (0 ≤ n ∧ n < b ^ L ps) = false := decide_eq_false fun z => c z.2
        rw [ed]
        walk_at "vl"
        have ek : keepAll fl n = false := keep_false (mem_at e2) (by unfold keep1; rw [decide_eq_false c, Bool.false_and])
        rw [ek] at hk; exact hk
    · exact hok
  · rintro G' m' ⟨hi, o2, o3, rfl, rfl⟩
    rw [List.length_map, List.take_length] at hi
    walk_at "vl"
    rw [keep_true hi] at hk; exact hk
-- CUT
def S_need_from : VSp := fun ds k _ => ∃ n l : Int, ds = [.t (.int n), .t (.int l)] ∧ l ≤ n ∧ k .non
theorem S_need_from.len : ∀ ds k x, S_need_from ds k x → ds.length = 2 := fun ds k x ⟨_, _, e, _⟩ => by rw [e]; rfl
theorem i_need_from {n l : Int} {k : Tr → Prop} {x : VL.XK} (q : k .non) (h : l ≤ n) : S_need_from [.t (.int n), .t (.int l)] k x := ⟨n, l, rfl, h, q⟩
local macro_rules | `(tactic| walk_at "vl call") => `(tactic| with_reducible apply i_need_from)
def u_need_from : VS :=
  (vIfS (vtOr (vtNot (vtB (vCall S_is_whole (vaCons (vVar 0) vaNil)))) (vtB (vOp fLt (vVar 0) (vVar 1))))
  vNever
  vNext)

theorem w_need_from : Meets 2 N_need_from S_need_from u_need_from 0 := by
  rintro ds k x hl ⟨n, l, rfl, h, hk⟩
  unfold u_need_from
  walk_at "vl"
  exact hk
/-- the first one from n on, less than 1000 ahead -/
def NextOf (fl : List Fr) (n : Int) (y : Tr) : Prop := (∃ i : Nat, i < 1000 ∧ y = .int (n + (i : Int)) ∧ keepAll fl (n + (i : Int)) = true ∧ ∀ j < i, keepAll fl (n + (j : Int)) = false) ∨ (y = .non ∧ ∀ j < 1000, keepAll fl (n + ((j : Nat) : Int)) = false)
theorem NextOf.one {fl : List Fr} {n : Int} {y z : Tr} (h1 : NextOf fl n y) (h2 : NextOf fl n z) : y = z := by
  rcases h1 with ⟨i, a1, a2, a3, a4⟩ | ⟨a1, a2⟩ <;> rcases h2 with ⟨j, b1, b2, b3, b4⟩ | ⟨b1, b2⟩
  · have : i = j := by
      rcases Nat.lt_trichotomy i j with q | q | q
      · rw [b4 i q] at a3; cases a3
      · exact q
      · rw [a4 j q] at b3; cases b3
    rw [a2, b2, this]
  · rw [b2 i a1] at a3; cases a3
  · rw [a2 j b1] at b3; cases b3
  · rw [a1, b1]
def S_next_keeping : VSp := fun ds k _ => ∃ (fl : List Fr) (n : Int), ds = [.t (.lst (fl.map frU)), .t (.int n)] ∧ OkFs fl ∧ 0 ≤ n ∧ ∀ y, NextOf fl n y → k y
theorem S_next_keeping.len : ∀ ds k x, S_next_keeping ds k x → ds.length = 2 := fun ds k x ⟨_, _, e, _⟩ => by rw [e]; rfl
theorem i_next_keeping {fl : List Fr} {n : Int} {k : Tr → Prop} {x : VL.XK} (q : ∀ y, NextOf fl n y → k y) (h : OkFs fl) (h1 : 0 ≤ n) : S_next_keeping [.t (.lst (fl.map frU)), .t (.int n)] k x := ⟨fl, n, rfl, h, h1, q⟩
local macro_rules | `(tactic| walk_at "vl call") => `(tactic| with_reducible apply i_next_keeping)
def u_next_keeping : VS :=
  (vSeq (vDrop (vCall S_need_frames (vaCons (vVar 0) vaNil)))
  (vSeq (vDrop (vCall S_need_from (vaCons (vVar 1) (vaCons (vC (.int 0)) vaNil))))
  (vSeq (vFor (viR1 (vC (.int 1000))) (vgName 2)
  (vIfS (vtB (vCall S_keeps (vaCons (vVar 0) (vaCons (vOp fAdd (vVar 1) (vVar 2)) vaNil))))
  (vRet (vOp fAdd (vVar 1) (vVar 2)))
  vNext))
  (vRet (vC .non)))))

theorem w_next_keeping : Meets 2 N_next_keeping S_next_keeping u_next_keeping 0 := by
  rintro ds k x hl ⟨fl, n, rfl, h, h1, hk⟩
  unfold u_next_keeping
  walk_at "vl"
  · refine fr_inv (fun i G m => (∀ j < i, keepAll fl (n + (j : Int)) = false) ∧ ∃ o2 : Option Dv, G = [some (.t (.lst (fl.map frU))), some (.t (.int n)), o2] ∧ m = []) ⟨fun j hj => by omega, none, rfl, rfl⟩ ?_ ?_
    · rintro i t G' m' e ⟨hi, o2, rfl, rfl⟩
      obtain ⟨hlt, rfl⟩ := rng_get e
      walk_at "vl"
      · rw [Int.zero_add]
        cases c : keepAll fl (n + (i : Int)) with
        | true =>
          walk_at "vl"
          exact hk _ (.inl ⟨i, hlt, rfl, c, hi⟩)
        | false =>
          walk_at "vl"
          refine ⟨fun j hj => ?_, _, rfl, rfl⟩
          by_cases q : j = i
          · rw [q]; exact c
          · exact hi j (by omega)
      · exact h.ok
      · omega
    · rintro G' m' ⟨hi, o2, rfl, rfl⟩
      rw [rng_len] at hi
      walk_at "vl"
      exact hk _ (.inr ⟨rfl, hi⟩)
  all_goals first | exact h | omega
def cellAt (ns : List Int) (k : Int) : Int := if k < ns.length then ns.getD k.toNat 0 else 7 * k * k + 3 * k + 11
def S_law_cell : VSp := fun ds k _ => ∃ (ns : List Int) (i : Int), ds = [.t (.scr ns), .t (.int i)] ∧ 0 ≤ i ∧ i < 1000 ∧ ∀ c : Int, k (.int c)
theorem S_law_cell.len : ∀ ds k x, S_law_cell ds k x → ds.length = 2 := fun ds k x ⟨_, _, e, _⟩ => by rw [e]; rfl
theorem i_law_cell {ns : List Int} {i : Int} {k : Tr → Prop} {x : VL.XK} (q : ∀ c : Int, k (.int c)) (h : 0 ≤ i) (h1 : i < 1000) : S_law_cell [.t (.scr ns), .t (.int i)] k x := ⟨ns, i, rfl, h, h1, q⟩
local macro_rules | `(tactic| walk_at "vl call") => `(tactic| ((with_reducible apply i_law_cell); intro _))
def u_law_cell : VS :=
  (vSeq (vIfS (vtB (vOp fLt (vVar 1) (vCB fLen (vaCons (vVar 0) vaNil))))
  (vRet (vOp fIdx (vVar 0) (vVar 1)))
  vNext)
  (vSeq (vRet (vOp fAdd (vOp fAdd (vOp fMul (vOp fMul (vC (.int 7)) (vVar 1)) (vVar 1)) (vOp fMul (vC (.int 3)) (vVar 1))) (vC (.int 11)))) vNext))

theorem w_law_cell : Meets 2 N_law_cell S_law_cell u_law_cell 0 := by
  rintro ds k x hl ⟨ns, i, rfl, h, h1, hk⟩
  unfold u_law_cell
  walk_at "vl"
  refine br_d (fun c => ?_) (fun c => ?_)
  · walk_at "vl"
    · exact hk _
    all_goals omega
  · walk_at "vl"
    · exact hk _
    all_goals walk_at "vl fin"
def S_law_many : VSp := S_many_of
theorem S_law_many.len : ∀ ds k x, S_law_many ds k x → ds.length = 1 := S_many_of.len
theorem i_law_many {b : Int} {ps ws : List Int} {k : Tr → Prop} {x : VL.XK} (q : k (.int (b ^ L ps))) (h : OkF b ps ws) : S_law_many [.t (frT b ps ws)] k x := ⟨b, ps, ws, rfl, h, q⟩
local macro_rules | `(tactic| walk_at "vl call") => `(tactic| with_reducible apply i_law_many)
theorem OkF.wlen {b : Int} {ps ws : List Int} (h : OkF b ps ws) : ws.length = L ps := by have := h.w1; have := h.sum; unfold L; omega
def u_law_many : VS :=
  (vSeq (vSet 1 (vC (.int 1)))
  (vSeq (vFor (viR1 (vCB fLen (vaCons (vOp fIdx (vVar 0) (vC (.int 2))) vaNil))) (vgName 2)
  (vSet 1 (vOp fMul (vVar 1) (vOp fIdx (vVar 0) (vC (.int 0))))))
  (vRet (vVar 1))))

theorem w_law_many : Meets 1 N_law_many S_law_many u_law_many 0 := by
  rintro ds k x hl ⟨b, ps, ws, rfl, h, hk⟩
  obtain ⟨s1, s2⟩ := h.sum
  have h1 := h.b1
  have h2 := h.b2
  have hw := h.wlen
  have hL : L ps ≤ 24 := by unfold L; omega
  have hm : (ws.map Tr.int).length = ws.length := List.length_map ..
  unfold u_law_many
  walk_at "vl"
  · refine fr_inv (fun i G m => ∃ o, G = [some (.t (frT b ps ws)), some (.t (.int (b ^ i))), o] ∧ m = []) ⟨none, by first | (rw [Int.pow_zero]; rfl) | rw [Int.pow_zero], rfl⟩ ?_ ?_
    · rintro i t G' m' e ⟨o, rfl, rfl⟩
      obtain ⟨hi, rfl⟩ := rng_get e
      walk_at "vl"
      · exact ⟨_, by rw [Int.pow_succ]; rfl, rfl⟩
      · exact cmr (by omega) (by omega)
    · rintro G' m' ⟨o, rfl, rfl⟩
      rw [rng_len, hm, Int.toNat_natCast, hw]
      walk_at "vl"
      exact hk
  all_goals omega
-- CUT
theorem cut1 {ps : List Int} (h : 1 ≤ ps.length) : cutG (ps.map Tr.int) none (some 1) = [ps.getD 0 0].map Tr.int := by
  rw [cutG_map]
  congr 1
  unfold cutG
  cases ps with
  | nil => simp at h
  | cons p r => simp [HT.sIx]
theorem rep_map (p : Int) : ∀ n : Nat, (List.replicate n ([p].map Tr.int)).flatten = (List.replicate n p).map Tr.int
  | 0 => rfl
  | n + 1 => by rw [List.replicate_succ, List.flatten_cons, rep_map p n, List.replicate_succ, List.map_cons]; rfl
def S_law_frame : VSp := fun ds k _ => ∃ lo : Int, ds = [.hnd 0, .t (.int lo)] ∧ 1 ≤ lo ∧ lo ≤ 6 ∧ ∀ (b : Int) (ps ws : List Int), OkF b ps ws → k (frT b ps ws)
theorem S_law_frame.len : ∀ ds k x, S_law_frame ds k x → ds.length = 2 := fun ds k x ⟨_, e, _⟩ => by rw [e]; rfl
theorem i_law_frame {lo : Int} {k : Tr → Prop} {x : VL.XK} (q : ∀ (b : Int) (ps ws : List Int), OkF b ps ws → k (frT b ps ws)) (h1 : 1 ≤ lo) (h2 : lo ≤ 6) : S_law_frame [.hnd 0, .t (.int lo)] k x := ⟨lo, rfl, h1, h2, q⟩
local macro_rules | `(tactic| walk_at "vl call") => `(tactic| with_reducible apply i_law_frame)
def u_law_frame : VS :=
  (vSeq (vSet 2 (vOp fIdx (vLst (vaCons (vC (.int 2)) (vaCons (vC (.int 3)) (vaCons (vC (.int 10)) (vaCons (vC (.int 16)) (vaCons (vOp fAdd (vC (.int 2)) (vCall S_law_take (vaCons (vVar 0) (vaCons (vC (.int 15)) vaNil)))) vaNil)))))) (vCall S_law_take (vaCons (vVar 0) (vaCons (vC (.int 5)) vaNil)))))
  (vSeq (vSet 3 (vLc (viR1 (vOp fIdx (vLst (vaCons (vC (.int 2)) (vaCons (vC (.int 2)) (vaCons (vC (.int 3)) (vaCons (vC (.int 4)) vaNil))))) (vCall S_law_take (vaCons (vVar 0) (vaCons (vC (.int 4)) vaNil))))) (vgName 7) vtYes (vOp fAdd (vC (.int 1)) (vCall S_law_take (vaCons (vVar 0) (vaCons (vVar 1) vaNil)))) [7]))
  (vSeq (vIfS (vtB (vOp fEqD (vCall S_law_take (vaCons (vVar 0) (vaCons (vC (.int 3)) vaNil))) (vC (.int 0))))
  (vSet 3 (vOp fMul (vSl fSlc (vVar 3) voN (voS (vC (.int 1)))) (vCB fLen (vaCons (vVar 3) vaNil))))
  vNext)
  (vSeq (vSet 4 (vCall S_law_take (vaCons (vVar 0) (vaCons (vC (.int 6)) vaNil))))
  (vSeq (vSet 5 (vOp fSub (vCall S_law_take (vaCons (vVar 0) (vaCons (vC (.int 19)) vaNil))) (vC (.int 9))))
  (vSeq (vNewL 6 0 vaNil)
  (vSeq (vFor (viR1 (vCB fSum (vaCons (vVar 3) vaNil))) (vgName 7)
  (vSeq (vSet 8 (vOp fSub (vCall S_law_take (vaCons (vVar 0) (vaCons (vC (.int 19)) vaNil))) (vC (.int 9))))
  (vSeq (vSet 9 (vLst (vaCons (vC (.int 1)) (vaCons (vVar 5) (vaCons (vOp fMod (vVar 8) (vC (.int 3))) (vaCons (vVar 8) (vaCons (vOp fMul (vVar 8) (vCB fInt (vaCons (vOp fEqD (vCall S_law_take (vaCons (vVar 0) (vaCons (vC (.int 4)) vaNil))) (vC (.int 0))) vaNil))) (vaCons (vOp fAdd (vOp fMod (vVar 7) (vOp fIdx (vVar 3) (vC (.int 0)))) (vC (.int 1))) vaNil))))))))
  (vApp (vVar 6) (vOp fIdx (vVar 9) (vVar 4))))))
  (vFrz 0 (vRet (vTup (vaCons (vVar 2) (vaCons (vVar 3) (vaCons (vVar 6) vaNil)))))))))))))

theorem w_law_frame : Meets 2 N_law_frame S_law_frame u_law_frame 1 := by
  rintro ds k x hl ⟨lo, rfl, l1, l2, hk⟩
  unfold u_law_frame
  walk_at "vl"
  · intro t ht
    obtain ⟨b, rfl, b1, b2⟩ : ∃ b : Int, t = .int b ∧ 2 ≤ b ∧ b ≤ 16 := by
      simp only [List.mem_cons, List.not_mem_nil, or_false] at ht
      rcases ht with rfl | rfl | rfl | rfl | rfl <;> exact ⟨_, rfl, by omega, by omega⟩
    walk_at "vl"
    · intro t ht
      obtain ⟨mn, rfl, m1, m2⟩ : ∃ b : Int, t = .int b ∧ 2 ≤ b ∧ b ≤ 4 := by
        simp only [List.mem_cons, List.not_mem_nil, or_false] at ht
        rcases ht with rfl | rfl | rfl | rfl <;> exact ⟨_, rfl, by omega, by omega⟩
      walk_at "vl"
      · refine lc_all (fun _ y => ∃ p : Int, y = .int p ∧ 1 ≤ p ∧ p ≤ 6) (by rw [rng_len]; exact sz (by omega)) (fun i t acc e hz I hI => ?_) fun acc hl ha => ?_
        · obtain ⟨hi, rfl⟩ := rng_get e
          walk_at "vl"
          · exact ⟨hz, hI _ ⟨_, rfl, by omega, by omega⟩⟩
          all_goals walk_at "vl fin"
        · obtain ⟨ps, rfl, hp⟩ := ints_all ha
          rw [List.length_map, rng_len] at hl
          have hp0 : 1 ≤ ps.getD 0 0 ∧ ps.getD 0 0 ≤ 6 := by
            cases ps with
            | nil => simp at hl; omega
            | cons p r => exact hp p List.mem_cons_self
          walk_at "vl"
          refine br_joinN (fun G m => ∃ ps : List Int, 2 ≤ ps.length ∧ ps.length ≤ 4 ∧ (∀ p ∈ ps, 1 ≤ p ∧ p ≤ 6) ∧ G = [some (.hnd 0), some (.t (.int lo)), some (.t (.int b)), some (.t (.lst (ps.map .int))), none, none, none, none, none, none] ∧ m = [none]) ?_ ?_ ?_
          · rintro G' m' ⟨ps, q1, q2, q3, rfl, rfl⟩
            have q4 := sum_bounds q3
            have hp0 : 1 ≤ ps.getD 0 0 ∧ ps.getD 0 0 ≤ 6 := by
              cases ps with
              | nil => simp at q1
              | cons p r => exact q3 p List.mem_cons_self
            walk_at "vl"
            · rename_i wy wy1 wy2 on on1 on2
              refine fr_inv (fun i G m => ∃ (ws : List Int) (o7 o8 o9 : Option Dv), ws.length = i ∧ (∀ w ∈ ws, -9 ≤ w ∧ w ≤ 9) ∧ G = [some (.hnd 0), some (.t (.int lo)), some (.t (.int b)), some (.t (.lst (ps.map .int))), some (.t (.int wy)), some (.t (.int (on - 9))), some (.loc 0), o7, o8, o9] ∧ m = [some (.lst (ws.map .int))]) ⟨[], none, none, none, rfl, (fun w h => by cases h), rfl, rfl⟩ ?_ ?_
              · rintro i t G' m' e ⟨ws, o7, o8, o9, hw, hw2, rfl, rfl⟩
                obtain ⟨hi, rfl⟩ := rng_get e
                walk_at "vl"
                · rename_i an an1 an2 bo bo1 bo2
                  intro t ht
                  have em := Int.emod_nonneg (0 + (i : Int)) (b := ps.getD (Int.toNat 0) 0) (by show ps.getD 0 0 ≠ 0; omega)
                  have em2 := Int.emod_lt_of_pos (0 + (i : Int)) (b := ps.getD (Int.toNat 0) 0) (by show 0 < ps.getD 0 0; omega)
                  have em3 : ps.getD (Int.toNat 0) 0 ≤ 6 := hp0.2
                  obtain ⟨w, rfl, w1, w2⟩ : ∃ b : Int, t = .int b ∧ -9 ≤ b ∧ b ≤ 9 := by
                    simp only [List.mem_cons, List.not_mem_nil, or_false] at ht
                    rcases ht with rfl | rfl | rfl | rfl | rfl | rfl
                    · exact ⟨_, rfl, by omega, by omega⟩
                    · exact ⟨_, rfl, by omega, by omega⟩
                    · exact ⟨_, rfl, by omega, by omega⟩
                    · exact ⟨_, rfl, by omega, by omega⟩
                    · refine ⟨_, rfl, ?_⟩
                      split <;> omega
                    · exact ⟨_, rfl, by omega, by omega⟩
                  walk_at "vl"
                  refine an_lt (by rw [List.length_map, sizeLine_eq]; omega) ?_
                  refine ⟨ws ++ [w], _, _, _, by rw [List.length_append, hw]; rfl, ?_, rfl, by rw [List.map_append]; rfl⟩
                  intro z hz
                  rcases List.mem_append.mp hz with h | h
                  · exact hw2 z h
                  · have : z = w := by simpa using h
                    omega
                all_goals first | omega | (simp only [List.length_cons, List.length_nil]; omega) | (show 0 < ps.getD 0 0; omega) | walk_at "vl fin"
              · rintro G' m' ⟨ws, o7, o8, o9, hw, hw2, rfl, rfl⟩
                rw [rng_len] at hw
                walk_at "vl"
                exact hk b ps ws ⟨b1, b2, q1, q2, q3, by omega, hw2⟩
            all_goals walk_at "vl fin"
          · intro hj c
            walk_at "vl1"
            · refine hj _ _ ⟨List.replicate ps.length (ps.getD 0 0), by rw [List.length_replicate]; omega, by rw [List.length_replicate]; omega, fun p hp => by rw [List.eq_of_mem_replicate hp]; exact hp0, ?_, rfl⟩
              rw [← cutG_map, cut1 (by omega), List.length_map, Int.toNat_natCast, rep_map]
              rfl
            all_goals simp only [← cutG_map, List.length_map, cut1 (show 1 ≤ ps.length by omega), List.length_cons, List.length_nil, sizeLine_eq]
            all_goals omega
          · intro c
            exact ⟨ps, by omega, by omega, hp, rfl, rfl⟩
          all_goals walk_at "vl fin"
      all_goals walk_at "vl fin"
    all_goals walk_at "vl fin"
  all_goals walk_at "vl fin"
-- CUT
def S_law_figures : VSp := fun ds k _ => ∃ (b : Int) (ps ws : List Int) (n : Int), ds = [.t (frT b ps ws), .t (.int n)] ∧ OkF b ps ws ∧ k (.lst ((figs b ps n).map .int))
theorem S_law_figures.len : ∀ ds k x, S_law_figures ds k x → ds.length = 2 := fun ds k x ⟨_, _, _, _, e, _⟩ => by rw [e]; rfl
theorem i_law_figures {b n : Int} {ps ws : List Int} {k : Tr → Prop} {x : VL.XK} (q : k (.lst ((figs b ps n).map .int))) (h : OkF b ps ws) : S_law_figures [.t (frT b ps ws), .t (.int n)] k x := ⟨b, ps, ws, n, rfl, h, q⟩
local macro_rules | `(tactic| walk_at "vl call") => `(tactic| with_reducible apply i_law_figures)
def u_law_figures : VS :=
  (vSeq (vNewL 2 0 vaNil)
  (vSeq (vFor (viR1 (vCB fLen (vaCons (vOp fIdx (vVar 0) (vC (.int 2))) vaNil))) (vgName 3)
  (vSeq (vApp (vVar 2) (vOp fMod (vVar 1) (vOp fIdx (vVar 0) (vC (.int 0)))))
  (vSet 1 (vOp fDiv (vVar 1) (vOp fIdx (vVar 0) (vC (.int 0)))))))
  (vRet (vRev (vVar 2)))))

theorem w_law_figures : Meets 2 N_law_figures S_law_figures u_law_figures 1 := by
  rintro ds k x hl ⟨b, ps, ws, n, rfl, h, hk⟩
  obtain ⟨s1, s2⟩ := h.sum
  have h1 := h.b1
  have h2 := h.b2
  have hw := h.wlen
  have hL : L ps ≤ 24 := by unfold L; omega
  have hm : (ws.map Tr.int).length = ws.length := List.length_map ..
  unfold u_law_figures
  walk_at "vl"
  · refine fr_inv (fun i G m => ∃ o, G = [some (.t (frT b ps ws)), some (.t (.int (n / b ^ i))), some (.loc 0), o] ∧ m = [some (.lst ((dg b i n).map .int))]) ⟨none, by first | (rw [Int.pow_zero, Int.ediv_one]; rfl) | rw [Int.pow_zero, Int.ediv_one], rfl⟩ ?_ ?_
    · rintro i t G' m' e ⟨o, rfl, rfl⟩
      obtain ⟨hi, rfl⟩ := rng_get e
      walk_at "vl"
      refine an_lt (by rw [List.length_map, dg_len, sizeLine_eq]; omega) ?_
      walk_at "vl"
      refine ⟨_, by rw [← div_pow_succ h1]; rfl, by rw [dg_succ, List.map_append]; rfl⟩
      all_goals walk_at "vl fin"
    · rintro G' m' ⟨o, rfl, rfl⟩
      rw [rng_len, hm, Int.toNat_natCast, hw]
      walk_at "vl"
      rw [← List.map_reverse]; exact hk
  all_goals omega
def atT (F W : List Int) : Tr → Tr
  | .int j => .int (F.getD j.toNat 0 * W.getD j.toNat 0)
  | _ => .non
theorem rng_dot {F W : List Int} {a p : Nat} (hF : a + p ≤ F.length) (hW : a + p ≤ W.length) : (rng (a : Int) p).map (atT F W) = (List.zipWith (fun x y => x * y) ((F.drop a).take p) ((W.drop a).take p)).map .int := by
  refine List.ext_getElem? fun i => ?_
  rw [List.getElem?_map, List.getElem?_map, List.getElem?_zipWith, List.getElem?_take, List.getElem?_take, List.getElem?_drop, List.getElem?_drop]
  by_cases hi : i < p
  · have e : (rng (a : Int) p)[i]? = some (.int ((a : Int) + (i : Int))) := by unfold rng; rw [List.getElem?_map, List.getElem?_range hi]; rfl
    rw [e, if_pos hi, if_pos hi, List.getElem?_eq_getElem (by omega), List.getElem?_eq_getElem (by omega)]
    show some (Tr.int (F.getD ((a : Int) + (i : Int)).toNat 0 * W.getD ((a : Int) + (i : Int)).toNat 0)) = some (Tr.int (F[a + i] * W[a + i]))
    have e2 : ((a : Int) + (i : Int)).toNat = a + i := by omega
    rw [e2, List.getD_eq_getElem?_getD, List.getD_eq_getElem?_getD, List.getElem?_eq_getElem (by omega), List.getElem?_eq_getElem (by omega)]
    rfl
  · rw [List.getElem?_eq_none (by rw [rng_len]; omega), if_neg hi]; rfl
theorem figs_len (b : Int) (ps : List Int) (n : Int) : (figs b ps n).length = L ps := by unfold figs; rw [List.length_reverse, dg_len]
theorem sum_take_le {ps : List Int} (h : ∀ p ∈ ps, 0 ≤ p) (j : Nat) : (ps.take j).sum ≤ ps.sum := by
  have e : ps.sum = (ps.take j).sum + (ps.drop j).sum := by rw [← List.sum_append, List.take_append_drop]
  have := sum_nonneg (ps := ps.drop j) fun z hz => h z (List.mem_of_mem_drop hz)
  omega
def miss (xs : List Int) : Int := mxI xs - mnI xs
def S_law_spread : VSp := fun ds k _ => ∃ (b : Int) (ps ws : List Int) (n : Int), ds = [.t (frT b ps ws), .t (.int n)] ∧ OkF b ps ws ∧ k (.int (miss (sms b ps ws n)))
theorem S_law_spread.len : ∀ ds k x, S_law_spread ds k x → ds.length = 2 := fun ds k x ⟨_, _, _, _, e, _⟩ => by rw [e]; rfl
theorem i_law_spread {b n : Int} {ps ws : List Int} {k : Tr → Prop} {x : VL.XK} (q : k (.int (miss (sms b ps ws n)))) (h : OkF b ps ws) : S_law_spread [.t (frT b ps ws), .t (.int n)] k x := ⟨b, ps, ws, n, rfl, h, q⟩
local macro_rules | `(tactic| walk_at "vl call") => `(tactic| with_reducible apply i_law_spread)
def u_law_spread : VS :=
  (vSeq (vSet 2 (vCall S_law_figures (vaCons (vVar 0) (vaCons (vVar 1) vaNil))))
  (vSeq (vSet 3 (vC (.int 0)))
  (vSeq (vNewL 4 0 vaNil)
  (vSeq (vFor (viL (vOp fIdx (vVar 0) (vC (.int 1)))) (vgName 5)
  (vSeq (vApp (vVar 4) (vCB fSum (vaCons (vLc (viR2 (vVar 3) (vOp fAdd (vVar 3) (vVar 5))) (vgName 6) vtYes (vOp fMul (vOp fIdx (vVar 2) (vVar 6)) (vOp fIdx (vOp fIdx (vVar 0) (vC (.int 2))) (vVar 6))) [6]) vaNil)))
  (vSet 3 (vOp fAdd (vVar 3) (vVar 5)))))
  (vRet (vOp fSub (vCB fMax (vaCons (vVar 4) vaNil)) (vCB fMin (vaCons (vVar 4) vaNil))))))))

theorem w_law_spread : Meets 2 N_law_spread S_law_spread u_law_spread 1 := by
  rintro ds k x hl ⟨b, ps, ws, n, rfl, h, hk⟩
  have hp2 := h.p2
  have hw := h.wlen
  have hs := h.sum
  have hL : (L ps : Int) = ps.sum := by unfold L; omega
  have hsl : 0 < (sms b ps ws n).length := h.len n
  have hm1 : (ws.map Tr.int).length = ws.length := List.length_map ..
  unfold u_law_spread
  walk_at "vl"
  · refine fr_inv (fun i G m => ∃ o5 o6 : Option Dv, G = [some (.t (frT b ps ws)), some (.t (.int n)), some (.t (.lst ((figs b ps n).map .int))), some (.t (.int (ps.take i).sum)), some (.loc 0), o5, o6] ∧ m = [some (.lst (((sms b ps ws n).take i).map .int))]) ⟨none, none, rfl, rfl⟩ ?_ ?_
    · rintro i t G' m' e ⟨o5, o6, rfl, rfl⟩
      obtain ⟨p, rfl, hp⟩ := int_at e
      have hpb := h.p3 p (mem_at hp)
      have hi : i < ps.length := (List.getElem?_eq_some_iff.mp hp).1
      have t0 : 0 ≤ (ps.take i).sum := sum_nonneg fun z hz => h.p0 z (List.mem_of_mem_take hz)
      have t1 := sum_take_le h.p0 (i + 1)
      rw [sum_take hp] at t1
      obtain ⟨a, ha⟩ := Int.eq_ofNat_of_zero_le t0
      have hsm : (sms b ps ws n)[i]? = some (dot (((figs b ps n).drop a).take p.toNat) ((ws.drop a).take p.toNat)) := by
        unfold sms smsOf
        rw [List.getElem?_zipWith, segs_get h.p0 hp, segs_get h.p0 hp, ha]; rfl
      have er : ((ps.take i).sum + p - (ps.take i).sum).toNat = p.toNat := by omega
      walk_at "vl"
      · rw [er, ha]
        refine lc_mapB (atT (figs b ps n) ws) (by rw [rng_len, sizeLine_eq]; omega) (fun j t acc e hz I hI => ?_) ?_
        · obtain ⟨hj, rfl⟩ := rng_get e
          have hfl := figs_len b ps n
          have hwb : ∀ j : Nat, -9 ≤ ws.getD j 0 ∧ ws.getD j 0 ≤ 9 := fun j => by
            rw [List.getD_eq_getElem?_getD]
            cases e : ws[j]? with
            | none => simp
            | some w => exact h.w2 w (mem_at e)
          walk_at "vl"
          · exact ⟨hz, hI⟩
          · have := hwb ((a : Int) + (j : Int)).toNat
            exact cmr (by omega) (by omega)
          all_goals omega
        · rw [rng_dot (by rw [figs_len]; omega) (by omega)]
          walk_at "vl"
          refine an_lt (by rw [List.length_map, List.length_take, sms_len, sizeLine_eq]; omega) ?_
          walk_at "vl"
          refine ⟨_, _, by rw [sum_take hp, ha]; rfl, ?_⟩
          rw [take_snoc hsm, List.map_append]
          rfl
      all_goals omega
    · rintro G' m' ⟨o5, o6, rfl, rfl⟩
      have e1 : (sms b ps ws n).take ps.length = sms b ps ws n := List.take_of_length_le (by rw [sms_len]; exact Nat.le_refl _)
      rw [List.length_map, e1]
      walk_at "vl"
      · exact hk
      all_goals exact hsl
  · exact h
-- CUT
def S_law_keeps : VSp := S_keeps
theorem S_law_keeps.len : ∀ ds k x, S_law_keeps ds k x → ds.length = 2 := S_keeps.len
theorem i_law_keeps {fl : List Fr} {n : Int} {k : Tr → Prop} {x : VL.XK} (q : k (.bl (keepAll fl n))) (h : ∀ f ∈ fl, OkU f) (h1 : 0 ≤ n) : S_law_keeps [.t (.lst (fl.map frU)), .t (.int n)] k x := ⟨fl, n, rfl, h, h1, q⟩
local macro_rules | `(tactic| walk_at "vl call") => `(tactic| with_reducible apply i_law_keeps)
def u_law_keeps : VS :=
  (vSeq (vIfS (vtOr (vtNot (vtB (vCB (fIsi "int") (vaCons (vVar 1) (vaCons (vC (.ty "int")) vaNil))))) (vtOr (vtB (vCB (fIsi "bool") (vaCons (vVar 1) (vaCons (vC (.ty "bool")) vaNil)))) (vtB (vOp fLt (vVar 1) (vC (.int 0))))))
  (vRet (vC (.bl false)))
  vNext)
  (vSeq (vFor (viL (vVar 0)) (vgName 2)
  (vIfS (vtOr (vtB (vOp fGe (vVar 1) (vCall S_law_many (vaCons (vVar 2) vaNil)))) (vtB (vOp fNeD (vCall S_law_spread (vaCons (vVar 2) (vaCons (vVar 1) vaNil))) (vC (.int 0)))))
  (vRet (vC (.bl false)))
  vNext))
  (vRet (vC (.bl true)))))

theorem w_law_keeps : Meets 2 N_law_keeps S_law_keeps u_law_keeps 0 := by
  rintro ds k x hl ⟨fl, n, rfl, h, h1, hk⟩
  unfold u_law_keeps
  walk_at "vl"
  refine fr_inv (fun i G m => (∀ f ∈ fl.take i, keep1 f n = true) ∧ ∃ o2 : Option Dv, G = [some (.t (.lst (fl.map frU))), some (.t (.int n)), o2] ∧ m = []) ⟨fun f hf => by simp at hf, none, rfl, rfl⟩ ?_ ?_
  · rintro i t G' m' e ⟨hi, o2, rfl, rfl⟩
    obtain ⟨b, ps, ws, rfl, e2⟩ := fr_at e
    have hok : OkF b ps ws := h _ (mem_at e2)
    walk_at "vl"
    · refine br_d (fun c => ?_) (fun c => ?_)
      · walk_at "vl"
        have ek : keepAll fl n = false := keep_false (mem_at e2) (by unfold keep1; rw [decide_eq_false (show ¬ n < b ^ L ps by omega), Bool.false_and])
        rw [ek] at hk; exact hk
      · walk_at "vl"
        · refine br_d (fun c2 => ?_) (fun c2 => ?_)
          · walk_at "vl"
            refine ⟨fun f hf => ?_, _, rfl, rfl⟩
            rw [take_snoc e2] at hf
            rcases List.mem_append.mp hf with q | q
            · exact hi f q
            · have : f = (b, ps, ws) := by simpa using q
              subst this
              unfold miss at c2
              unfold keep1
              rw [decide_eq_true (show n < b ^ L ps by omega), decide_eq_true (show mxI (sms b ps ws n) = mnI (sms b ps ws n) by omega)]; rfl
          · walk_at "vl"
            unfold miss at c2
            have ek : keepAll fl n = false := keep_false (mem_at e2) (by unfold keep1; show (_ && decide (mxI (sms b ps ws n) = mnI (sms b ps ws n))) = false; rw [decide_eq_false (show ¬ mxI (sms b ps ws n) = mnI (sms b ps ws n) by omega), Bool.and_false])
            rw [ek] at hk; exact hk
        · exact hok
    · exact hok
  · rintro G' m' ⟨hi, o2, rfl, rfl⟩
    rw [List.length_map, List.take_length] at hi
    walk_at "vl"
    rw [keep_true hi] at hk; exact hk
def S_law_next : VSp := fun ds k _ => ∃ (fl : List Fr) (n : Int), ds = [.t (.lst (fl.map frU)), .t (.int n)] ∧ (∀ f ∈ fl, OkU f) ∧ 0 ≤ n ∧ ∀ y, NextOf fl n y → k y
theorem S_law_next.len : ∀ ds k x, S_law_next ds k x → ds.length = 2 := fun ds k x ⟨_, _, e, _⟩ => by rw [e]; rfl
theorem i_law_next {fl : List Fr} {n : Int} {k : Tr → Prop} {x : VL.XK} (q : ∀ y, NextOf fl n y → k y) (h : ∀ f ∈ fl, OkU f) (h1 : 0 ≤ n) : S_law_next [.t (.lst (fl.map frU)), .t (.int n)] k x := ⟨fl, n, rfl, h, h1, q⟩
local macro_rules | `(tactic| walk_at "vl call") => `(tactic| with_reducible apply i_law_next)
def u_law_next : VS :=
  (vSeq (vFor (viR1 (vC (.int 1000))) (vgName 2)
  (vIfS (vtB (vCall S_law_keeps (vaCons (vVar 0) (vaCons (vOp fAdd (vVar 1) (vVar 2)) vaNil))))
  (vRet (vOp fAdd (vVar 1) (vVar 2)))
  vNext))
  (vRet (vC .non)))

theorem w_law_next : Meets 2 N_law_next S_law_next u_law_next 0 := by
  rintro ds k x hl ⟨fl, n, rfl, h, h1, hk⟩
  unfold u_law_next
  walk_at "vl"
  · refine fr_inv (fun i G m => (∀ j < i, keepAll fl (n + (j : Int)) = false) ∧ ∃ o2 : Option Dv, G = [some (.t (.lst (fl.map frU))), some (.t (.int n)), o2] ∧ m = []) ⟨fun j hj => by omega, none, rfl, rfl⟩ ?_ ?_
    · rintro i t G' m' e ⟨hi, o2, rfl, rfl⟩
      obtain ⟨hlt, rfl⟩ := rng_get e
      walk_at "vl"
      · rw [Int.zero_add]
        cases c : keepAll fl (n + (i : Int)) with
        | true =>
          walk_at "vl"
          exact hk _ (.inl ⟨i, hlt, rfl, c, hi⟩)
        | false =>
          walk_at "vl"
          refine ⟨fun j hj => ?_, _, rfl, rfl⟩
          by_cases q : j = i
          · rw [q]; exact c
          · exact hi j (by omega)
      · exact h
      · omega
    · rintro G' m' ⟨hi, o2, rfl, rfl⟩
      rw [rng_len] at hi
      walk_at "vl"
      exact hk _ (.inr ⟨rfl, hi⟩)
  all_goals first | exact h | omega
theorem OkF.base {b b2 : Int} {ps ws ps2 ws2 : List Int} (h : OkF b ps ws) (h2 : OkF b2 ps2 ws2) : OkF b2 ps ws := ⟨h2.b1, h2.b2, h.p1, h.p2, h.p3, h.w1, h.w2⟩
theorem one_ok {b : Int} {ps ws : List Int} (h : OkF b ps ws) : ∀ f ∈ [(b, ps, ws)], OkU f := fun f hf => by
  have e : f = (b, ps, ws) := by simpa using hf
  subst e
  exact h
def S_law_frames : VSp := fun ds k _ => ds = [.hnd 0] ∧ ∀ fl : List Fr, OkFs fl → k (.lst (fl.map frU))
theorem S_law_frames.len : ∀ ds k x, S_law_frames ds k x → ds.length = 1 := fun ds k x ⟨e, _⟩ => by rw [e]; rfl
theorem i_law_frames {k : Tr → Prop} {x : VL.XK} (q : ∀ fl : List Fr, OkFs fl → k (.lst (fl.map frU))) : S_law_frames [.hnd 0] k x := ⟨rfl, q⟩
local macro_rules | `(tactic| walk_at "vl call") => `(tactic| with_reducible apply i_law_frames)
def u_law_frames : VS :=
  (vSeq (vSet 1 (vCall S_law_frame (vaCons (vVar 0) (vaCons (vC (.int 2)) vaNil))))
  (vSeq (vNewL 2 0 (vaCons (vVar 1) vaNil))
  (vSeq (vFor (viR1 (vCall S_law_take (vaCons (vVar 0) (vaCons (vC (.int 3)) vaNil)))) (vgName 3)
  (vSeq (vSet 4 (vCall S_law_frame (vaCons (vVar 0) (vaCons (vC (.int 2)) vaNil))))
  (vApp (vVar 2) (vOp fIdx (vLst (vaCons (vVar 4) (vaCons (vTup (vaCons (vOp fIdx (vVar 1) (vC (.int 0))) (vaCons (vOp fIdx (vVar 4) (vC (.int 1))) (vaCons (vOp fIdx (vVar 4) (vC (.int 2))) vaNil)))) (vaCons (vVar 1) vaNil)))) (vCall S_law_take (vaCons (vVar 0) (vaCons (vC (.int 3)) vaNil)))))))
  (vFrz 0 (vRet (vVar 2))))))

theorem w_law_frames : Meets 1 N_law_frames S_law_frames u_law_frames 1 := by
  rintro ds k x hl ⟨rfl, hk⟩
  unfold u_law_frames
  walk_at "vl"
  · intro b ps ws h
    walk_at "vl"
    · rename_i mn mn1 mn2
      refine fr_inv (fun i G m => ∃ (fl : List Fr) (o3 o4 : Option Dv), fl.length = i + 1 ∧ (∀ f ∈ fl, OkU f) ∧ G = [some (.hnd 0), some (.t (frT b ps ws)), some (.loc 0), o3, o4] ∧ m = [some (.lst (fl.map frU))]) ⟨[(b, ps, ws)], none, none, rfl, one_ok h, rfl, rfl⟩ ?_ ?_
      · rintro i t G' m' e ⟨fl, o3, o4, hf1, hf2, rfl, rfl⟩
        obtain ⟨hi, rfl⟩ := rng_get e
        walk_at "vl"
        · intro b2 ps2 ws2 h2
          walk_at "vl"
          · intro t ht
            obtain ⟨f, rfl, hf⟩ : ∃ f : Fr, t = frU f ∧ OkU f := by
              simp only [List.mem_cons, List.not_mem_nil, or_false] at ht
              rcases ht with rfl | rfl | rfl
              · exact ⟨(b2, ps2, ws2), rfl, h2⟩
              · exact ⟨(b, ps2, ws2), rfl, h2.base h⟩
              · exact ⟨(b, ps, ws), rfl, h⟩
            walk_at "vl"
            refine an_lt (by rw [List.length_map, sizeLine_eq]; omega) ?_
            refine ⟨fl ++ [f], _, _, by rw [List.length_append, hf1]; rfl, fun g hg => ?_, rfl, by rw [List.map_append]; rfl⟩
            rcases List.mem_append.mp hg with q | q
            · exact hf2 g q
            · have : g = f := by simpa using q
              subst this; exact hf
          all_goals first | omega | (simp only [List.length_cons, List.length_nil]; omega) | decide
        all_goals omega
      · rintro G' m' ⟨fl, o3, o4, hf1, hf2, rfl, rfl⟩
        rw [rng_len] at hf1
        walk_at "vl"
        exact hk fl ⟨by omega, by omega, hf2⟩
    all_goals omega
  all_goals omega
-- CUT
theorem OkF.revp {b : Int} {ps ws : List Int} (h : OkF b ps ws) : OkF b ps.reverse ws := ⟨h.b1, h.b2, by rw [List.length_reverse]; exact h.p1, by rw [List.length_reverse]; exact h.p2, fun p hp => h.p3 p (List.mem_reverse.mp hp), by rw [List.sum_reverse]; exact h.w1, h.w2⟩
def S_law_long_frames : VSp := fun ds k _ => ∃ mn : Int, ds = [.hnd 0, .t (.int mn)] ∧ 1 ≤ mn ∧ mn ≤ 3 ∧ ∀ fl : List Fr, OkFs fl → k (.lst (fl.map frU))
theorem S_law_long_frames.len : ∀ ds k x, S_law_long_frames ds k x → ds.length = 2 := fun ds k x ⟨_, e, _⟩ => by rw [e]; rfl
theorem i_law_long_frames {mn : Int} {k : Tr → Prop} {x : VL.XK} (q : ∀ fl : List Fr, OkFs fl → k (.lst (fl.map frU))) (h1 : 1 ≤ mn) (h2 : mn ≤ 3) : S_law_long_frames [.hnd 0, .t (.int mn)] k x := ⟨mn, rfl, h1, h2, q⟩
local macro_rules | `(tactic| walk_at "vl call") => `(tactic| with_reducible apply i_law_long_frames)
def u_law_long_frames : VS :=
  (vSeq (vSet 2 (vCall S_law_frame (vaCons (vVar 0) (vaCons (vC (.int 6)) vaNil))))
  (vSeq (vNewL 3 0 (vaCons (vVar 2) vaNil))
  (vSeq (vFor (viR1 (vOp fSub (vVar 1) (vC (.int 1)))) (vgName 4)
  (vSeq (vSet 5 (vCall S_law_frame (vaCons (vVar 0) (vaCons (vC (.int 6)) vaNil))))
  (vSeq (vSet 6 (vTup (vaCons (vOp fIdx (vVar 2) (vC (.int 0))) (vaCons (vRev (vOp fIdx (vVar 2) (vC (.int 1)))) (vaCons (vOp fIdx (vVar 2) (vC (.int 2))) vaNil)))))
  (vApp (vVar 3) (vOp fIdx (vLst (vaCons (vVar 5) (vaCons (vTup (vaCons (vOp fIdx (vVar 2) (vC (.int 0))) (vaCons (vOp fIdx (vVar 5) (vC (.int 1))) (vaCons (vOp fIdx (vVar 5) (vC (.int 2))) vaNil)))) (vaCons (vVar 6) vaNil)))) (vCall S_law_take (vaCons (vVar 0) (vaCons (vC (.int 3)) vaNil))))))))
  (vFrz 0 (vRet (vVar 3))))))

theorem w_law_long_frames : Meets 2 N_law_long_frames S_law_long_frames u_law_long_frames 1 := by
  rintro ds k x hl ⟨mn, rfl, g1, g2, hk⟩
  unfold u_law_long_frames
  walk_at "vl"
  · intro b ps ws h
    walk_at "vl"
    · refine fr_inv (fun i G m => ∃ (fl : List Fr) (o3 o4 o5 : Option Dv), fl.length = i + 1 ∧ (∀ f ∈ fl, OkU f) ∧ G = [some (.hnd 0), some (.t (.int mn)), some (.t (frT b ps ws)), some (.loc 0), o3, o4, o5] ∧ m = [some (.lst (fl.map frU))]) ⟨[(b, ps, ws)], none, none, none, rfl, one_ok h, rfl, rfl⟩ ?_ ?_
      · rintro i t G' m' e ⟨fl, o3, o4, o5, hf1, hf2, rfl, rfl⟩
        obtain ⟨hi, rfl⟩ := rng_get e
        walk_at "vl"
        · intro b2 ps2 ws2 h2
          walk_at "vl"
          · intro t ht
            rw [← List.map_reverse] at ht
            obtain ⟨f, rfl, hf⟩ : ∃ f : Fr, t = frU f ∧ OkU f := by
              simp only [List.mem_cons, List.not_mem_nil, or_false] at ht
              rcases ht with rfl | rfl | rfl
              · exact ⟨(b2, ps2, ws2), rfl, h2⟩
              · exact ⟨(b, ps2, ws2), rfl, h2.base h⟩
              · exact ⟨(b, ps.reverse, ws), rfl, h.revp⟩
            walk_at "vl"
            refine an_lt (by rw [List.length_map, sizeLine_eq]; omega) ?_
            refine ⟨fl ++ [f], _, _, _, by rw [List.length_append, hf1]; rfl, fun g hg => ?_, rfl, by rw [List.map_append]; rfl⟩
            rcases List.mem_append.mp hg with q | q
            · exact hf2 g q
            · have : g = f := by simpa using q
              subst this; exact hf
          all_goals first | omega | (simp only [List.length_cons, List.length_nil]; omega) | decide
        all_goals omega
      · rintro G' m' ⟨fl, o3, o4, o5, hf1, hf2, rfl, rfl⟩
        rw [rng_len] at hf1
        walk_at "vl"
        exact hk fl ⟨by omega, by omega, hf2⟩
    all_goals omega
  all_goals omega
def S_law_copies : VSp := fun ds k _ => ∃ fl : List Fr, ds = [.t (.lst (fl.map frU))] ∧ fl.length ≤ 1000 ∧ k (.lst (fl.map frU))
theorem S_law_copies.len : ∀ ds k x, S_law_copies ds k x → ds.length = 1 := fun ds k x ⟨_, e, _⟩ => by rw [e]; rfl
theorem i_law_copies {fl : List Fr} {k : Tr → Prop} {x : VL.XK} (q : k (.lst (fl.map frU))) (h : fl.length ≤ 1000) : S_law_copies [.t (.lst (fl.map frU))] k x := ⟨fl, rfl, h, q⟩
local macro_rules | `(tactic| walk_at "vl call") => `(tactic| with_reducible apply i_law_copies)
def u_law_copies : VS :=
  (vRet (vLc (viL (vVar 0)) (vgTup 3 (vgCons (vgName 1) (vgCons (vgName 2) (vgCons (vgName 3) vgNil)))) vtYes (vTup (vaCons (vVar 1) (vaCons (vCB fList (vaCons (vVar 2) vaNil)) (vaCons (vCB fList (vaCons (vVar 3) vaNil)) vaNil)))) [1, 2, 3]))

theorem w_law_copies : Meets 1 N_law_copies S_law_copies u_law_copies 0 := by
  rintro ds k x hl ⟨fl, rfl, h, hk⟩
  unfold u_law_copies
  walk_at "vl"
  refine lc_mapB id (by rw [List.length_map]; exact sz h) (fun j t acc e hz I hI => ?_) ?_
  · obtain ⟨b, ps, ws, rfl, e2⟩ := fr_at e
    walk_at "vl"
    exact ⟨hz, hI⟩
  · rw [List.map_id]
    walk_at "vl"
    exact hk
-- CUT
theorem len13 {l : VL.Env} (h : l.length = 13) : ∃ o1 o2 o3 o4 o5 o6 o7 o8 o9 o10 o11 o12 o13, l = [o1, o2, o3, o4, o5, o6, o7, o8, o9, o10, o11, o12, o13] := by
  match l, h with
  | [o1, o2, o3, o4, o5, o6, o7, o8, o9, o10, o11, o12, o13], _ => exact ⟨o1, o2, o3, o4, o5, o6, o7, o8, o9, o10, o11, o12, o13, rfl⟩
theorem br_joinT {G : VL.Env} {m : Sto} {c : Bool} {A : Prop} {R : SK} {rt : RK} {bk ct : SK} {ex : XS} (J : VL.Env → Sto → Prop) (hr : ∀ G' m', J G' m' → R G' m') (h1 : (∀ G' m', J G' m' → R G' m') → c = false → A) (h2 : c = true → J G m) : (c = true → vNext R rt bk ct ex G m) ∧ (c = false → A) := ⟨fun z => hr _ _ (h2 z), h1 hr⟩
theorem lay_frs : ∀ fl : List Fr, lays 59 (fl.map frU) = true
  | [] => by unfold lays; rfl
  | f :: fl => by
    rw [List.map_cons]
    unfold lays
    rw [lay_frs fl]
    unfold frU frT
    simp [lay, lays, lays_ints]
theorem lay_frl (fl : List Fr) : lay 60 (.lst (fl.map frU)) = true := by unfold lay; exact lay_frs fl
theorem lay_nn : lay 60 .non = true := by unfold lay; rfl
theorem NextOf.kind {fl : List Fr} {n : Int} {y : Tr} (h : NextOf fl n y) (hn : 0 ≤ n) : (∃ z : Int, y = .int z ∧ 0 ≤ z) ∨ y = .non := by
  rcases h with ⟨i, _, e, _⟩ | ⟨e, _⟩
  · exact .inl ⟨_, e, by omega⟩
  · exact .inr e
local macro_rules | `(tactic| walk_at "vl more") => `(tactic| first | (refine sp_neR (t := .lst (List.map frU _)) rfl rfl ?_ (lay_frl _)) | (refine sp_neR (t := .non) rfl rfl ?_ lay_nn))
def u_law : VS :=
  (vSeq (vFor (viR1 (vCB fMin (vaCons (vCB fMax (vaCons (vCB fLen (vaCons (vVar 0) vaNil)) (vaCons (vC (.int 3)) vaNil))) (vaCons (vC (.int 5)) vaNil)))) (vgName 1)
  (vMk A_law_store 2 (vaCons (vCall S_law_cell (vaCons (vVar 0) (vaCons (vVar 1) vaNil))) vaNil)
  (vSeq (vSet 3 (vCall S_law_frames (vaCons (vVar 2) vaNil)))
  (vSeq (vIfS (vtB (vOp fEqD (vVar 1) (vC (.int 0))))
  (vSet 3 (vCall S_law_long_frames (vaCons (vVar 2) (vaCons (vCB fLen (vaCons (vVar 3) vaNil)) vaNil))))
  vNext)
  (vSeq (vSet 4 (vCall S_law_copies (vaCons (vVar 3) vaNil)))
  (vSeq (vSet 5 (vOp fIdx (vVar 3) (vC (.int 0))))
  (vSeq (vSet 6 (vC (.int 0)))
  (vSeq (vFor (viR1 (vCB fLen (vaCons (vOp fIdx (vVar 5) (vC (.int 2))) vaNil))) (vgName 7)
  (vSet 6 (vOp fAdd (vOp fMul (vVar 6) (vOp fIdx (vVar 5) (vC (.int 0)))) (vCall S_law_take (vaCons (vVar 2) (vaCons (vOp fIdx (vVar 5) (vC (.int 0))) vaNil))))))
  (vSeq (vSet 8 (vLst (vaCons (vCall S_law_take (vaCons (vVar 2) (vaCons (vC (.int 60)) vaNil))) (vaCons (vVar 6) (vaCons (vCB fMax (vaCons (vC (.int 0)) (vaCons (vOp fSub (vCall S_law_many (vaCons (vVar 5) vaNil)) (vCall S_law_take (vaCons (vVar 2) (vaCons (vC (.int 1200)) vaNil)))) vaNil))) vaNil)))))
  (vSeq (vSet 9 (vCall S_law_next (vaCons (vVar 3) (vaCons (vOp fIdx (vVar 8) (vCall S_law_take (vaCons (vVar 2) (vaCons (vC (.int 3)) vaNil)))) vaNil))))
  (vSeq (vIfS (vtB (vOp fIsnt (vVar 9) (vC .non)))
  (vSet 8 (vOp fAdd (vVar 8) (vLst (vaCons (vCB fMax (vaCons (vC (.int 0)) (vaCons (vOp fAdd (vOp fSub (vVar 9) (vC (.int 1000))) (vCall S_law_take (vaCons (vVar 2) (vaCons (vC (.int 3)) vaNil)))) vaNil))) (vaCons (vVar 9) (vaCons (vOp fAdd (vVar 9) (vC (.int 1))) vaNil))))))
  vNext)
  (vSeq (vFor (viL (vOp fAdd (vVar 8) (vLst (vaCons (vOp fPow (vC (.int 10)) (vC (.int 25))) vaNil)))) (vgName 10)
  (vSeq (vSet 11 (vCall S_law_next (vaCons (vVar 3) (vaCons (vVar 10) vaNil))))
  (vFor (viR1 (vC (.int 2))) (vgName 12)
  (vSeq (vSet 13 (vCall S_next_keeping (vaCons (vVar 4) (vaCons (vVar 10) vaNil))))
  (vIfS (vtOr (vtB (vOp fNeD (vVar 13) (vVar 11))) (vtOr (vtB (vCB (fIsi "bool") (vaCons (vVar 13) (vaCons (vC (.ty "bool")) vaNil)))) (vtB (vOp fNeD (vVar 4) (vVar 3)))))
  (vRet (vC (.bl false)))
  vNext))))) vNext))))))))))))
  (vRet (vC (.bl true))))

theorem w_law : Meets 1 N_law S_law u_law 0 := by
  rintro ds k x hl ⟨ns, rfl, hn, hk⟩
  unfold u_law
  walk_at "vl"
  · refine fr_inv (fun i G m => (∃ r : VL.Env, r.length = 13 ∧ noHnd r = true ∧ G = some (.t (.scr ns)) :: r) ∧ m = []) ⟨⟨_, rfl, rfl, rfl⟩, rfl⟩ ?_ ?_
    · rintro i t G' m' e ⟨⟨r, hr1, hr2, rfl⟩, rfl⟩
      obtain ⟨hi, rfl⟩ := rng_get e
      obtain ⟨o1, o2, o3, o4, o5, o6, o7, o8, o9, o10, o11, o12, o13, rfl⟩ := len13 hr1
      have hi : i < 1000 := by omega
      walk_at "vl"
      unfold vMk
      walk_at "vl"
      · rename_i c
        refine ⟨⟨c, rfl⟩, rfl, (show noHnd [o2, o3, o4, o5, o6, o7, o8, o9, o10, o11, o12, o13] = true from noHnd_tail hr2), ?_⟩
        walk_at "vl"
        intro fl0 hf0
        walk_at "vl"
        refine br_joinN (fun G m => ∃ fl : List Fr, OkFs fl ∧ G = [some (.t (.scr ns)), some (.t (.int (0 + (i : Int)))), some (.hnd 0), some (.t (.lst (fl.map frU))), o4, o5, o6, o7, o8, o9, o10, o11, o12, o13] ∧ m = []) ?_ ?_ ?_
        · rintro G' m' ⟨fl, hf, rfl, rfl⟩
          obtain ⟨f0, fr, rfl⟩ : ∃ f0 fr, fl = f0 :: fr := by
            have := hf.l1
            cases fl with
            | nil => simp at this
            | cons a b => exact ⟨a, b, rfl⟩
          have hok : OkF f0.1 f0.2.1 f0.2.2 := hf.ok f0 List.mem_cons_self
          walk_at "vl"
          · intro t ht
            obtain ⟨f, hfm, rfl⟩ := List.mem_map.mp ht
            obtain ⟨b, ps, ws⟩ := f
            have hok : OkF b ps ws := hf.ok _ hfm
            have hb1 := hok.b1
            have hb2 := hok.b2
            have hwz : ws.length ≤ 24 := by have := hok.w1; have := hok.sum; omega
            have hpow := pow_pos' hb1 (L ps)
            unfold frU
            walk_at "vl"
            · refine fr_inv (fun j G m => ∃ (figures : Int) (o7 : Option Dv), 0 ≤ figures ∧ G = [some (.t (.scr ns)), some (.t (.int (0 + (i : Int)))), some (.hnd 0), some (.t (.lst ((f0 :: fr).map frU))), some (.t (.lst ((f0 :: fr).map frU))), some (.t (frT b ps ws)), some (.t (.int figures)), o7, o8, o9, o10, o11, o12, o13] ∧ m = []) ⟨0, _, Int.le_refl _, rfl, rfl⟩ ?_ ?_
              · rintro j t G' m' e ⟨figures, o7, hfg, rfl, rfl⟩
                obtain ⟨hj, rfl⟩ := rng_get e
                walk_at "vl"
                · rename_i dr dr1 dr2
                  exact ⟨_, _, Int.add_nonneg (Int.mul_nonneg hfg (by omega)) dr1, rfl, rfl⟩
                all_goals walk_at "vl fin"
              · rintro G' m' ⟨figures, o7, hfg, rfl, rfl⟩
                walk_at "vl"
                · rename_i q1 q1a q1b q2 q2a q2b q3 q3a q3b
                  intro t ht
                  obtain ⟨a, rfl, ha⟩ : ∃ a : Int, t = .int a ∧ 0 ≤ a := by
                    simp only [List.mem_cons, List.not_mem_nil, or_false] at ht
                    rcases ht with rfl | rfl | rfl <;> exact ⟨_, rfl, by omega⟩
                  walk_at "vl"
                  · intro y hy
                    walk_at "vl"
                    refine br_joinT (fun G m => ∃ (as : List Int) (o9 : Option Dv), as.length ≤ 10 ∧ (∀ a ∈ as, 0 ≤ a) ∧ G = [some (.t (.scr ns)), some (.t (.int (0 + (i : Int)))), some (.hnd 0), some (.t (.lst ((f0 :: fr).map frU))), some (.t (.lst ((f0 :: fr).map frU))), some (.t (frT b ps ws)), some (.t (.int figures)), o7, some (.t (.lst (as.map .int))), o9, o10, o11, o12, o13] ∧ m = []) ?_ ?_ ?_
                    · rintro G' m' ⟨as, o9, has, has2, rfl, rfl⟩
                      walk_at "vl"
                      · refine fr_inv (fun j G m => ∃ (o10 o11 o12 o13 : Option Dv), G = [some (.t (.scr ns)), some (.t (.int (0 + (i : Int)))), some (.hnd 0), some (.t (.lst ((f0 :: fr).map frU))), some (.t (.lst ((f0 :: fr).map frU))), some (.t (frT b ps ws)), some (.t (.int figures)), o7, some (.t (.lst (as.map .int))), o9, o10, o11, o12, o13] ∧ m = []) ⟨_, _, _, _, rfl, rfl⟩ ?_ ?_
                        · rintro j t G' m' e ⟨o10, o11, o12, o13, rfl, rfl⟩
                          obtain ⟨n, rfl, hnn⟩ := int_at e
                          have hn0 : 0 ≤ n := by
                            rcases List.mem_append.mp (mem_at hnn) with q | q
                            · exact has2 n q
                            · have : n = 10 ^ Int.toNat 25 := by simpa using q
                              rw [this]; decide
                          walk_at "vl"
                          · intro y2 hy2
                            walk_at "vl"
                            refine fr_inv (fun j G m => ∃ (o12 o13 : Option Dv), G = [some (.t (.scr ns)), some (.t (.int (0 + (i : Int)))), some (.hnd 0), some (.t (.lst ((f0 :: fr).map frU))), some (.t (.lst ((f0 :: fr).map frU))), some (.t (frT b ps ws)), some (.t (.int figures)), o7, some (.t (.lst (as.map .int))), o9, some (.t (.int n)), some (.t y2), o12, o13] ∧ m = []) ⟨_, _, rfl, rfl⟩ ?_ ?_
                            · rintro j2 t2 G' m' e2 ⟨o12, o13, rfl, rfl⟩
                              walk_at "vl"
                              · intro y3 hy3
                                have e3 : y3 = y2 := hy3.one hy2
                                subst e3
                                rcases hy2.kind hn0 with ⟨z, rfl, _⟩ | rfl
                                · walk_at "vl"
                                  exact ⟨_, _, rfl, rfl⟩
                                · walk_at "vl"
                                  exact ⟨_, _, rfl, rfl⟩
                              all_goals first | exact hf | exact hn0
                            · rintro G' m' ⟨o12, o13, rfl, rfl⟩
                              exact ⟨_, _, _, _, rfl, rfl⟩
                            all_goals omega
                          all_goals first | exact hf.ok | exact hn0
                        · rintro G' m' ⟨o10, o11, o12, o13, rfl, rfl⟩
                          walk_at "vl"
                          exact ⟨⟨_, by rw [noH_len]; rfl, noHnd_noH _, rfl⟩, rfl⟩
                      all_goals first | omega | decide
                    · intro hj2 c3
                      rcases hy.kind ha with ⟨z, rfl, hz0⟩ | rfl
                      · walk_at "vl1"
                        · rename_i q4 q4a q4b
                          refine hj2 _ _ ⟨[q1, figures, max 0 (b ^ L ps - q2), max 0 (z - 1000 + q4), z, z + 1], _, Nat.le_of_ble_eq_true rfl, fun w hw => ?_, rfl, rfl⟩
                          simp only [List.mem_cons, List.not_mem_nil, or_false] at hw
                          rcases hw with rfl | rfl | rfl | rfl | rfl | rfl <;> omega
                        all_goals first | decide | omega | exact sz (Nat.le_of_ble_eq_true rfl)
                      · cases c3
                    · intro c3
                      refine ⟨[q1, figures, max 0 (b ^ L ps - q2)], _, Nat.le_of_ble_eq_true rfl, fun w hw => ?_, rfl, rfl⟩
                      simp only [List.mem_cons, List.not_mem_nil, or_false] at hw
                      rcases hw with rfl | rfl | rfl <;> omega
                  all_goals first | exact hf.ok | exact ha
                all_goals first | omega | exact hok | (simp only [List.length_cons, List.length_nil]; omega)
            all_goals first | omega | (simp only [List.length_map]; omega) | (have hwz2 : (ws.map Tr.int).length = ws.length := List.length_map ..; omega) | (have hwz2 : (ws.map Tr.int).length = ws.length := List.length_map ..; show _ ≤ (((ws.map Tr.int).length : Nat) : Int); omega) | (have hwz2 : (ws.map Tr.int).length = ws.length := List.length_map ..; show (((ws.map Tr.int).length : Nat) : Int) < _; omega)
          all_goals first | omega | (simp only [List.length_map, List.length_cons]; omega) | exact hf | (have := hf.l2; omega)
        · intro hj c2
          walk_at "vl1"
          · intro fl hf
            walk_at "vl1"
            exact hj _ _ ⟨fl, hf, rfl, rfl⟩
          all_goals first | (have := hf0.l1; have := hf0.l2; rw [List.length_map]; omega) | omega
        · intro c2
          exact ⟨fl0, hf0, rfl, rfl⟩
      all_goals omega
    · rintro G' m' ⟨⟨r, hr1, hr2, rfl⟩, rfl⟩
      walk_at "vl"
      exact hk
  all_goals omega
def top (i : Nat) : Stmt := PySem.Challenge.pw_likehalves_k26_next_ones_that_keep_all.main.body.getD i (.Pass ⟨0, 0, 0, 0⟩)
abbrev st_is_whole : Stmt := top 11
theorem sc_is_whole : FnScope N_is_whole ["thing"] (defScope st_is_whole) := ⟨rfl, rfl, rfl, by decide +kernel, rfl, by decide +kernel, by decide +kernel⟩
abbrev st_is_weight : Stmt := top 12
theorem sc_is_weight : FnScope N_is_weight ["thing"] (defScope st_is_weight) := ⟨rfl, rfl, rfl, by decide +kernel, rfl, by decide +kernel, by decide +kernel⟩
abbrev st_are_parts : Stmt := top 13
theorem sc_are_parts : FnScope N_are_parts ["thing"] (defScope st_are_parts) := ⟨rfl, rfl, rfl, by decide +kernel, rfl, by decide +kernel, by decide +kernel⟩
abbrev st_is_frame : Stmt := top 14
theorem sc_is_frame : FnScope N_is_frame ["thing"] (defScope st_is_frame) := ⟨rfl, rfl, rfl, by decide +kernel, rfl, by decide +kernel, by decide +kernel⟩
abbrev st_need_from : Stmt := top 15
theorem sc_need_from : FnScope N_need_from ["thing", "least"] (defScope st_need_from) := ⟨rfl, rfl, rfl, by decide +kernel, rfl, by decide +kernel, by decide +kernel⟩
abbrev st_many_of : Stmt := top 16
theorem sc_many_of : FnScope N_many_of ["frame"] (defScope st_many_of) := ⟨rfl, rfl, rfl, by decide +kernel, rfl, by decide +kernel, by decide +kernel⟩
abbrev st_is_number : Stmt := top 17
theorem sc_is_number : FnScope N_is_number ["frame", "thing"] (defScope st_is_number) := ⟨rfl, rfl, rfl, by decide +kernel, rfl, by decide +kernel, by decide +kernel⟩
abbrev st_written : Stmt := top 18
theorem sc_written : FnScope N_written ["frame", "n"] (defScope st_written) := ⟨rfl, rfl, rfl, by decide +kernel, rfl, by decide +kernel, by decide +kernel⟩
abbrev st_cut : Stmt := top 19
theorem sc_cut : FnScope N_cut ["parts", "row"] (defScope st_cut) := ⟨rfl, rfl, rfl, by decide +kernel, rfl, by decide +kernel, by decide +kernel⟩
abbrev st_sums_of : Stmt := top 20
theorem sc_sums_of : FnScope N_sums_of ["frame", "n"] (defScope st_sums_of) := ⟨rfl, rfl, rfl, by decide +kernel, rfl, by decide +kernel, by decide +kernel⟩
abbrev st_need_frames : Stmt := top 24
theorem sc_need_frames : FnScope N_need_frames ["thing"] (defScope st_need_frames) := ⟨rfl, rfl, rfl, by decide +kernel, rfl, by decide +kernel, by decide +kernel⟩
abbrev st_keeps : Stmt := top 25
theorem sc_keeps : FnScope N_keeps ["frames", "thing"] (defScope st_keeps) := ⟨rfl, rfl, rfl, by decide +kernel, rfl, by decide +kernel, by decide +kernel⟩
abbrev st_next_keeping : Stmt := top 26
theorem sc_next_keeping : FnScope N_next_keeping ["frames", "n"] (defScope st_next_keeping) := ⟨rfl, rfl, rfl, by decide +kernel, rfl, by decide +kernel, by decide +kernel⟩
abbrev st_law_cell : Stmt := top 28
theorem sc_law_cell : FnScope N_law_cell ["script", "k"] (defScope st_law_cell) := ⟨rfl, rfl, rfl, by decide +kernel, rfl, by decide +kernel, by decide +kernel⟩
abbrev st_law_store : Stmt := top 29
theorem sc_law_store : FnScope N_law_store ["cell"] (defScope st_law_store) := ⟨rfl, rfl, rfl, by decide +kernel, rfl, by decide +kernel, by decide +kernel⟩
abbrev st_law_take : Stmt := top 30
theorem sc_law_take : FnScope N_law_take ["store", "many"] (defScope st_law_take) := ⟨rfl, rfl, rfl, by decide +kernel, rfl, by decide +kernel, by decide +kernel⟩
abbrev st_law_frame : Stmt := top 31
theorem sc_law_frame : FnScope N_law_frame ["store", "longest"] (defScope st_law_frame) := ⟨rfl, rfl, rfl, by decide +kernel, rfl, by decide +kernel, by decide +kernel⟩
abbrev st_law_many : Stmt := top 33
theorem sc_law_many : FnScope N_law_many ["frame"] (defScope st_law_many) := ⟨rfl, rfl, rfl, by decide +kernel, rfl, by decide +kernel, by decide +kernel⟩
abbrev st_law_figures : Stmt := top 34
theorem sc_law_figures : FnScope N_law_figures ["frame", "n"] (defScope st_law_figures) := ⟨rfl, rfl, rfl, by decide +kernel, rfl, by decide +kernel, by decide +kernel⟩
abbrev st_law_spread : Stmt := top 35
theorem sc_law_spread : FnScope N_law_spread ["frame", "n"] (defScope st_law_spread) := ⟨rfl, rfl, rfl, by decide +kernel, rfl, by decide +kernel, by decide +kernel⟩
abbrev st_law_frames : Stmt := top 36
theorem sc_law_frames : FnScope N_law_frames ["store"] (defScope st_law_frames) := ⟨rfl, rfl, rfl, by decide +kernel, rfl, by decide +kernel, by decide +kernel⟩
abbrev st_law_long_frames : Stmt := top 37
theorem sc_law_long_frames : FnScope N_law_long_frames ["store", "many"] (defScope st_law_long_frames) := ⟨rfl, rfl, rfl, by decide +kernel, rfl, by decide +kernel, by decide +kernel⟩
abbrev st_law_copies : Stmt := top 38
theorem sc_law_copies : FnScope N_law_copies ["frames"] (defScope st_law_copies) := ⟨rfl, rfl, rfl, by decide +kernel, rfl, by decide +kernel, by decide +kernel⟩
abbrev st_law_keeps : Stmt := top 39
theorem sc_law_keeps : FnScope N_law_keeps ["frames", "thing"] (defScope st_law_keeps) := ⟨rfl, rfl, rfl, by decide +kernel, rfl, by decide +kernel, by decide +kernel⟩
abbrev st_law_next : Stmt := top 40
theorem sc_law_next : FnScope N_law_next ["frames", "n"] (defScope st_law_next) := ⟨rfl, rfl, rfl, by decide +kernel, rfl, by decide +kernel, by decide +kernel⟩
abbrev st_law : Stmt := top 41
theorem sc_law : FnScope N_law ["script"] (defScope st_law) := ⟨rfl, rfl, rfl, by decide +kernel, rfl, by decide +kernel, by decide +kernel⟩
theorem iteb {c : Bool} {A B : Prop} (h1 : c = true → A) (h2 : c = false → B) : if c = true then A else B := by
  cases c with
  | true => rw [if_pos rfl]; exact h1 rfl
  | false => rw [if_neg Bool.false_ne_true]; exact h2 rfl
section
variable {P : Program} {w : World} {K : PySem.W.Frag} {mg : Str → Option Value} {base : Heap}
theorem ok_law_take {f : Addr} {fd : FuncData} (F : Fun K "_law_take" "_law_take" st_law_take f fd) : FnOk P w K mg base CX0 1 f fd ["store", "many"] (liftS K mg StoreZ 2 S_law_take) := by
  refine F.ok sc_law_take (fun vs H Q E h => h.1) (fun cdv A outer s H vs Q E hr h => ?_)
  obtain ⟨hl, Pm, R, ds, k, x, e0, e1, e2, r, rv, ⟨many, rfl, m1, m2, hk⟩, hq, he⟩ := h
  cases rv with
  | cons r1 rr => cases rr with
  | cons r2 rr2 =>
  cases rr2
  cases r1
  cases r2 with
  | t r2 =>
  cases r2
  obtain ⟨g, c, t, h1, hB⟩ := r.vol
  have nd := sc_law_take.nd
  refine ⟨_, pss_cons (ps_if (pt_cmpR op_gt (pe_ix ix_list (pv 0) pe_int (fun _ _ => rfl)) pe_int (nomark _))
      (pss_cons (ps_set (i := 2) nd rfl (Or.inl rfl) (pe_op op_mod (pe_ix ix_list (pv 0) pe_int (fun _ _ => rfl)) (pv 1)))
      (pss_cons (ps_asg (pe_op op_fdivW (pe_ix ix_list (pv 0) pe_int (fun _ _ => rfl)) (pv 1)) (pg_sub (pv 0) pe_int set_list (by intro _; rfl)))
      (pss_one (ps_ret (pv 2))))) pss_nil)
    (pss_cons (ps_asg (pe_op op_add (pe_ix ix_list (pv 0) pe_int (fun _ _ => rfl)) pe_int) (pg_sub (pv 0) pe_int set_list (by intro _; rfl)))
    (pss_cons (ps_set (i := 3) nd rfl (Or.inl rfl) (pe_op op_mod (pe_op op_mul (pe_op op_add (pe_ix ix_list (pv 0) pe_int (fun _ _ => rfl)) (pe_op op_mul pe_int (pe_ix ix_list (pv 0) pe_int (fun _ _ => rfl)))) pe_int) pe_int))
    (pss_cons (ps_set (i := 3) nd rfl (Or.inl rfl) (pe_op op_mod (pe_op op_mul (pv 3) (pv 3)) pe_int))
    (pss_cons (ps_set (i := 3) nd rfl (Or.inl rfl) (pe_op op_mod (pe_op op_mul (pe_op op_add (pv 3) (pe_op op_mul pe_int (pe_ix ix_list (pv 0) pe_int (fun _ _ => rfl)))) pe_int) pe_int))
    (pss_one (ps_ret (pe_op op_mod (pe_op op_fdivW (pv 3) pe_int) (pv 1)))))))), ?_⟩
  have hm : CDivW 0 many := cdw m1 m2
  have fin : ∀ (H0 : Hp) (g' c' t' : Int), (∀ a, a ≠ Pm.hd 0 → H0 a = H a) → H0 (Pm.hd 0) = some (.lst [.int g', .int c', .int t']) → ∀ v : Int, 0 ≤ v → v < many → Q (.int v) H0 := fun H0 g' c' t' q1 q2 v v1 v2 =>
    hq (.int v) _ R _ (hk v v1 v2) (take_step r (fun a ha => q1 a fun z => ha ((hB a).mpr z)) ⟨g', c', t', q2, hB⟩) (.int v)
  refine ⟨_, rfl, _, _, _, _, rfl, rfl, .of h1, rfl, _, _, rfl, rfl, _, rfl, ?_⟩
  refine iteb (fun c1 => ?_) fun c1 => ?_
  · refine ⟨_, rfl, _, _, _, _, rfl, rfl, .of h1, rfl, _, rfl, _, _, rfl, rfl, m1, ?_⟩
    refine ⟨_, rfl, _, _, _, _, rfl, rfl, .of h1, rfl, _, rfl, _, _, rfl, rfl, ⟨m1, hm.2⟩, _, rfl, _, _, _, _, rfl, rfl, h1, rfl, ?_⟩
    refine ⟨_, rfl, ?_⟩
    exact fin _ _ c t (fun a ha => upd_ne ha) upd_same _ (Int.emod_nonneg _ (by omega)) (Int.emod_lt_of_pos _ m1)
  · refine ⟨_, rfl, _, _, _, _, rfl, rfl, .of h1, rfl, _, _, rfl, rfl, _, rfl, _, _, _, _, rfl, rfl, h1, rfl, ?_⟩
    have h2 : ∀ (H : Hp) (o : HO), upd H (Pm.hd 0) o (Pm.hd 0) = some o := fun H o => upd_same
    refine ⟨_, rfl, _, _, _, _, rfl, rfl, .of (h2 _ _), rfl, _, rfl, _, _, _, _, rfl, rfl, .of (h2 _ _), rfl, _, _, rfl, rfl, .inl ⟨by decide, by decide⟩, _, _, rfl, rfl, _, _, rfl, rfl, .inr ⟨by decide, by decide⟩, _, _, rfl, rfl, (show (0 : Int) < 2147483647 by decide), ?_⟩
    have b1 := Int.emod_nonneg ((c + 7919 * (t + 1)) * 48271) (b := 2147483647) (by decide)
    have b2 := Int.emod_lt_of_pos ((c + 7919 * (t + 1)) * 48271) (b := 2147483647) (by decide)
    refine ⟨_, rfl, _, rfl, _, _, rfl, rfl, .inl ⟨by omega, by omega⟩, _, _, rfl, rfl, (show (0 : Int) < 2147483629 by decide), ?_⟩
    generalize (c + 7919 * (t + 1)) * 48271 % 2147483647 = n1 at b1 b2
    refine ⟨_, rfl, _, rfl, _, _, _, _, rfl, rfl, .of (h2 _ _), rfl, _, _, rfl, rfl, .inl ⟨by decide, by decide⟩, _, _, rfl, rfl, _, _, rfl, rfl, .inr ⟨by decide, by decide⟩, _, _, rfl, rfl, (show (0 : Int) < 2147483587 by decide), ?_⟩
    refine ⟨_, rfl, _, _, rfl, rfl, ⟨by decide, by decide +kernel⟩, _, rfl, _, _, rfl, rfl, m1, ?_⟩
    exact fin _ g c (t + 1) (fun a ha => upd_ne ha) (h2 _ _) _ (Int.emod_nonneg _ (by omega)) (Int.emod_lt_of_pos _ m1)
theorem ok_law_store {f : Addr} {fd : FuncData} (F : Fun K "_law_store" "_law_store" st_law_store f fd) : FnOk P w K mg base CX0 1 f fd ["cell"] (spMk K mg A_law_store StoreZ) := by
  refine F.ok sc_law_store (fun vs H Q E ⟨R, ds, _, rv, ⟨c, e⟩, _⟩ => by rw [Paired.length rv, e]; rfl) (fun cdv A outer s H vs Q E hr h => ?_)
  obtain ⟨Rk, ds, hRH, rv, ⟨c, rfl⟩, hq⟩ := h
  cases rv with
  | cons r1 rr =>
  cases rr
  cases r1 with
  | t r1 =>
  cases r1
  have nd := sc_law_store.nd
  refine ⟨_, pss_cons (ps_set (i := 1) nd rfl (Or.inl rfl) pe_int)
    (pss_cons (ps_if (pt_cmpR op_ge (pv 0) (pe_op op_pow pe_int pe_int) (nomark _)) (pss_one (ps_set (i := 1) nd rfl (Or.inl rfl) (pv 0))) pss_nil)
    (pss_one (ps_ret (pe_lst (pa_cons (pv 1) (pa_cons (pe_op op_mod (pv 0) pe_int) (pa_cons pe_int pa_nil))))))), ?_⟩
  have fin : ∀ g : Int, tRet (tLst (tCons (tVar 1) (tCons (tOp (rI (fun _ j => 0 < j) fun i j => .int (i % j)) (tVar 0) (tC (.int 2147483629))) (tCons (tC (.int 1)) tNil)))) { nx := fun _ H' => Q .non H', rt := Q } [some (.int c), some (.int g)] H := fun g => by
    refine ⟨_, rfl, _, rfl, _, _, rfl, rfl, (show (0 : Int) < 2147483629 by decide), ?_⟩
    refine ⟨by show 3 ≤ sizeLine; rw [sizeLine_eq]; decide, fun p hp => ?_⟩
    exact hq p _ (fun a => a = p) ⟨g, _, 1, upd_same, fun a => Iff.rfl⟩ (fun b hb => by rw [hb]; exact hp) (same_new hp)
  refine ⟨_, rfl, _, _, rfl, rfl, ⟨by decide, by decide, by decide⟩, _, _, rfl, rfl, _, rfl, ?_⟩
  refine iteb (fun c1 => ?_) fun c1 => fin 0
  exact ⟨_, rfl, fin c⟩
end

structure Txt (mg : Str → Option Value) : Prop where
  b_isinstance : mg "isinstance" = none
  b_int : mg "int" = none
  b_bool : mg "bool" = none
  b_abs : mg "abs" = none
  b_list : mg "list" = none
  b_len : mg "len" = none
  b_tuple : mg "tuple" = none
  b_sum : mg "sum" = none
  b_range : mg "range" = none
  b_zip : mg "zip" = none
  b_max : mg "max" = none
  b_min : mg "min" = none
  c_GREATEST_WEIGHT : ∃ t, mg "GREATEST_WEIGHT" = some (.int 9 t)
  c_FEWEST_PARTS : ∃ t, mg "FEWEST_PARTS" = some (.int 2 t)
  c_MOST_PARTS : ∃ t, mg "MOST_PARTS" = some (.int 4 t)
  c_LONGEST_PART : ∃ t, mg "LONGEST_PART" = some (.int 6 t)
  c_LEAST_BASE : ∃ t, mg "LEAST_BASE" = some (.int 2 t)
  c_MOST_BASE : ∃ t, mg "MOST_BASE" = some (.int 16 t)
  c_MOST_FRAMES : ∃ t, mg "MOST_FRAMES" = some (.int 3 t)
  c_MOST_AHEAD : ∃ t, mg "MOST_AHEAD" = some (.int 1000 t)
section
variable {P : Program} {w : World} {K : PySem.W.Frag} {mg : Str → Option Value} {base : Heap}
theorem ok_is_whole {f : Addr} {fd : FuncData} (Z : Rsc) (hz : Z.n0 = 0) (T : Txt mg) (F : Fun K "is_whole" "is_whole" st_is_whole f fd) : FnOk P w K mg base CX0 1 f fd ["thing"] (liftS K mg Z 1 S_is_whole) :=
  fun_S Z 0 F sc_is_whole (fun cdv A outer s H E hr =>
  (vs_one (vs_ret (v_and (v_isi "int" rfl T.b_isinstance (va_cons (v_var 0) (va_cons (v_ty rfl T.b_int (by decide +kernel)) va_nil))) (v_one (v_not (v_isi "bool" rfl T.b_isinstance (va_cons (v_var 0) (va_cons (v_ty rfl T.b_bool (by decide +kernel)) va_nil))))))))) w_is_whole
theorem ok_is_weight {f : Addr} {fd : FuncData} (Z : Rsc) (hz : Z.n0 = 0) (T : Txt mg) (F : Fun K "is_weight" "is_weight" st_is_weight f fd) (D_is_whole : ∀ Z : Rsc, Z.n0 = 0 → Df P w K mg base CX0 1 "is_whole" ["thing"] Z S_is_whole) : FnOk P w K mg base CX0 2 f fd ["thing"] (liftS K mg Z 1 S_is_weight) :=
  fun_S Z 0 F sc_is_weight (fun cdv A outer s H E hr =>
  (vs_one (vs_ret (v_and (v_callD (D_is_whole Z hz) rfl S_is_whole.len (hr.mono (by decide)) rfl pas0 (va_cons (v_var 0) va_nil)) (v_one (v_le (v_abs rfl T.b_abs (va_cons (v_var 0) va_nil)) (v_globI rfl T.c_GREATEST_WEIGHT))))))) w_is_weight
theorem ok_are_parts {f : Addr} {fd : FuncData} (Z : Rsc) (hz : Z.n0 = 0) (T : Txt mg) (F : Fun K "are_parts" "are_parts" st_are_parts f fd) (D_is_whole : ∀ Z : Rsc, Z.n0 = 0 → Df P w K mg base CX0 1 "is_whole" ["thing"] Z S_is_whole) : FnOk P w K mg base CX0 2 f fd ["thing"] (liftS K mg Z 1 S_are_parts) :=
  fun_S Z 0 F sc_are_parts (fun cdv A outer s H E hr =>
  (vs_cons (vs_if (PW.pt (vw_or (vt_not (vt_val (v_isi "list" rfl T.b_isinstance (va_cons (v_var 0) (va_cons (v_ty rfl T.b_list (by decide +kernel)) va_nil))))) (vw_or1 (vt_not (vt_chLL (v_globI rfl T.c_FEWEST_PARTS) (v_len rfl T.b_len (va_cons (v_var 0) va_nil)) (v_globI rfl T.c_MOST_PARTS))))))
  (vs_one (vs_ret v_bl))
  vs_nil)
  (vs_cons (vs_ret (v_eq hr (v_lc (W' := W0) rfl sc_are_parts.nd (vi_list (v_var 0)) (blkOk_by (own := [("one", 1)]) (N := N_are_parts) (sc := defScope st_are_parts) (by decide +kernel)) (fun _ _ _ _ _ => (vg_name (i := 1) (o := (some [1])) rfl sc_are_parts.nd rfl (by first | exact Or.inl rfl | exact Or.inr rfl))) (fun _ _ _ _ _ => vts_one (PW.pt (vw_or (vt_not (vt_val (v_callD (D_is_whole Z hz) rfl S_is_whole.len (hr.mono (by decide)) rfl pas0 (va_cons (v_var 1) va_nil)))) (vw_or1 (vt_not (vt_chLL v_int (v_var 1) (v_globI rfl T.c_LONGEST_PART))))))) (fun _ _ _ _ _ => (v_var 1))) (v_lst va_nil))) vs_nil))) w_are_parts
theorem ok_is_frame {f : Addr} {fd : FuncData} (Z : Rsc) (hz : Z.n0 = 0) (T : Txt mg) (F : Fun K "is_frame" "is_frame" st_is_frame f fd) (D_is_whole : ∀ Z : Rsc, Z.n0 = 0 → Df P w K mg base CX0 1 "is_whole" ["thing"] Z S_is_whole) (D_are_parts : ∀ Z : Rsc, Z.n0 = 0 → Df P w K mg base CX0 2 "are_parts" ["thing"] Z S_are_parts) (D_is_weight : ∀ Z : Rsc, Z.n0 = 0 → Df P w K mg base CX0 2 "is_weight" ["thing"] Z S_is_weight) : FnOk P w K mg base CX0 3 f fd ["thing"] (liftS K mg Z 1 S_is_frame) :=
  fun_S Z 0 F sc_is_frame (fun cdv A outer s H E hr =>
  (vs_cons (vs_if (PW.pt (vw_or (vt_not (vt_val (v_isi "tuple" rfl T.b_isinstance (va_cons (v_var 0) (va_cons (v_ty rfl T.b_tuple (by decide +kernel)) va_nil))))) (vw_or1 (vt_ne hr (v_len rfl T.b_len (va_cons (v_var 0) va_nil)) v_int))))
  (vs_one (vs_ret v_bl))
  vs_nil)
  (vs_cons (vs_asg (v_var 0) (vg_tup (n := 3) rfl (vgs_cons (vg_name (i := 1) (o := none) rfl sc_is_frame.nd rfl (by first | exact Or.inl rfl | exact Or.inr rfl)) (vgs_cons (vg_name (i := 2) (o := none) rfl sc_is_frame.nd rfl (by first | exact Or.inl rfl | exact Or.inr rfl)) (vgs_cons (vg_name (i := 3) (o := none) rfl sc_is_frame.nd rfl (by first | exact Or.inl rfl | exact Or.inr rfl)) vgs_nil)))))
  (vs_cons (vs_if (PW.pt (vw_or (vt_not (vt_val (v_callD (D_is_whole Z hz) rfl S_is_whole.len (hr.mono (by decide)) rfl pas0 (va_cons (v_var 1) va_nil)))) (vw_or (vt_not (vt_chLL (v_globI rfl T.c_LEAST_BASE) (v_var 1) (v_globI rfl T.c_MOST_BASE))) (vw_or1 (vt_not (vt_val (v_callD (D_are_parts Z hz) rfl S_are_parts.len (hr.mono (by decide)) rfl pas0 (va_cons (v_var 2) va_nil))))))))
  (vs_one (vs_ret v_bl))
  vs_nil)
  (vs_cons (vs_if (PW.pt (vw_or (vt_not (vt_val (v_isi "list" rfl T.b_isinstance (va_cons (v_var 3) (va_cons (v_ty rfl T.b_list (by decide +kernel)) va_nil))))) (vw_or1 (vt_ne hr (v_len rfl T.b_len (va_cons (v_var 3) va_nil)) (v_sum rfl rfl T.b_sum (va_cons (v_var 2) va_nil))))))
  (vs_one (vs_ret v_bl))
  vs_nil)
  (vs_cons (vs_ret (v_eq hr (v_lc (W' := W0) rfl sc_is_frame.nd (vi_list (v_var 3)) (blkOk_by (own := [("one", 4)]) (N := N_is_frame) (sc := defScope st_is_frame) (by decide +kernel)) (fun _ _ _ _ _ => (vg_name (i := 4) (o := (some [4])) rfl sc_is_frame.nd rfl (by first | exact Or.inl rfl | exact Or.inr rfl))) (fun _ _ _ _ _ => vts_one (vt_not (vt_val (v_callD (D_is_weight Z hz) rfl S_is_weight.len (hr.mono (by decide)) rfl pas0 (va_cons (v_var 4) va_nil))))) (fun _ _ _ _ _ => (v_var 4))) (v_lst va_nil))) vs_nil)))))) w_is_frame
theorem ok_need_from {f : Addr} {fd : FuncData} (Z : Rsc) (hz : Z.n0 = 0) (T : Txt mg) (F : Fun K "need_from" "need_from" st_need_from f fd) (D_is_whole : ∀ Z : Rsc, Z.n0 = 0 → Df P w K mg base CX0 1 "is_whole" ["thing"] Z S_is_whole) : FnOk P w K mg base CX0 2 f fd ["thing", "least"] (liftS K mg Z 2 S_need_from) :=
  fun_S Z 0 F sc_need_from (fun cdv A outer s H E hr =>
  (vs_one (vs_if (PW.pt (vw_or (vt_not (vt_val (v_callD (D_is_whole Z hz) rfl S_is_whole.len (hr.mono (by decide)) rfl pas0 (va_cons (v_var 0) va_nil)))) (vw_or1 (vt_lt (v_var 0) (v_var 1)))))
  (vs_one vs_never)
  vs_nil))) w_need_from
theorem ok_many_of {f : Addr} {fd : FuncData} (Z : Rsc) (hz : Z.n0 = 0) (T : Txt mg) (F : Fun K "many_of" "many_of" st_many_of f fd) : FnOk P w K mg base CX0 1 f fd ["frame"] (liftS K mg Z 1 S_many_of) :=
  fun_S Z 0 F sc_many_of (fun cdv A outer s H E hr =>
  (vs_cons (vs_set (i := 1) sc_many_of.nd rfl (by first | exact Or.inl rfl | exact Or.inr rfl) v_int)
  (vs_cons (vs_for PassesOwn.never rfl (vi_range1 rfl T.b_range (v_sum rfl rfl T.b_sum (va_cons (v_idx hr (v_var 0) v_int) va_nil))) (vg_name (i := 2) (o := none) rfl sc_many_of.nd rfl (by first | exact Or.inl rfl | exact Or.inr rfl))
  (vs_one (vs_set (i := 1) sc_many_of.nd rfl (by first | exact Or.inl rfl | exact Or.inr rfl) (v_mul (v_var 1) (v_idx hr (v_var 0) v_int)))))
  (vs_one (vs_ret (v_var 1)))))) w_many_of
theorem ok_is_number {f : Addr} {fd : FuncData} (Z : Rsc) (hz : Z.n0 = 0) (T : Txt mg) (F : Fun K "is_number" "is_number" st_is_number f fd) (D_is_whole : ∀ Z : Rsc, Z.n0 = 0 → Df P w K mg base CX0 1 "is_whole" ["thing"] Z S_is_whole) (D_many_of : ∀ Z : Rsc, Z.n0 = 0 → Df P w K mg base CX0 1 "many_of" ["frame"] Z S_many_of) : FnOk P w K mg base CX0 2 f fd ["frame", "thing"] (liftS K mg Z 2 S_is_number) :=
  fun_S Z 0 F sc_is_number (fun cdv A outer s H E hr =>
  (vs_one (vs_ret (v_and (v_callD (D_is_whole Z hz) rfl S_is_whole.len (hr.mono (by decide)) rfl pas0 (va_cons (v_var 1) va_nil)) (v_one (v_chLT v_int (v_var 1) (v_callD (D_many_of Z hz) rfl S_many_of.len (hr.mono (by decide)) rfl pas0 (va_cons (v_var 0) va_nil)))))))) w_is_number
theorem ok_written {f : Addr} {fd : FuncData} (Z : Rsc) (hz : Z.n0 = 0) (T : Txt mg) (F : Fun K "written" "written" st_written f fd) : FnOk P w K mg base CX0 1 f fd ["frame", "n"] (liftS K mg Z 2 S_written) :=
  fun_S Z 1 F sc_written (fun cdv A outer s H E hr =>
  (vs_cons (vs_newL (i := 2) (j := 0) sc_written.nd rfl (by first | exact Or.inl rfl | exact Or.inr rfl) va_nil)
  (vs_cons (vs_for PassesOwn.never rfl (vi_range1 rfl T.b_range (v_sum rfl rfl T.b_sum (va_cons (v_idx hr (v_var 0) v_int) va_nil))) (vg_name (i := 3) (o := none) rfl sc_written.nd rfl (by first | exact Or.inl rfl | exact Or.inr rfl))
  (vs_cons (vs_append (fun a b => pe_bm PySem.F.plainAttrs_list PySem.F.slot_list_append PySem.F.type_list_append mt_append a (pa_cons b pa_nil)) (v_var 2) (v_mod (v_var 1) (v_idx hr (v_var 0) v_int)))
  (vs_one (vs_set (i := 1) sc_written.nd rfl (by first | exact Or.inl rfl | exact Or.inr rfl) (v_div (v_var 1) (v_idx hr (v_var 0) v_int))))))
  (vs_one (vs_ret (v_rev (v_var 2))))))) w_written
theorem ok_cut {f : Addr} {fd : FuncData} (Z : Rsc) (hz : Z.n0 = 0) (T : Txt mg) (F : Fun K "cut" "cut" st_cut f fd) : FnOk P w K mg base CX0 1 f fd ["parts", "row"] (liftS K mg Z 2 S_cut) :=
  fun_S Z 1 F sc_cut (fun cdv A outer s H E hr =>
  (vs_cons (vs_newL (i := 2) (j := 0) sc_cut.nd rfl (by first | exact Or.inl rfl | exact Or.inr rfl) va_nil)
  (vs_cons (vs_set (i := 3) sc_cut.nd rfl (by first | exact Or.inl rfl | exact Or.inr rfl) v_int)
  (vs_cons (vs_for PassesOwn.never rfl (vi_list (v_var 0)) (vg_name (i := 4) (o := none) rfl sc_cut.nd rfl (by first | exact Or.inl rfl | exact Or.inr rfl))
  (vs_cons (vs_append (fun a b => pe_bm PySem.F.plainAttrs_list PySem.F.slot_list_append PySem.F.type_list_append mt_append a (pa_cons b pa_nil)) (v_var 2) (v_slc (v_var 1) (vo_some (v_var 3)) (vo_some (v_add (v_var 3) (v_var 4)))))
  (vs_one (vs_augAdd (i := 3) sc_cut.nd rfl (by first | exact Or.inl rfl | exact Or.inr rfl) (v_var 4)))))
  (vs_frz (j := 0) (n0_le hz) (vs_one (vs_ret (v_var 2)))))))) w_cut
theorem ok_sums_of {f : Addr} {fd : FuncData} (Z : Rsc) (hz : Z.n0 = 0) (T : Txt mg) (F : Fun K "sums_of" "sums_of" st_sums_of f fd) (D_written : ∀ Z : Rsc, Z.n0 = 0 → Df P w K mg base CX0 1 "written" ["frame", "n"] Z S_written) (D_cut : ∀ Z : Rsc, Z.n0 = 0 → Df P w K mg base CX0 1 "cut" ["parts", "row"] Z S_cut) : FnOk P w K mg base CX0 2 f fd ["frame", "n"] (liftS K mg Z 2 S_sums_of) :=
  fun_S Z 1 F sc_sums_of (fun cdv A outer s H E hr =>
  (vs_cons (vs_newL (i := 2) (j := 0) sc_sums_of.nd rfl (by first | exact Or.inl rfl | exact Or.inr rfl) va_nil)
  (vs_cons (vs_for PassesOwn.never rfl (vi_zip (fun a => pi_zip (by rfl) T.b_zip a) (v_callD (D_cut Z hz) rfl S_cut.len (hr.mono (by decide)) rfl pas0 (va_cons (v_idx hr (v_var 0) v_int) (va_cons (v_callD (D_written Z hz) rfl S_written.len (hr.mono (by decide)) rfl pas0 (va_cons (v_var 0) (va_cons (v_var 1) va_nil))) va_nil))) (v_callD (D_cut Z hz) rfl S_cut.len (hr.mono (by decide)) rfl pas0 (va_cons (v_idx hr (v_var 0) v_int) (va_cons (v_idx hr (v_var 0) v_int) va_nil)))) (vg_tup (n := 2) rfl (vgs_cons (vg_name (i := 3) (o := none) rfl sc_sums_of.nd rfl (by first | exact Or.inl rfl | exact Or.inr rfl)) (vgs_cons (vg_name (i := 4) (o := none) rfl sc_sums_of.nd rfl (by first | exact Or.inl rfl | exact Or.inr rfl)) vgs_nil)))
  (vs_one (vs_append (fun a b => pe_bm PySem.F.plainAttrs_list PySem.F.slot_list_append PySem.F.type_list_append mt_append a (pa_cons b pa_nil)) (v_var 2) (v_sum rfl rfl T.b_sum (va_cons (v_lc (W' := W0) rfl sc_sums_of.nd (vi_zip (fun a => pi_zip (by rfl) T.b_zip a) (v_var 3) (v_var 4)) (blkOk_by (own := [("figure", 5), ("weight", 6)]) (N := N_sums_of) (sc := defScope st_sums_of) (by decide +kernel)) (fun _ _ _ _ _ => (vg_tup (n := 2) rfl (vgs_cons (vg_name (i := 5) (o := (some [5, 6])) rfl sc_sums_of.nd rfl (by first | exact Or.inl rfl | exact Or.inr rfl)) (vgs_cons (vg_name (i := 6) (o := (some [5, 6])) rfl sc_sums_of.nd rfl (by first | exact Or.inl rfl | exact Or.inr rfl)) vgs_nil)))) (fun _ _ _ _ _ => vts_nil) (fun _ _ _ _ _ => (v_mul (v_var 5) (v_var 6)))) va_nil)))))
  (vs_frz (j := 0) (n0_le hz) (vs_one (vs_ret (v_var 2))))))) w_sums_of
theorem ok_need_frames {f : Addr} {fd : FuncData} (Z : Rsc) (hz : Z.n0 = 0) (T : Txt mg) (F : Fun K "need_frames" "need_frames" st_need_frames f fd) (D_is_frame : ∀ Z : Rsc, Z.n0 = 0 → Df P w K mg base CX0 3 "is_frame" ["thing"] Z S_is_frame) : FnOk P w K mg base CX0 4 f fd ["thing"] (liftS K mg Z 1 S_need_frames) :=
  fun_S Z 0 F sc_need_frames (fun cdv A outer s H E hr =>
  (vs_cons (vs_if (PW.pt (vw_or (vt_not (vt_val (v_isi "list" rfl T.b_isinstance (va_cons (v_var 0) (va_cons (v_ty rfl T.b_list (by decide +kernel)) va_nil))))) (vw_or1 (vt_not (vt_chLL v_int (v_len rfl T.b_len (va_cons (v_var 0) va_nil)) (v_globI rfl T.c_MOST_FRAMES))))))
  (vs_one vs_never)
  vs_nil)
  (vs_cons (vs_if (vt_ne hr (v_lc (W' := W0) rfl sc_need_frames.nd (vi_list (v_var 0)) (blkOk_by (own := [("frame", 1)]) (N := N_need_frames) (sc := defScope st_need_frames) (by decide +kernel)) (fun _ _ _ _ _ => (vg_name (i := 1) (o := (some [1])) rfl sc_need_frames.nd rfl (by first | exact Or.inl rfl | exact Or.inr rfl))) (fun _ _ _ _ _ => vts_one (vt_not (vt_val (v_callD (D_is_frame Z hz) rfl S_is_frame.len (hr.mono (by decide)) rfl pas0 (va_cons (v_var 1) va_nil))))) (fun _ _ _ _ _ => (v_var 1))) (v_lst va_nil))
  (vs_one vs_never)
  vs_nil) vs_nil))) w_need_frames
theorem ok_keeps {f : Addr} {fd : FuncData} (Z : Rsc) (hz : Z.n0 = 0) (T : Txt mg) (F : Fun K "keeps" "keeps" st_keeps f fd) (D_is_number : ∀ Z : Rsc, Z.n0 = 0 → Df P w K mg base CX0 2 "is_number" ["frame", "thing"] Z S_is_number) (D_sums_of : ∀ Z : Rsc, Z.n0 = 0 → Df P w K mg base CX0 2 "sums_of" ["frame", "n"] Z S_sums_of) : FnOk P w K mg base CX0 3 f fd ["frames", "thing"] (liftS K mg Z 2 S_keeps) :=
  fun_S Z 0 F sc_keeps (fun cdv A outer s H E hr =>
  (vs_cons (vs_for PassesOwn.never rfl (vi_list (v_var 0)) (vg_name (i := 2) (o := none) rfl sc_keeps.nd rfl (by first | exact Or.inl rfl | exact Or.inr rfl))
  (vs_cons (vs_if (vt_not (vt_val (v_callD (D_is_number Z hz) rfl S_is_number.len (hr.mono (by decide)) rfl pas0 (va_cons (v_var 2) (va_cons (v_var 1) va_nil)))))
  (vs_one (vs_ret v_bl))
  vs_nil)
  (vs_cons (vs_set (i := 3) sc_keeps.nd rfl (by first | exact Or.inl rfl | exact Or.inr rfl) (v_callD (D_sums_of Z hz) rfl S_sums_of.len (hr.mono (by decide)) rfl pas0 (va_cons (v_var 2) (va_cons (v_var 1) va_nil))))
  (vs_one (vs_if (vt_ne hr (v_max rfl rfl T.b_max (va_cons (v_var 3) va_nil)) (v_min rfl rfl T.b_min (va_cons (v_var 3) va_nil)))
  (vs_one (vs_ret v_bl))
  vs_nil)))))
  (vs_one (vs_ret v_bl)))) w_keeps
theorem ok_next_keeping {f : Addr} {fd : FuncData} (Z : Rsc) (hz : Z.n0 = 0) (T : Txt mg) (F : Fun K "next_keeping" "next_keeping" st_next_keeping f fd) (D_need_frames : ∀ Z : Rsc, Z.n0 = 0 → Df P w K mg base CX0 4 "need_frames" ["thing"] Z S_need_frames) (D_need_from : ∀ Z : Rsc, Z.n0 = 0 → Df P w K mg base CX0 2 "need_from" ["thing", "least"] Z S_need_from) (D_keeps : ∀ Z : Rsc, Z.n0 = 0 → Df P w K mg base CX0 3 "keeps" ["frames", "thing"] Z S_keeps) : FnOk P w K mg base CX0 5 f fd ["frames", "n"] (liftS K mg Z 2 S_next_keeping) :=
  fun_S Z 0 F sc_next_keeping (fun cdv A outer s H E hr =>
  (vs_cons (vs_expr (v_callD (D_need_frames Z hz) rfl S_need_frames.len (hr.mono (by decide)) rfl pas0 (va_cons (v_var 0) va_nil)))
  (vs_cons (vs_expr (v_callD (D_need_from Z hz) rfl S_need_from.len (hr.mono (by decide)) rfl pas0 (va_cons (v_var 1) (va_cons v_int va_nil))))
  (vs_cons (vs_for PassesOwn.never rfl (vi_range1 rfl T.b_range (v_globI rfl T.c_MOST_AHEAD)) (vg_name (i := 2) (o := none) rfl sc_next_keeping.nd rfl (by first | exact Or.inl rfl | exact Or.inr rfl))
  (vs_one (vs_if (vt_val (v_callD (D_keeps Z hz) rfl S_keeps.len (hr.mono (by decide)) rfl pas0 (va_cons (v_var 0) (va_cons (v_add (v_var 1) (v_var 2)) va_nil))))
  (vs_one (vs_ret (v_add (v_var 1) (v_var 2))))
  vs_nil)))
  (vs_one (vs_ret v_non)))))) w_next_keeping
theorem ok_law_cell {f : Addr} {fd : FuncData} (Z : Rsc) (hz : Z.n0 = 0) (T : Txt mg) (F : Fun K "_law_cell" "_law_cell" st_law_cell f fd) : FnOk P w K mg base CX0 1 f fd ["script", "k"] (liftS K mg Z 2 S_law_cell) :=
  fun_S Z 0 F sc_law_cell (fun cdv A outer s H E hr =>
  (vs_cons (vs_if (vt_lt (v_var 1) (v_len rfl T.b_len (va_cons (v_var 0) va_nil)))
  (vs_one (vs_ret (v_idx hr (v_var 0) (v_var 1))))
  vs_nil)
  (vs_cons (vs_ret (v_add (v_add (v_mul (v_mul v_int (v_var 1)) (v_var 1)) (v_mul v_int (v_var 1))) v_int)) vs_nil))) w_law_cell
theorem ok_law_frame {f : Addr} {fd : FuncData} (T : Txt mg) (F : Fun K "_law_frame" "_law_frame" st_law_frame f fd) (D_law_take : Df P w K mg base CX0 1 "_law_take" ["store", "many"] StoreZ S_law_take) : FnOk P w K mg base CX0 2 f fd ["store", "longest"] (liftS K mg StoreZ 2 S_law_frame) :=
  fun_S StoreZ 1 F sc_law_frame (fun cdv A outer s H E hr =>
  (vs_cons (vs_set (i := 2) sc_law_frame.nd rfl (by first | exact Or.inl rfl | exact Or.inr rfl) (v_idx hr (v_lst (va_cons v_int (va_cons v_int (va_cons v_int (va_cons v_int (va_cons (v_add v_int (v_callD D_law_take rfl S_law_take.len (hr.mono (by decide)) rfl pas0 (va_cons (v_var 0) (va_cons v_int va_nil)))) va_nil)))))) (v_callD D_law_take rfl S_law_take.len (hr.mono (by decide)) rfl pas0 (va_cons (v_var 0) (va_cons v_int va_nil)))))
  (vs_cons (vs_setLc (W' := W0) (i := 3) rfl sc_law_frame.nd rfl rfl (sw_true rfl rfl rfl (by decide +kernel)) (vi_range1 rfl T.b_range (v_idx hr (v_lst (va_cons v_int (va_cons v_int (va_cons v_int (va_cons v_int va_nil))))) (v_callD D_law_take rfl S_law_take.len (hr.mono (by decide)) rfl pas0 (va_cons (v_var 0) (va_cons v_int va_nil))))) (blkOk_by (own := [("k", 7)]) (N := N_law_frame) (sc := defScope st_law_frame) (by decide +kernel)) (fun _ _ _ _ _ => (vg_name (i := 7) (o := (some [7])) rfl sc_law_frame.nd rfl (by first | exact Or.inl rfl | exact Or.inr rfl))) (fun _ _ _ _ _ => vts_nil) (fun _ _ _ _ _ => (v_add v_int (v_callD D_law_take rfl S_law_take.len (hr.mono (by decide)) rfl pas0 (va_cons (v_var 0) (va_cons (v_var 1) va_nil))))))
  (vs_cons (vs_if (vt_eq hr (v_callD D_law_take rfl S_law_take.len (hr.mono (by decide)) rfl pas0 (va_cons (v_var 0) (va_cons v_int va_nil))) v_int)
  (vs_one (vs_set (i := 3) sc_law_frame.nd rfl (by first | exact Or.inl rfl | exact Or.inr rfl) (v_mul (v_slc (v_var 3) vo_none (vo_some v_int)) (v_len rfl T.b_len (va_cons (v_var 3) va_nil)))))
  vs_nil)
  (vs_cons (vs_set (i := 4) sc_law_frame.nd rfl (by first | exact Or.inl rfl | exact Or.inr rfl) (v_callD D_law_take rfl S_law_take.len (hr.mono (by decide)) rfl pas0 (va_cons (v_var 0) (va_cons v_int va_nil))))
  (vs_cons (vs_set (i := 5) sc_law_frame.nd rfl (by first | exact Or.inl rfl | exact Or.inr rfl) (v_sub (v_callD D_law_take rfl S_law_take.len (hr.mono (by decide)) rfl pas0 (va_cons (v_var 0) (va_cons v_int va_nil))) v_int))
  (vs_cons (vs_newL (i := 6) (j := 0) sc_law_frame.nd rfl (by first | exact Or.inl rfl | exact Or.inr rfl) va_nil)
  (vs_cons (vs_for PassesOwn.never rfl (vi_range1 rfl T.b_range (v_sum rfl rfl T.b_sum (va_cons (v_var 3) va_nil))) (vg_name (i := 7) (o := none) rfl sc_law_frame.nd rfl (by first | exact Or.inl rfl | exact Or.inr rfl))
  (vs_cons (vs_set (i := 8) sc_law_frame.nd rfl (by first | exact Or.inl rfl | exact Or.inr rfl) (v_sub (v_callD D_law_take rfl S_law_take.len (hr.mono (by decide)) rfl pas0 (va_cons (v_var 0) (va_cons v_int va_nil))) v_int))
  (vs_cons (vs_set (i := 9) sc_law_frame.nd rfl (by first | exact Or.inl rfl | exact Or.inr rfl) (v_lst (va_cons v_int (va_cons (v_var 5) (va_cons (v_mod (v_var 8) v_int) (va_cons (v_var 8) (va_cons (v_mul (v_var 8) (v_intc rfl T.b_int (va_cons (v_eq hr (v_callD D_law_take rfl S_law_take.len (hr.mono (by decide)) rfl pas0 (va_cons (v_var 0) (va_cons v_int va_nil))) v_int) va_nil))) (va_cons (v_add (v_mod (v_var 7) (v_idx hr (v_var 3) v_int)) v_int) va_nil))))))))
  (vs_one (vs_append (fun a b => pe_bm PySem.F.plainAttrs_list PySem.F.slot_list_append PySem.F.type_list_append mt_append a (pa_cons b pa_nil)) (v_var 6) (v_idx hr (v_var 9) (v_var 4)))))))
  (vs_frz (j := 0) (by decide) (vs_one (vs_ret (v_tup (va_cons (v_var 2) (va_cons (v_var 3) (va_cons (v_var 6) va_nil))))))))))))))) w_law_frame
theorem ok_law_many {f : Addr} {fd : FuncData} (Z : Rsc) (hz : Z.n0 = 0) (T : Txt mg) (F : Fun K "_law_many" "_law_many" st_law_many f fd) : FnOk P w K mg base CX0 1 f fd ["frame"] (liftS K mg Z 1 S_law_many) :=
  fun_S Z 0 F sc_law_many (fun cdv A outer s H E hr =>
  (vs_cons (vs_set (i := 1) sc_law_many.nd rfl (by first | exact Or.inl rfl | exact Or.inr rfl) v_int)
  (vs_cons (vs_for PassesOwn.never rfl (vi_range1 rfl T.b_range (v_len rfl T.b_len (va_cons (v_idx hr (v_var 0) v_int) va_nil))) (vg_name (i := 2) (o := none) rfl sc_law_many.nd rfl (by first | exact Or.inl rfl | exact Or.inr rfl))
  (vs_one (vs_set (i := 1) sc_law_many.nd rfl (by first | exact Or.inl rfl | exact Or.inr rfl) (v_mul (v_var 1) (v_idx hr (v_var 0) v_int)))))
  (vs_one (vs_ret (v_var 1)))))) w_law_many
theorem ok_law_figures {f : Addr} {fd : FuncData} (Z : Rsc) (hz : Z.n0 = 0) (T : Txt mg) (F : Fun K "_law_figures" "_law_figures" st_law_figures f fd) : FnOk P w K mg base CX0 1 f fd ["frame", "n"] (liftS K mg Z 2 S_law_figures) :=
  fun_S Z 1 F sc_law_figures (fun cdv A outer s H E hr =>
  (vs_cons (vs_newL (i := 2) (j := 0) sc_law_figures.nd rfl (by first | exact Or.inl rfl | exact Or.inr rfl) va_nil)
  (vs_cons (vs_for PassesOwn.never rfl (vi_range1 rfl T.b_range (v_len rfl T.b_len (va_cons (v_idx hr (v_var 0) v_int) va_nil))) (vg_name (i := 3) (o := none) rfl sc_law_figures.nd rfl (by first | exact Or.inl rfl | exact Or.inr rfl))
  (vs_cons (vs_append (fun a b => pe_bm PySem.F.plainAttrs_list PySem.F.slot_list_append PySem.F.type_list_append mt_append a (pa_cons b pa_nil)) (v_var 2) (v_mod (v_var 1) (v_idx hr (v_var 0) v_int)))
  (vs_one (vs_set (i := 1) sc_law_figures.nd rfl (by first | exact Or.inl rfl | exact Or.inr rfl) (v_div (v_var 1) (v_idx hr (v_var 0) v_int))))))
  (vs_one (vs_ret (v_rev (v_var 2))))))) w_law_figures
theorem ok_law_spread {f : Addr} {fd : FuncData} (Z : Rsc) (hz : Z.n0 = 0) (T : Txt mg) (F : Fun K "_law_spread" "_law_spread" st_law_spread f fd) (D_law_figures : ∀ Z : Rsc, Z.n0 = 0 → Df P w K mg base CX0 1 "_law_figures" ["frame", "n"] Z S_law_figures) : FnOk P w K mg base CX0 2 f fd ["frame", "n"] (liftS K mg Z 2 S_law_spread) :=
  fun_S Z 1 F sc_law_spread (fun cdv A outer s H E hr =>
  (vs_cons (vs_set (i := 2) sc_law_spread.nd rfl (by first | exact Or.inl rfl | exact Or.inr rfl) (v_callD (D_law_figures Z hz) rfl S_law_figures.len (hr.mono (by decide)) rfl pas0 (va_cons (v_var 0) (va_cons (v_var 1) va_nil))))
  (vs_cons (vs_set (i := 3) sc_law_spread.nd rfl (by first | exact Or.inl rfl | exact Or.inr rfl) v_int)
  (vs_cons (vs_newL (i := 4) (j := 0) sc_law_spread.nd rfl (by first | exact Or.inl rfl | exact Or.inr rfl) va_nil)
  (vs_cons (vs_for PassesOwn.never rfl (vi_list (v_idx hr (v_var 0) v_int)) (vg_name (i := 5) (o := none) rfl sc_law_spread.nd rfl (by first | exact Or.inl rfl | exact Or.inr rfl))
  (vs_cons (vs_append (fun a b => pe_bm PySem.F.plainAttrs_list PySem.F.slot_list_append PySem.F.type_list_append mt_append a (pa_cons b pa_nil)) (v_var 4) (v_sum rfl rfl T.b_sum (va_cons (v_lc (W' := W0) rfl sc_law_spread.nd (vi_range2 rfl T.b_range (v_var 3) (v_add (v_var 3) (v_var 5))) (blkOk_by (own := [("k", 6)]) (N := N_law_spread) (sc := defScope st_law_spread) (by decide +kernel)) (fun _ _ _ _ _ => (vg_name (i := 6) (o := (some [6])) rfl sc_law_spread.nd rfl (by first | exact Or.inl rfl | exact Or.inr rfl))) (fun _ _ _ _ _ => vts_nil) (fun _ _ _ _ _ => (v_mul (v_idx hr (v_var 2) (v_var 6)) (v_idx hr (v_idx hr (v_var 0) v_int) (v_var 6))))) va_nil)))
  (vs_one (vs_set (i := 3) sc_law_spread.nd rfl (by first | exact Or.inl rfl | exact Or.inr rfl) (v_add (v_var 3) (v_var 5))))))
  (vs_one (vs_ret (v_sub (v_max rfl rfl T.b_max (va_cons (v_var 4) va_nil)) (v_min rfl rfl T.b_min (va_cons (v_var 4) va_nil)))))))))) w_law_spread
theorem ok_law_frames {f : Addr} {fd : FuncData} (T : Txt mg) (F : Fun K "_law_frames" "_law_frames" st_law_frames f fd) (D_law_frame : Df P w K mg base CX0 2 "_law_frame" ["store", "longest"] StoreZ S_law_frame) (D_law_take : Df P w K mg base CX0 1 "_law_take" ["store", "many"] StoreZ S_law_take) : FnOk P w K mg base CX0 3 f fd ["store"] (liftS K mg StoreZ 1 S_law_frames) :=
  fun_S StoreZ 1 F sc_law_frames (fun cdv A outer s H E hr =>
  (vs_cons (vs_set (i := 1) sc_law_frames.nd rfl (by first | exact Or.inl rfl | exact Or.inr rfl) (v_callD D_law_frame rfl S_law_frame.len (hr.mono (by decide)) rfl pas0 (va_cons (v_var 0) (va_cons v_int va_nil))))
  (vs_cons (vs_newL (i := 2) (j := 0) sc_law_frames.nd rfl (by first | exact Or.inl rfl | exact Or.inr rfl) (va_cons (v_var 1) va_nil))
  (vs_cons (vs_for PassesOwn.never rfl (vi_range1 rfl T.b_range (v_callD D_law_take rfl S_law_take.len (hr.mono (by decide)) rfl pas0 (va_cons (v_var 0) (va_cons v_int va_nil)))) (vg_name (i := 3) (o := none) rfl sc_law_frames.nd rfl (by first | exact Or.inl rfl | exact Or.inr rfl))
  (vs_cons (vs_set (i := 4) sc_law_frames.nd rfl (by first | exact Or.inl rfl | exact Or.inr rfl) (v_callD D_law_frame rfl S_law_frame.len (hr.mono (by decide)) rfl pas0 (va_cons (v_var 0) (va_cons v_int va_nil))))
  (vs_one (vs_append (fun a b => pe_bm PySem.F.plainAttrs_list PySem.F.slot_list_append PySem.F.type_list_append mt_append a (pa_cons b pa_nil)) (v_var 2) (v_idx hr (v_lst (va_cons (v_var 4) (va_cons (v_tup (va_cons (v_idx hr (v_var 1) v_int) (va_cons (v_idx hr (v_var 4) v_int) (va_cons (v_idx hr (v_var 4) v_int) va_nil)))) (va_cons (v_var 1) va_nil)))) (v_callD D_law_take rfl S_law_take.len (hr.mono (by decide)) rfl pas0 (va_cons (v_var 0) (va_cons v_int va_nil))))))))
  (vs_frz (j := 0) (by decide) (vs_one (vs_ret (v_var 2)))))))) w_law_frames
theorem ok_law_long_frames {f : Addr} {fd : FuncData} (T : Txt mg) (F : Fun K "_law_long_frames" "_law_long_frames" st_law_long_frames f fd) (D_law_frame : Df P w K mg base CX0 2 "_law_frame" ["store", "longest"] StoreZ S_law_frame) (D_law_take : Df P w K mg base CX0 1 "_law_take" ["store", "many"] StoreZ S_law_take) : FnOk P w K mg base CX0 3 f fd ["store", "many"] (liftS K mg StoreZ 2 S_law_long_frames) :=
  fun_S StoreZ 1 F sc_law_long_frames (fun cdv A outer s H E hr =>
  (vs_cons (vs_set (i := 2) sc_law_long_frames.nd rfl (by first | exact Or.inl rfl | exact Or.inr rfl) (v_callD D_law_frame rfl S_law_frame.len (hr.mono (by decide)) rfl pas0 (va_cons (v_var 0) (va_cons v_int va_nil))))
  (vs_cons (vs_newL (i := 3) (j := 0) sc_law_long_frames.nd rfl (by first | exact Or.inl rfl | exact Or.inr rfl) (va_cons (v_var 2) va_nil))
  (vs_cons (vs_for PassesOwn.never rfl (vi_range1 rfl T.b_range (v_sub (v_var 1) v_int)) (vg_name (i := 4) (o := none) rfl sc_law_long_frames.nd rfl (by first | exact Or.inl rfl | exact Or.inr rfl))
  (vs_cons (vs_set (i := 5) sc_law_long_frames.nd rfl (by first | exact Or.inl rfl | exact Or.inr rfl) (v_callD D_law_frame rfl S_law_frame.len (hr.mono (by decide)) rfl pas0 (va_cons (v_var 0) (va_cons v_int va_nil))))
  (vs_cons (vs_set (i := 6) sc_law_long_frames.nd rfl (by first | exact Or.inl rfl | exact Or.inr rfl) (v_tup (va_cons (v_idx hr (v_var 2) v_int) (va_cons (v_rev (v_idx hr (v_var 2) v_int)) (va_cons (v_idx hr (v_var 2) v_int) va_nil)))))
  (vs_one (vs_append (fun a b => pe_bm PySem.F.plainAttrs_list PySem.F.slot_list_append PySem.F.type_list_append mt_append a (pa_cons b pa_nil)) (v_var 3) (v_idx hr (v_lst (va_cons (v_var 5) (va_cons (v_tup (va_cons (v_idx hr (v_var 2) v_int) (va_cons (v_idx hr (v_var 5) v_int) (va_cons (v_idx hr (v_var 5) v_int) va_nil)))) (va_cons (v_var 6) va_nil)))) (v_callD D_law_take rfl S_law_take.len (hr.mono (by decide)) rfl pas0 (va_cons (v_var 0) (va_cons v_int va_nil)))))))))
  (vs_frz (j := 0) (by decide) (vs_one (vs_ret (v_var 3)))))))) w_law_long_frames
theorem ok_law_copies {f : Addr} {fd : FuncData} (Z : Rsc) (hz : Z.n0 = 0) (T : Txt mg) (F : Fun K "_law_copies" "_law_copies" st_law_copies f fd) : FnOk P w K mg base CX0 1 f fd ["frames"] (liftS K mg Z 1 S_law_copies) :=
  fun_S Z 0 F sc_law_copies (fun cdv A outer s H E hr =>
  (vs_one (vs_ret (v_lc (W' := W0) rfl sc_law_copies.nd (vi_list (v_var 0)) (blkOk_by (own := [("base", 1), ("parts", 2), ("weights", 3)]) (N := N_law_copies) (sc := defScope st_law_copies) (by decide +kernel)) (fun _ _ _ _ _ => (vg_tup (n := 3) rfl (vgs_cons (vg_name (i := 1) (o := (some [1, 2, 3])) rfl sc_law_copies.nd rfl (by first | exact Or.inl rfl | exact Or.inr rfl)) (vgs_cons (vg_name (i := 2) (o := (some [1, 2, 3])) rfl sc_law_copies.nd rfl (by first | exact Or.inl rfl | exact Or.inr rfl)) (vgs_cons (vg_name (i := 3) (o := (some [1, 2, 3])) rfl sc_law_copies.nd rfl (by first | exact Or.inl rfl | exact Or.inr rfl)) vgs_nil))))) (fun _ _ _ _ _ => vts_nil) (fun _ _ _ _ _ => (v_tup (va_cons (v_var 1) (va_cons (v_listc rfl T.b_list (va_cons (v_var 2) va_nil)) (va_cons (v_listc rfl T.b_list (va_cons (v_var 3) va_nil)) va_nil))))))))) w_law_copies
theorem ok_law_keeps {f : Addr} {fd : FuncData} (Z : Rsc) (hz : Z.n0 = 0) (T : Txt mg) (F : Fun K "_law_keeps" "_law_keeps" st_law_keeps f fd) (D_law_many : ∀ Z : Rsc, Z.n0 = 0 → Df P w K mg base CX0 1 "_law_many" ["frame"] Z S_law_many) (D_law_spread : ∀ Z : Rsc, Z.n0 = 0 → Df P w K mg base CX0 2 "_law_spread" ["frame", "n"] Z S_law_spread) : FnOk P w K mg base CX0 3 f fd ["frames", "thing"] (liftS K mg Z 2 S_law_keeps) :=
  fun_S Z 0 F sc_law_keeps (fun cdv A outer s H E hr =>
  (vs_cons (vs_if (PW.pt (vw_or (vt_not (vt_val (v_isi "int" rfl T.b_isinstance (va_cons (v_var 1) (va_cons (v_ty rfl T.b_int (by decide +kernel)) va_nil))))) (vw_or (vt_val (v_isi "bool" rfl T.b_isinstance (va_cons (v_var 1) (va_cons (v_ty rfl T.b_bool (by decide +kernel)) va_nil)))) (vw_or1 (vt_lt (v_var 1) v_int)))))
  (vs_one (vs_ret v_bl))
  vs_nil)
  (vs_cons (vs_for PassesOwn.never rfl (vi_list (v_var 0)) (vg_name (i := 2) (o := none) rfl sc_law_keeps.nd rfl (by first | exact Or.inl rfl | exact Or.inr rfl))
  (vs_one (vs_if (PW.pt (vw_or (vt_ge (v_var 1) (v_callD (D_law_many Z hz) rfl S_law_many.len (hr.mono (by decide)) rfl pas0 (va_cons (v_var 2) va_nil))) (vw_or1 (vt_ne hr (v_callD (D_law_spread Z hz) rfl S_law_spread.len (hr.mono (by decide)) rfl pas0 (va_cons (v_var 2) (va_cons (v_var 1) va_nil))) v_int))))
  (vs_one (vs_ret v_bl))
  vs_nil)))
  (vs_one (vs_ret v_bl))))) w_law_keeps
theorem ok_law_next {f : Addr} {fd : FuncData} (Z : Rsc) (hz : Z.n0 = 0) (T : Txt mg) (F : Fun K "_law_next" "_law_next" st_law_next f fd) (D_law_keeps : ∀ Z : Rsc, Z.n0 = 0 → Df P w K mg base CX0 3 "_law_keeps" ["frames", "thing"] Z S_law_keeps) : FnOk P w K mg base CX0 4 f fd ["frames", "n"] (liftS K mg Z 2 S_law_next) :=
  fun_S Z 0 F sc_law_next (fun cdv A outer s H E hr =>
  (vs_cons (vs_for PassesOwn.never rfl (vi_range1 rfl T.b_range v_int) (vg_name (i := 2) (o := none) rfl sc_law_next.nd rfl (by first | exact Or.inl rfl | exact Or.inr rfl))
  (vs_one (vs_if (vt_val (v_callD (D_law_keeps Z hz) rfl S_law_keeps.len (hr.mono (by decide)) rfl pas0 (va_cons (v_var 0) (va_cons (v_add (v_var 1) (v_var 2)) va_nil))))
  (vs_one (vs_ret (v_add (v_var 1) (v_var 2))))
  vs_nil)))
  (vs_one (vs_ret v_non)))) w_law_next
theorem ok_law {f : Addr} {fd : FuncData} (T : Txt mg) (F : Fun K "law" "law" st_law f fd) (D_law_store : Mk P w K mg base 1 "_law_store" ["cell"] (spMk K mg A_law_store StoreZ)) (D_law_cell : ∀ Z : Rsc, Z.n0 = 0 → Df P w K mg base CX0 1 "_law_cell" ["script", "k"] Z S_law_cell) (D_law_frames : Df P w K mg base CX0 3 "_law_frames" ["store"] StoreZ S_law_frames) (D_law_long_frames : Df P w K mg base CX0 3 "_law_long_frames" ["store", "many"] StoreZ S_law_long_frames) (D_law_copies : ∀ Z : Rsc, Z.n0 = 0 → Df P w K mg base CX0 1 "_law_copies" ["frames"] Z S_law_copies) (D_law_take : Df P w K mg base CX0 1 "_law_take" ["store", "many"] StoreZ S_law_take) (D_law_many : ∀ Z : Rsc, Z.n0 = 0 → Df P w K mg base CX0 1 "_law_many" ["frame"] Z S_law_many) (D_law_next : ∀ Z : Rsc, Z.n0 = 0 → Df P w K mg base CX0 4 "_law_next" ["frames", "n"] Z S_law_next) (D_next_keeping : ∀ Z : Rsc, Z.n0 = 0 → Df P w K mg base CX0 5 "next_keeping" ["frames", "n"] Z S_next_keeping) : FnOk P w K mg base CX0 6 f fd ["script"] (liftS K mg Z0 1 S_law) :=
  fun_S Z0 0 F sc_law (fun cdv A outer s H E hr =>
  (vs_cons (vs_for PassesOwn.never rfl (vi_range1 rfl T.b_range (v_min rfl rfl T.b_min (va_cons (v_max rfl rfl T.b_max (va_cons (v_len rfl T.b_len (va_cons (v_var 0) va_nil)) (va_cons v_int va_nil))) (va_cons v_int va_nil)))) (vg_name (i := 1) (o := none) rfl sc_law.nd rfl (by first | exact Or.inl rfl | exact Or.inr rfl))
  (vs_mk D_law_store A_law_store.only rfl (hr.mono (by decide)) rfl sc_law.nd rfl (by first | exact Or.inl rfl | exact Or.inr rfl) (va_cons (v_callD (D_law_cell Z0 rfl) rfl S_law_cell.len (hr.mono (by decide)) rfl pas0 (va_cons (v_var 0) (va_cons (v_var 1) va_nil))) va_nil)
  (vs_cons (vs_set (i := 3) sc_law.nd rfl (by first | exact Or.inl rfl | exact Or.inr rfl) (v_callD D_law_frames rfl S_law_frames.len (hr.mono (by decide)) rfl pas0 (va_cons (v_var 2) va_nil)))
  (vs_cons (vs_if (vt_eq hr (v_var 1) v_int)
  (vs_one (vs_set (i := 3) sc_law.nd rfl (by first | exact Or.inl rfl | exact Or.inr rfl) (v_callD D_law_long_frames rfl S_law_long_frames.len (hr.mono (by decide)) rfl pas0 (va_cons (v_var 2) (va_cons (v_len rfl T.b_len (va_cons (v_var 3) va_nil)) va_nil)))))
  vs_nil)
  (vs_cons (vs_set (i := 4) sc_law.nd rfl (by first | exact Or.inl rfl | exact Or.inr rfl) (v_callD (D_law_copies StoreZ rfl) rfl S_law_copies.len (hr.mono (by decide)) rfl pas0 (va_cons (v_var 3) va_nil)))
  (vs_cons (vs_set (i := 5) sc_law.nd rfl (by first | exact Or.inl rfl | exact Or.inr rfl) (v_idx hr (v_var 3) v_int))
  (vs_cons (vs_set (i := 6) sc_law.nd rfl (by first | exact Or.inl rfl | exact Or.inr rfl) v_int)
  (vs_cons (vs_for PassesOwn.never rfl (vi_range1 rfl T.b_range (v_len rfl T.b_len (va_cons (v_idx hr (v_var 5) v_int) va_nil))) (vg_name (i := 7) (o := none) rfl sc_law.nd rfl (by first | exact Or.inl rfl | exact Or.inr rfl))
  (vs_one (vs_set (i := 6) sc_law.nd rfl (by first | exact Or.inl rfl | exact Or.inr rfl) (v_add (v_mul (v_var 6) (v_idx hr (v_var 5) v_int)) (v_callD D_law_take rfl S_law_take.len (hr.mono (by decide)) rfl pas0 (va_cons (v_var 2) (va_cons (v_idx hr (v_var 5) v_int) va_nil)))))))
  (vs_cons (vs_set (i := 8) sc_law.nd rfl (by first | exact Or.inl rfl | exact Or.inr rfl) (v_lst (va_cons (v_callD D_law_take rfl S_law_take.len (hr.mono (by decide)) rfl pas0 (va_cons (v_var 2) (va_cons v_int va_nil))) (va_cons (v_var 6) (va_cons (v_max rfl rfl T.b_max (va_cons v_int (va_cons (v_sub (v_callD (D_law_many StoreZ rfl) rfl S_law_many.len (hr.mono (by decide)) rfl pas0 (va_cons (v_var 5) va_nil)) (v_callD D_law_take rfl S_law_take.len (hr.mono (by decide)) rfl pas0 (va_cons (v_var 2) (va_cons v_int va_nil)))) va_nil))) va_nil)))))
  (vs_cons (vs_set (i := 9) sc_law.nd rfl (by first | exact Or.inl rfl | exact Or.inr rfl) (v_callD (D_law_next StoreZ rfl) rfl S_law_next.len (hr.mono (by decide)) rfl pas0 (va_cons (v_var 3) (va_cons (v_idx hr (v_var 8) (v_callD D_law_take rfl S_law_take.len (hr.mono (by decide)) rfl pas0 (va_cons (v_var 2) (va_cons v_int va_nil)))) va_nil))))
  (vs_cons (vs_if (vt_isnot (v_var 9) v_non)
  (vs_one (vs_set (i := 8) sc_law.nd rfl (by first | exact Or.inl rfl | exact Or.inr rfl) (v_add (v_var 8) (v_lst (va_cons (v_max rfl rfl T.b_max (va_cons v_int (va_cons (v_add (v_sub (v_var 9) v_int) (v_callD D_law_take rfl S_law_take.len (hr.mono (by decide)) rfl pas0 (va_cons (v_var 2) (va_cons v_int va_nil)))) va_nil))) (va_cons (v_var 9) (va_cons (v_add (v_var 9) v_int) va_nil)))))))
  vs_nil)
  (vs_cons (vs_for PassesOwn.never rfl (vi_list (v_add (v_var 8) (v_lst (va_cons (v_pow v_int v_int) va_nil)))) (vg_name (i := 10) (o := none) rfl sc_law.nd rfl (by first | exact Or.inl rfl | exact Or.inr rfl))
  (vs_cons (vs_set (i := 11) sc_law.nd rfl (by first | exact Or.inl rfl | exact Or.inr rfl) (v_callD (D_law_next StoreZ rfl) rfl S_law_next.len (hr.mono (by decide)) rfl pas0 (va_cons (v_var 3) (va_cons (v_var 10) va_nil))))
  (vs_one (vs_for PassesOwn.never rfl (vi_range1 rfl T.b_range v_int) (vg_name (i := 12) (o := none) rfl sc_law.nd rfl (by first | exact Or.inl rfl | exact Or.inr rfl))
  (vs_cons (vs_set (i := 13) sc_law.nd rfl (by first | exact Or.inl rfl | exact Or.inr rfl) (v_callD (D_next_keeping StoreZ rfl) rfl S_next_keeping.len (hr.mono (by decide)) rfl pas0 (va_cons (v_var 4) (va_cons (v_var 10) va_nil))))
  (vs_one (vs_if (PW.pt (vw_or (vt_ne hr (v_var 13) (v_var 11)) (vw_or (vt_val (v_isi "bool" rfl T.b_isinstance (va_cons (v_var 13) (va_cons (v_ty rfl T.b_bool (by decide +kernel)) va_nil)))) (vw_or1 (vt_ne hr (v_var 4) (v_var 3))))))
  (vs_one (vs_ret v_bl))
  vs_nil))))))) vs_nil))))))))))))
  (vs_one (vs_ret v_bl)))) w_law
end
theorem all_mk {l : PySem.W.OpenLaw} {w : World} {K : PySem.W.Frag} {h : Heap} {mg : Str → Option Value} {fa : Addr} (X : K.In h) (G : h.Ns mainGlobals mg) (hfa : mg "law" = some (.ref fa))
    {f0 : Addr} {od0 an0 : Option Addr} {sl0 : Array (Option Value)} {oc0 kV0 dc0 pm0 cd0 ct0 : Value}
    {f1 : Addr} {od1 an1 : Option Addr} {sl1 : Array (Option Value)} {oc1 kV1 dc1 pm1 cd1 ct1 : Value}
    {f2 : Addr} {od2 an2 : Option Addr} {sl2 : Array (Option Value)} {oc2 kV2 dc2 pm2 cd2 ct2 : Value}
    {f3 : Addr} {od3 an3 : Option Addr} {sl3 : Array (Option Value)} {oc3 kV3 dc3 pm3 cd3 ct3 : Value}
    {f4 : Addr} {od4 an4 : Option Addr} {sl4 : Array (Option Value)} {oc4 kV4 dc4 pm4 cd4 ct4 : Value}
    {f5 : Addr} {od5 an5 : Option Addr} {sl5 : Array (Option Value)} {oc5 kV5 dc5 pm5 cd5 ct5 : Value}
    {f6 : Addr} {od6 an6 : Option Addr} {sl6 : Array (Option Value)} {oc6 kV6 dc6 pm6 cd6 ct6 : Value}
    {f7 : Addr} {od7 an7 : Option Addr} {sl7 : Array (Option Value)} {oc7 kV7 dc7 pm7 cd7 ct7 : Value}
    {f8 : Addr} {od8 an8 : Option Addr} {sl8 : Array (Option Value)} {oc8 kV8 dc8 pm8 cd8 ct8 : Value}
    {f9 : Addr} {od9 an9 : Option Addr} {sl9 : Array (Option Value)} {oc9 kV9 dc9 pm9 cd9 ct9 : Value}
    {f10 : Addr} {od10 an10 : Option Addr} {sl10 : Array (Option Value)} {oc10 kV10 dc10 pm10 cd10 ct10 : Value}
    {f11 : Addr} {od11 an11 : Option Addr} {sl11 : Array (Option Value)} {oc11 kV11 dc11 pm11 cd11 ct11 : Value}
    {f12 : Addr} {od12 an12 : Option Addr} {sl12 : Array (Option Value)} {oc12 kV12 dc12 pm12 cd12 ct12 : Value}
    {f13 : Addr} {od13 an13 : Option Addr} {sl13 : Array (Option Value)} {oc13 kV13 dc13 pm13 cd13 ct13 : Value}
    {f14 : Addr} {od14 an14 : Option Addr} {sl14 : Array (Option Value)} {oc14 kV14 dc14 pm14 cd14 ct14 : Value}
    {f15 : Addr} {od15 an15 : Option Addr} {sl15 : Array (Option Value)} {oc15 kV15 dc15 pm15 cd15 ct15 : Value}
    {f16 : Addr} {od16 an16 : Option Addr} {sl16 : Array (Option Value)} {oc16 kV16 dc16 pm16 cd16 ct16 : Value}
    {f17 : Addr} {od17 an17 : Option Addr} {sl17 : Array (Option Value)} {oc17 kV17 dc17 pm17 cd17 ct17 : Value}
    {f18 : Addr} {od18 an18 : Option Addr} {sl18 : Array (Option Value)} {oc18 kV18 dc18 pm18 cd18 ct18 : Value}
    {f19 : Addr} {od19 an19 : Option Addr} {sl19 : Array (Option Value)} {oc19 kV19 dc19 pm19 cd19 ct19 : Value}
    {f20 : Addr} {od20 an20 : Option Addr} {sl20 : Array (Option Value)} {oc20 kV20 dc20 pm20 cd20 ct20 : Value}
    {f21 : Addr} {od21 an21 : Option Addr} {sl21 : Array (Option Value)} {oc21 kV21 dc21 pm21 cd21 ct21 : Value}
    {f22 : Addr} {od22 an22 : Option Addr} {sl22 : Array (Option Value)} {oc22 kV22 dc22 pm22 cd22 ct22 : Value}
    {f23 : Addr} {od23 an23 : Option Addr} {sl23 : Array (Option Value)} {oc23 kV23 dc23 pm23 cd23 ct23 : Value}
    {f24 : Addr} {od24 an24 : Option Addr} {sl24 : Array (Option Value)} {oc24 kV24 dc24 pm24 cd24 ct24 : Value}
    {f25 : Addr} {od25 an25 : Option Addr} {sl25 : Array (Option Value)} {oc25 kV25 dc25 pm25 cd25 ct25 : Value}
    {tk0 : Tok}
    {tk1 : Tok}
    {tk2 : Tok}
    {tk3 : Tok}
    {tk4 : Tok}
    {tk5 : Tok}
    {tk6 : Tok}
    {tk7 : Tok}
    (a0 : PySem.W.nsIn K mainGlobals "is_whole" = some (some (.ref f0))) (l0 : K.lookup f0 = some ⟨oc0, od0, .func (PySem.W.fnOf "is_whole" "is_whole" (defArgs st_is_whole) (defBody st_is_whole) (defScope st_is_whole) .none kV0 dc0 pm0 an0 cd0 ct0), sl0⟩) (c0 : PySem.W.codeIn K cd0 "is_whole" = true) (k0 : PySem.W.keepIn K (.ref f0) = true)
    (a1 : PySem.W.nsIn K mainGlobals "is_weight" = some (some (.ref f1))) (l1 : K.lookup f1 = some ⟨oc1, od1, .func (PySem.W.fnOf "is_weight" "is_weight" (defArgs st_is_weight) (defBody st_is_weight) (defScope st_is_weight) .none kV1 dc1 pm1 an1 cd1 ct1), sl1⟩) (c1 : PySem.W.codeIn K cd1 "is_weight" = true) (k1 : PySem.W.keepIn K (.ref f1) = true)
    (a2 : PySem.W.nsIn K mainGlobals "are_parts" = some (some (.ref f2))) (l2 : K.lookup f2 = some ⟨oc2, od2, .func (PySem.W.fnOf "are_parts" "are_parts" (defArgs st_are_parts) (defBody st_are_parts) (defScope st_are_parts) .none kV2 dc2 pm2 an2 cd2 ct2), sl2⟩) (c2 : PySem.W.codeIn K cd2 "are_parts" = true) (k2 : PySem.W.keepIn K (.ref f2) = true)
    (a3 : PySem.W.nsIn K mainGlobals "is_frame" = some (some (.ref f3))) (l3 : K.lookup f3 = some ⟨oc3, od3, .func (PySem.W.fnOf "is_frame" "is_frame" (defArgs st_is_frame) (defBody st_is_frame) (defScope st_is_frame) .none kV3 dc3 pm3 an3 cd3 ct3), sl3⟩) (c3 : PySem.W.codeIn K cd3 "is_frame" = true) (k3 : PySem.W.keepIn K (.ref f3) = true)
    (a4 : PySem.W.nsIn K mainGlobals "need_from" = some (some (.ref f4))) (l4 : K.lookup f4 = some ⟨oc4, od4, .func (PySem.W.fnOf "need_from" "need_from" (defArgs st_need_from) (defBody st_need_from) (defScope st_need_from) .none kV4 dc4 pm4 an4 cd4 ct4), sl4⟩) (c4 : PySem.W.codeIn K cd4 "need_from" = true) (k4 : PySem.W.keepIn K (.ref f4) = true)
    (a5 : PySem.W.nsIn K mainGlobals "many_of" = some (some (.ref f5))) (l5 : K.lookup f5 = some ⟨oc5, od5, .func (PySem.W.fnOf "many_of" "many_of" (defArgs st_many_of) (defBody st_many_of) (defScope st_many_of) .none kV5 dc5 pm5 an5 cd5 ct5), sl5⟩) (c5 : PySem.W.codeIn K cd5 "many_of" = true) (k5 : PySem.W.keepIn K (.ref f5) = true)
    (a6 : PySem.W.nsIn K mainGlobals "is_number" = some (some (.ref f6))) (l6 : K.lookup f6 = some ⟨oc6, od6, .func (PySem.W.fnOf "is_number" "is_number" (defArgs st_is_number) (defBody st_is_number) (defScope st_is_number) .none kV6 dc6 pm6 an6 cd6 ct6), sl6⟩) (c6 : PySem.W.codeIn K cd6 "is_number" = true) (k6 : PySem.W.keepIn K (.ref f6) = true)
    (a7 : PySem.W.nsIn K mainGlobals "written" = some (some (.ref f7))) (l7 : K.lookup f7 = some ⟨oc7, od7, .func (PySem.W.fnOf "written" "written" (defArgs st_written) (defBody st_written) (defScope st_written) .none kV7 dc7 pm7 an7 cd7 ct7), sl7⟩) (c7 : PySem.W.codeIn K cd7 "written" = true) (k7 : PySem.W.keepIn K (.ref f7) = true)
    (a8 : PySem.W.nsIn K mainGlobals "cut" = some (some (.ref f8))) (l8 : K.lookup f8 = some ⟨oc8, od8, .func (PySem.W.fnOf "cut" "cut" (defArgs st_cut) (defBody st_cut) (defScope st_cut) .none kV8 dc8 pm8 an8 cd8 ct8), sl8⟩) (c8 : PySem.W.codeIn K cd8 "cut" = true) (k8 : PySem.W.keepIn K (.ref f8) = true)
    (a9 : PySem.W.nsIn K mainGlobals "sums_of" = some (some (.ref f9))) (l9 : K.lookup f9 = some ⟨oc9, od9, .func (PySem.W.fnOf "sums_of" "sums_of" (defArgs st_sums_of) (defBody st_sums_of) (defScope st_sums_of) .none kV9 dc9 pm9 an9 cd9 ct9), sl9⟩) (c9 : PySem.W.codeIn K cd9 "sums_of" = true) (k9 : PySem.W.keepIn K (.ref f9) = true)
    (a10 : PySem.W.nsIn K mainGlobals "need_frames" = some (some (.ref f10))) (l10 : K.lookup f10 = some ⟨oc10, od10, .func (PySem.W.fnOf "need_frames" "need_frames" (defArgs st_need_frames) (defBody st_need_frames) (defScope st_need_frames) .none kV10 dc10 pm10 an10 cd10 ct10), sl10⟩) (c10 : PySem.W.codeIn K cd10 "need_frames" = true) (k10 : PySem.W.keepIn K (.ref f10) = true)
    (a11 : PySem.W.nsIn K mainGlobals "keeps" = some (some (.ref f11))) (l11 : K.lookup f11 = some ⟨oc11, od11, .func (PySem.W.fnOf "keeps" "keeps" (defArgs st_keeps) (defBody st_keeps) (defScope st_keeps) .none kV11 dc11 pm11 an11 cd11 ct11), sl11⟩) (c11 : PySem.W.codeIn K cd11 "keeps" = true) (k11 : PySem.W.keepIn K (.ref f11) = true)
    (a12 : PySem.W.nsIn K mainGlobals "next_keeping" = some (some (.ref f12))) (l12 : K.lookup f12 = some ⟨oc12, od12, .func (PySem.W.fnOf "next_keeping" "next_keeping" (defArgs st_next_keeping) (defBody st_next_keeping) (defScope st_next_keeping) .none kV12 dc12 pm12 an12 cd12 ct12), sl12⟩) (c12 : PySem.W.codeIn K cd12 "next_keeping" = true) (k12 : PySem.W.keepIn K (.ref f12) = true)
    (a13 : PySem.W.nsIn K mainGlobals "_law_cell" = some (some (.ref f13))) (l13 : K.lookup f13 = some ⟨oc13, od13, .func (PySem.W.fnOf "_law_cell" "_law_cell" (defArgs st_law_cell) (defBody st_law_cell) (defScope st_law_cell) .none kV13 dc13 pm13 an13 cd13 ct13), sl13⟩) (c13 : PySem.W.codeIn K cd13 "_law_cell" = true) (k13 : PySem.W.keepIn K (.ref f13) = true)
    (a14 : PySem.W.nsIn K mainGlobals "_law_store" = some (some (.ref f14))) (l14 : K.lookup f14 = some ⟨oc14, od14, .func (PySem.W.fnOf "_law_store" "_law_store" (defArgs st_law_store) (defBody st_law_store) (defScope st_law_store) .none kV14 dc14 pm14 an14 cd14 ct14), sl14⟩) (c14 : PySem.W.codeIn K cd14 "_law_store" = true) (k14 : PySem.W.keepIn K (.ref f14) = true)
    (a15 : PySem.W.nsIn K mainGlobals "_law_take" = some (some (.ref f15))) (l15 : K.lookup f15 = some ⟨oc15, od15, .func (PySem.W.fnOf "_law_take" "_law_take" (defArgs st_law_take) (defBody st_law_take) (defScope st_law_take) .none kV15 dc15 pm15 an15 cd15 ct15), sl15⟩) (c15 : PySem.W.codeIn K cd15 "_law_take" = true) (k15 : PySem.W.keepIn K (.ref f15) = true)
    (a16 : PySem.W.nsIn K mainGlobals "_law_frame" = some (some (.ref f16))) (l16 : K.lookup f16 = some ⟨oc16, od16, .func (PySem.W.fnOf "_law_frame" "_law_frame" (defArgs st_law_frame) (defBody st_law_frame) (defScope st_law_frame) .none kV16 dc16 pm16 an16 cd16 ct16), sl16⟩) (c16 : PySem.W.codeIn K cd16 "_law_frame" = true) (k16 : PySem.W.keepIn K (.ref f16) = true)
    (a17 : PySem.W.nsIn K mainGlobals "_law_many" = some (some (.ref f17))) (l17 : K.lookup f17 = some ⟨oc17, od17, .func (PySem.W.fnOf "_law_many" "_law_many" (defArgs st_law_many) (defBody st_law_many) (defScope st_law_many) .none kV17 dc17 pm17 an17 cd17 ct17), sl17⟩) (c17 : PySem.W.codeIn K cd17 "_law_many" = true) (k17 : PySem.W.keepIn K (.ref f17) = true)
    (a18 : PySem.W.nsIn K mainGlobals "_law_figures" = some (some (.ref f18))) (l18 : K.lookup f18 = some ⟨oc18, od18, .func (PySem.W.fnOf "_law_figures" "_law_figures" (defArgs st_law_figures) (defBody st_law_figures) (defScope st_law_figures) .none kV18 dc18 pm18 an18 cd18 ct18), sl18⟩) (c18 : PySem.W.codeIn K cd18 "_law_figures" = true) (k18 : PySem.W.keepIn K (.ref f18) = true)
    (a19 : PySem.W.nsIn K mainGlobals "_law_spread" = some (some (.ref f19))) (l19 : K.lookup f19 = some ⟨oc19, od19, .func (PySem.W.fnOf "_law_spread" "_law_spread" (defArgs st_law_spread) (defBody st_law_spread) (defScope st_law_spread) .none kV19 dc19 pm19 an19 cd19 ct19), sl19⟩) (c19 : PySem.W.codeIn K cd19 "_law_spread" = true) (k19 : PySem.W.keepIn K (.ref f19) = true)
    (a20 : PySem.W.nsIn K mainGlobals "_law_frames" = some (some (.ref f20))) (l20 : K.lookup f20 = some ⟨oc20, od20, .func (PySem.W.fnOf "_law_frames" "_law_frames" (defArgs st_law_frames) (defBody st_law_frames) (defScope st_law_frames) .none kV20 dc20 pm20 an20 cd20 ct20), sl20⟩) (c20 : PySem.W.codeIn K cd20 "_law_frames" = true) (k20 : PySem.W.keepIn K (.ref f20) = true)
    (a21 : PySem.W.nsIn K mainGlobals "_law_long_frames" = some (some (.ref f21))) (l21 : K.lookup f21 = some ⟨oc21, od21, .func (PySem.W.fnOf "_law_long_frames" "_law_long_frames" (defArgs st_law_long_frames) (defBody st_law_long_frames) (defScope st_law_long_frames) .none kV21 dc21 pm21 an21 cd21 ct21), sl21⟩) (c21 : PySem.W.codeIn K cd21 "_law_long_frames" = true) (k21 : PySem.W.keepIn K (.ref f21) = true)
    (a22 : PySem.W.nsIn K mainGlobals "_law_copies" = some (some (.ref f22))) (l22 : K.lookup f22 = some ⟨oc22, od22, .func (PySem.W.fnOf "_law_copies" "_law_copies" (defArgs st_law_copies) (defBody st_law_copies) (defScope st_law_copies) .none kV22 dc22 pm22 an22 cd22 ct22), sl22⟩) (c22 : PySem.W.codeIn K cd22 "_law_copies" = true) (k22 : PySem.W.keepIn K (.ref f22) = true)
    (a23 : PySem.W.nsIn K mainGlobals "_law_keeps" = some (some (.ref f23))) (l23 : K.lookup f23 = some ⟨oc23, od23, .func (PySem.W.fnOf "_law_keeps" "_law_keeps" (defArgs st_law_keeps) (defBody st_law_keeps) (defScope st_law_keeps) .none kV23 dc23 pm23 an23 cd23 ct23), sl23⟩) (c23 : PySem.W.codeIn K cd23 "_law_keeps" = true) (k23 : PySem.W.keepIn K (.ref f23) = true)
    (a24 : PySem.W.nsIn K mainGlobals "_law_next" = some (some (.ref f24))) (l24 : K.lookup f24 = some ⟨oc24, od24, .func (PySem.W.fnOf "_law_next" "_law_next" (defArgs st_law_next) (defBody st_law_next) (defScope st_law_next) .none kV24 dc24 pm24 an24 cd24 ct24), sl24⟩) (c24 : PySem.W.codeIn K cd24 "_law_next" = true) (k24 : PySem.W.keepIn K (.ref f24) = true)
    (a25 : PySem.W.nsIn K mainGlobals "law" = some (some (.ref f25))) (l25 : K.lookup f25 = some ⟨oc25, od25, .func (PySem.W.fnOf "law" "law" (defArgs st_law) (defBody st_law) (defScope st_law) .none kV25 dc25 pm25 an25 cd25 ct25), sl25⟩) (c25 : PySem.W.codeIn K cd25 "law" = true) (k25 : PySem.W.keepIn K (.ref f25) = true)
    (z0 : PySem.W.nsIn K mainGlobals "isinstance" = some none)
    (z1 : PySem.W.nsIn K mainGlobals "int" = some none)
    (z2 : PySem.W.nsIn K mainGlobals "bool" = some none)
    (z3 : PySem.W.nsIn K mainGlobals "abs" = some none)
    (z4 : PySem.W.nsIn K mainGlobals "list" = some none)
    (z5 : PySem.W.nsIn K mainGlobals "len" = some none)
    (z6 : PySem.W.nsIn K mainGlobals "tuple" = some none)
    (z7 : PySem.W.nsIn K mainGlobals "sum" = some none)
    (z8 : PySem.W.nsIn K mainGlobals "range" = some none)
    (z9 : PySem.W.nsIn K mainGlobals "zip" = some none)
    (z10 : PySem.W.nsIn K mainGlobals "max" = some none)
    (z11 : PySem.W.nsIn K mainGlobals "min" = some none)
    (q0 : PySem.W.nsIn K mainGlobals "GREATEST_WEIGHT" = some (some (.int 9 tk0)))
    (q1 : PySem.W.nsIn K mainGlobals "FEWEST_PARTS" = some (some (.int 2 tk1)))
    (q2 : PySem.W.nsIn K mainGlobals "MOST_PARTS" = some (some (.int 4 tk2)))
    (q3 : PySem.W.nsIn K mainGlobals "LONGEST_PART" = some (some (.int 6 tk3)))
    (q4 : PySem.W.nsIn K mainGlobals "LEAST_BASE" = some (some (.int 2 tk4)))
    (q5 : PySem.W.nsIn K mainGlobals "MOST_BASE" = some (some (.int 16 tk5)))
    (q6 : PySem.W.nsIn K mainGlobals "MOST_FRAMES" = some (some (.int 3 tk6)))
    (q7 : PySem.W.nsIn K mainGlobals "MOST_AHEAD" = some (some (.int 1000 tk7))) :
    ∃ fd : FuncData, (∀ (s : Shared) (v : Value), BindsTo s fd ⟨[v], []⟩ [("script", v)]) ∧ ∀ base : Heap, K.In base → base.Ns mainGlobals mg → FnOk l.prog w K mg base CX0 6 fa fd ["script"] (spLaw K) := by
  have e := hfa.symm.trans (PySem.W.mg_of X G a25)
  cases e
  have T : Txt mg := ⟨PySem.W.mg_none_of X G z0, PySem.W.mg_none_of X G z1, PySem.W.mg_none_of X G z2, PySem.W.mg_none_of X G z3, PySem.W.mg_none_of X G z4, PySem.W.mg_none_of X G z5, PySem.W.mg_none_of X G z6, PySem.W.mg_none_of X G z7, PySem.W.mg_none_of X G z8, PySem.W.mg_none_of X G z9, PySem.W.mg_none_of X G z10, PySem.W.mg_none_of X G z11, ⟨_, PySem.W.mg_of X G q0⟩, ⟨_, PySem.W.mg_of X G q1⟩, ⟨_, PySem.W.mg_of X G q2⟩, ⟨_, PySem.W.mg_of X G q3⟩, ⟨_, PySem.W.mg_of X G q4⟩, ⟨_, PySem.W.mg_of X G q5⟩, ⟨_, PySem.W.mg_of X G q6⟩, ⟨_, PySem.W.mg_of X G q7⟩⟩
  refine ⟨PySem.W.fnOf "law" "law" (defArgs st_law) (defBody st_law) (defScope st_law) .none kV25 dc25 pm25 an25 cd25 ct25, fun s v => .of_eq rfl, fun base _ _ => ?_⟩
  have F0 := fun_mk (st := st_is_whole) l0 c0 k0
  have B0 := F0.binds (ps := ["thing"]) fun _ _ _ _ _ _ us hl => match us, hl with | [_], _ => rfl
  have D_is_whole : ∀ Z : Rsc, Z.n0 = 0 → Df l.prog w K mg base CX0 1 "is_whole" ["thing"] Z S_is_whole := fun Z hz => ⟨_, _, ok_is_whole Z hz T F0 , PySem.W.mg_of X G a0, k0, B0⟩
  have F1 := fun_mk (st := st_is_weight) l1 c1 k1
  have B1 := F1.binds (ps := ["thing"]) fun _ _ _ _ _ _ us hl => match us, hl with | [_], _ => rfl
  have D_is_weight : ∀ Z : Rsc, Z.n0 = 0 → Df l.prog w K mg base CX0 2 "is_weight" ["thing"] Z S_is_weight := fun Z hz => ⟨_, _, ok_is_weight Z hz T F1 D_is_whole, PySem.W.mg_of X G a1, k1, B1⟩
  have F2 := fun_mk (st := st_are_parts) l2 c2 k2
  have B2 := F2.binds (ps := ["thing"]) fun _ _ _ _ _ _ us hl => match us, hl with | [_], _ => rfl
  have D_are_parts : ∀ Z : Rsc, Z.n0 = 0 → Df l.prog w K mg base CX0 2 "are_parts" ["thing"] Z S_are_parts := fun Z hz => ⟨_, _, ok_are_parts Z hz T F2 D_is_whole, PySem.W.mg_of X G a2, k2, B2⟩
  have F3 := fun_mk (st := st_is_frame) l3 c3 k3
  have B3 := F3.binds (ps := ["thing"]) fun _ _ _ _ _ _ us hl => match us, hl with | [_], _ => rfl
  have D_is_frame : ∀ Z : Rsc, Z.n0 = 0 → Df l.prog w K mg base CX0 3 "is_frame" ["thing"] Z S_is_frame := fun Z hz => ⟨_, _, ok_is_frame Z hz T F3 D_is_whole D_are_parts D_is_weight, PySem.W.mg_of X G a3, k3, B3⟩
  have F4 := fun_mk (st := st_need_from) l4 c4 k4
  have B4 := F4.binds (ps := ["thing", "least"]) fun _ _ _ _ _ _ us hl => match us, hl with | [_, _], _ => rfl
  have D_need_from : ∀ Z : Rsc, Z.n0 = 0 → Df l.prog w K mg base CX0 2 "need_from" ["thing", "least"] Z S_need_from := fun Z hz => ⟨_, _, ok_need_from Z hz T F4 D_is_whole, PySem.W.mg_of X G a4, k4, B4⟩
  have F5 := fun_mk (st := st_many_of) l5 c5 k5
  have B5 := F5.binds (ps := ["frame"]) fun _ _ _ _ _ _ us hl => match us, hl with | [_], _ => rfl
  have D_many_of : ∀ Z : Rsc, Z.n0 = 0 → Df l.prog w K mg base CX0 1 "many_of" ["frame"] Z S_many_of := fun Z hz => ⟨_, _, ok_many_of Z hz T F5 , PySem.W.mg_of X G a5, k5, B5⟩
  have F6 := fun_mk (st := st_is_number) l6 c6 k6
  have B6 := F6.binds (ps := ["frame", "thing"]) fun _ _ _ _ _ _ us hl => match us, hl with | [_, _], _ => rfl
  have D_is_number : ∀ Z : Rsc, Z.n0 = 0 → Df l.prog w K mg base CX0 2 "is_number" ["frame", "thing"] Z S_is_number := fun Z hz => ⟨_, _, ok_is_number Z hz T F6 D_is_whole D_many_of, PySem.W.mg_of X G a6, k6, B6⟩
  have F7 := fun_mk (st := st_written) l7 c7 k7
  have B7 := F7.binds (ps := ["frame", "n"]) fun _ _ _ _ _ _ us hl => match us, hl with | [_, _], _ => rfl
  have D_written : ∀ Z : Rsc, Z.n0 = 0 → Df l.prog w K mg base CX0 1 "written" ["frame", "n"] Z S_written := fun Z hz => ⟨_, _, ok_written Z hz T F7 , PySem.W.mg_of X G a7, k7, B7⟩
  have F8 := fun_mk (st := st_cut) l8 c8 k8
  have B8 := F8.binds (ps := ["parts", "row"]) fun _ _ _ _ _ _ us hl => match us, hl with | [_, _], _ => rfl
  have D_cut : ∀ Z : Rsc, Z.n0 = 0 → Df l.prog w K mg base CX0 1 "cut" ["parts", "row"] Z S_cut := fun Z hz => ⟨_, _, ok_cut Z hz T F8 , PySem.W.mg_of X G a8, k8, B8⟩
  have F9 := fun_mk (st := st_sums_of) l9 c9 k9
  have B9 := F9.binds (ps := ["frame", "n"]) fun _ _ _ _ _ _ us hl => match us, hl with | [_, _], _ => rfl
  have D_sums_of : ∀ Z : Rsc, Z.n0 = 0 → Df l.prog w K mg base CX0 2 "sums_of" ["frame", "n"] Z S_sums_of := fun Z hz => ⟨_, _, ok_sums_of Z hz T F9 D_written D_cut, PySem.W.mg_of X G a9, k9, B9⟩
  have F10 := fun_mk (st := st_need_frames) l10 c10 k10
  have B10 := F10.binds (ps := ["thing"]) fun _ _ _ _ _ _ us hl => match us, hl with | [_], _ => rfl
  have D_need_frames : ∀ Z : Rsc, Z.n0 = 0 → Df l.prog w K mg base CX0 4 "need_frames" ["thing"] Z S_need_frames := fun Z hz => ⟨_, _, ok_need_frames Z hz T F10 D_is_frame, PySem.W.mg_of X G a10, k10, B10⟩
  have F11 := fun_mk (st := st_keeps) l11 c11 k11
  have B11 := F11.binds (ps := ["frames", "thing"]) fun _ _ _ _ _ _ us hl => match us, hl with | [_, _], _ => rfl
  have D_keeps : ∀ Z : Rsc, Z.n0 = 0 → Df l.prog w K mg base CX0 3 "keeps" ["frames", "thing"] Z S_keeps := fun Z hz => ⟨_, _, ok_keeps Z hz T F11 D_is_number D_sums_of, PySem.W.mg_of X G a11, k11, B11⟩
  have F12 := fun_mk (st := st_next_keeping) l12 c12 k12
  have B12 := F12.binds (ps := ["frames", "n"]) fun _ _ _ _ _ _ us hl => match us, hl with | [_, _], _ => rfl
  have D_next_keeping : ∀ Z : Rsc, Z.n0 = 0 → Df l.prog w K mg base CX0 5 "next_keeping" ["frames", "n"] Z S_next_keeping := fun Z hz => ⟨_, _, ok_next_keeping Z hz T F12 D_need_frames D_need_from D_keeps, PySem.W.mg_of X G a12, k12, B12⟩
  have F13 := fun_mk (st := st_law_cell) l13 c13 k13
  have B13 := F13.binds (ps := ["script", "k"]) fun _ _ _ _ _ _ us hl => match us, hl with | [_, _], _ => rfl
  have D_law_cell : ∀ Z : Rsc, Z.n0 = 0 → Df l.prog w K mg base CX0 1 "_law_cell" ["script", "k"] Z S_law_cell := fun Z hz => ⟨_, _, ok_law_cell Z hz T F13 , PySem.W.mg_of X G a13, k13, B13⟩
  have F14 := fun_mk (st := st_law_store) l14 c14 k14
  have B14 := F14.binds (ps := ["cell"]) fun _ _ _ _ _ _ us hl => match us, hl with | [_], _ => rfl
  have D_law_store : Mk l.prog w K mg base 1 "_law_store" ["cell"] (spMk K mg A_law_store StoreZ) := ⟨_, _, ok_law_store F14 , PySem.W.mg_of X G a14, k14, B14⟩
  have F15 := fun_mk (st := st_law_take) l15 c15 k15
  have B15 := F15.binds (ps := ["store", "many"]) fun _ _ _ _ _ _ us hl => match us, hl with | [_, _], _ => rfl
  have D_law_take : Df l.prog w K mg base CX0 1 "_law_take" ["store", "many"] StoreZ S_law_take := ⟨_, _, ok_law_take F15 , PySem.W.mg_of X G a15, k15, B15⟩
  have F16 := fun_mk (st := st_law_frame) l16 c16 k16
  have B16 := F16.binds (ps := ["store", "longest"]) fun _ _ _ _ _ _ us hl => match us, hl with | [_, _], _ => rfl
  have D_law_frame : Df l.prog w K mg base CX0 2 "_law_frame" ["store", "longest"] StoreZ S_law_frame := ⟨_, _, ok_law_frame T F16 D_law_take, PySem.W.mg_of X G a16, k16, B16⟩
  have F17 := fun_mk (st := st_law_many) l17 c17 k17
  have B17 := F17.binds (ps := ["frame"]) fun _ _ _ _ _ _ us hl => match us, hl with | [_], _ => rfl
  have D_law_many : ∀ Z : Rsc, Z.n0 = 0 → Df l.prog w K mg base CX0 1 "_law_many" ["frame"] Z S_law_many := fun Z hz => ⟨_, _, ok_law_many Z hz T F17 , PySem.W.mg_of X G a17, k17, B17⟩
  have F18 := fun_mk (st := st_law_figures) l18 c18 k18
  have B18 := F18.binds (ps := ["frame", "n"]) fun _ _ _ _ _ _ us hl => match us, hl with | [_, _], _ => rfl
  have D_law_figures : ∀ Z : Rsc, Z.n0 = 0 → Df l.prog w K mg base CX0 1 "_law_figures" ["frame", "n"] Z S_law_figures := fun Z hz => ⟨_, _, ok_law_figures Z hz T F18 , PySem.W.mg_of X G a18, k18, B18⟩
  have F19 := fun_mk (st := st_law_spread) l19 c19 k19
  have B19 := F19.binds (ps := ["frame", "n"]) fun _ _ _ _ _ _ us hl => match us, hl with | [_, _], _ => rfl
  have D_law_spread : ∀ Z : Rsc, Z.n0 = 0 → Df l.prog w K mg base CX0 2 "_law_spread" ["frame", "n"] Z S_law_spread := fun Z hz => ⟨_, _, ok_law_spread Z hz T F19 D_law_figures, PySem.W.mg_of X G a19, k19, B19⟩
  have F20 := fun_mk (st := st_law_frames) l20 c20 k20
  have B20 := F20.binds (ps := ["store"]) fun _ _ _ _ _ _ us hl => match us, hl with | [_], _ => rfl
  have D_law_frames : Df l.prog w K mg base CX0 3 "_law_frames" ["store"] StoreZ S_law_frames := ⟨_, _, ok_law_frames T F20 D_law_frame D_law_take, PySem.W.mg_of X G a20, k20, B20⟩
  have F21 := fun_mk (st := st_law_long_frames) l21 c21 k21
  have B21 := F21.binds (ps := ["store", "many"]) fun _ _ _ _ _ _ us hl => match us, hl with | [_, _], _ => rfl
  have D_law_long_frames : Df l.prog w K mg base CX0 3 "_law_long_frames" ["store", "many"] StoreZ S_law_long_frames := ⟨_, _, ok_law_long_frames T F21 D_law_frame D_law_take, PySem.W.mg_of X G a21, k21, B21⟩
  have F22 := fun_mk (st := st_law_copies) l22 c22 k22
  have B22 := F22.binds (ps := ["frames"]) fun _ _ _ _ _ _ us hl => match us, hl with | [_], _ => rfl
  have D_law_copies : ∀ Z : Rsc, Z.n0 = 0 → Df l.prog w K mg base CX0 1 "_law_copies" ["frames"] Z S_law_copies := fun Z hz => ⟨_, _, ok_law_copies Z hz T F22 , PySem.W.mg_of X G a22, k22, B22⟩
  have F23 := fun_mk (st := st_law_keeps) l23 c23 k23
  have B23 := F23.binds (ps := ["frames", "thing"]) fun _ _ _ _ _ _ us hl => match us, hl with | [_, _], _ => rfl
  have D_law_keeps : ∀ Z : Rsc, Z.n0 = 0 → Df l.prog w K mg base CX0 3 "_law_keeps" ["frames", "thing"] Z S_law_keeps := fun Z hz => ⟨_, _, ok_law_keeps Z hz T F23 D_law_many D_law_spread, PySem.W.mg_of X G a23, k23, B23⟩
  have F24 := fun_mk (st := st_law_next) l24 c24 k24
  have B24 := F24.binds (ps := ["frames", "n"]) fun _ _ _ _ _ _ us hl => match us, hl with | [_, _], _ => rfl
  have D_law_next : ∀ Z : Rsc, Z.n0 = 0 → Df l.prog w K mg base CX0 4 "_law_next" ["frames", "n"] Z S_law_next := fun Z hz => ⟨_, _, ok_law_next Z hz T F24 D_law_keeps, PySem.W.mg_of X G a24, k24, B24⟩
  have F25 := fun_mk (st := st_law) l25 c25 k25
  exact (ok_law T F25 D_law_store D_law_cell D_law_frames D_law_long_frames D_law_copies D_law_take D_law_many D_law_next D_next_keeping).imp law_lift
theorem walk {l : PySem.W.OpenLaw} {q : Program} {loose : List Str} {XP : (Str → Option Value) → Heap → Prop} {YP : World → Heap → Prop} {d : DefRec} {K : Params → PySem.W.Frag} (hn : l.most = some 63) (hdf : d.params.defaults = [])
    (hY : ∀ (w : World) (h : Heap), YP w h → (K w.params).In h)
    (F : ∀ (w : World) (mg : Str → Option Value) (fa : Addr) (h : Heap), (K w.params).In h → h.Ns mainGlobals mg → mg d.name = some (.ref fa) →
      ∃ fd : FuncData, (∀ (s : Shared) (u : Value), BindsTo s fd ⟨[u], []⟩ [("script", u)]) ∧ ∀ base : Heap, (K w.params).In base → base.Ns mainGlobals mg → FnOk l.prog w (K w.params) mg base CX0 6 fa fd ["script"] (spLaw (K w.params))) :
    PySem.W.WalkO q loose XP YP l.row.toRowW d [] (fun f vs => PySem.call f vs) :=
  L2.walk_of (n := 63) (k := 6) (x := "script") (CX := fun _ => CX0) (sp := fun w => spLaw (K w.params)) hn (by decide) hdf ⟨rfl, by decide, by decide⟩ hY F (fun _ _ a ns hl _ hS => ⟨a, ns, rfl, hS, hl, fun _ => rfl⟩) fun _ _ _ _ _ z => z
end LK

open PySem PySem.W PyProof.Rows in
set_option maxRecDepth 100000 in
set_option maxHeartbeats 0 in
theorem PySem.Challenge.cw_likehalves_k26_next_ones_that_keep_all_holds : PySem.Challenge.rw_likehalves_k26_next_ones_that_keep_all.Holds := by
  w_on; o_law; k_head; (case hw => w_witness2)
  k_fill
  refine LK.walk (l := PySem.Challenge.rw_likehalves_k26_next_ones_that_keep_all) rfl rfl (fun w h Y => PySem.W.kIn_of Y) ?F
  case F =>
    intro w mg fa h KX G hmg
    refine' LK.all_mk KX G hmg ?a0 ?l0 ?c0 ?k0 ?a1 ?l1 ?c1 ?k1 ?a2 ?l2 ?c2 ?k2 ?a3 ?l3 ?c3 ?k3 ?a4 ?l4 ?c4 ?k4 ?a5 ?l5 ?c5 ?k5 ?a6 ?l6 ?c6 ?k6 ?a7 ?l7 ?c7 ?k7 ?a8 ?l8 ?c8 ?k8 ?a9 ?l9 ?c9 ?k9 ?a10 ?l10 ?c10 ?k10 ?a11 ?l11 ?c11 ?k11 ?a12 ?l12 ?c12 ?k12 ?a13 ?l13 ?c13 ?k13 ?a14 ?l14 ?c14 ?k14 ?a15 ?l15 ?c15 ?k15 ?a16 ?l16 ?c16 ?k16 ?a17 ?l17 ?c17 ?k17 ?a18 ?l18 ?c18 ?k18 ?a19 ?l19 ?c19 ?k19 ?a20 ?l20 ?c20 ?k20 ?a21 ?l21 ?c21 ?k21 ?a22 ?l22 ?c22 ?k22 ?a23 ?l23 ?c23 ?k23 ?a24 ?l24 ?c24 ?k24 ?a25 ?l25 ?c25 ?k25 ?z0 ?z1 ?z2 ?z3 ?z4 ?z5 ?z6 ?z7 ?z8 ?z9 ?z10 ?z11 ?q0 ?q1 ?q2 ?q3 ?q4 ?q5 ?q6 ?q7
    (case a0 => k_is)
    (case l0 => k_is)
    (case c0 => k_is)
    (case k0 => k_is)
    (case a1 => k_is)
    (case l1 => k_is)
    (case c1 => k_is)
    (case k1 => k_is)
    (case a2 => k_is)
    (case l2 => k_is)
    (case c2 => k_is)
    (case k2 => k_is)
    (case a3 => k_is)
    (case l3 => k_is)
    (case c3 => k_is)
    (case k3 => k_is)
    (case a4 => k_is)
    (case l4 => k_is)
    (case c4 => k_is)
    (case k4 => k_is)
    (case a5 => k_is)
    (case l5 => k_is)
    (case c5 => k_is)
    (case k5 => k_is)
    (case a6 => k_is)
    (case l6 => k_is)
    (case c6 => k_is)
    (case k6 => k_is)
    (case a7 => k_is)
    (case l7 => k_is)
    (case c7 => k_is)
    (case k7 => k_is)
    (case a8 => k_is)
    (case l8 => k_is)
    (case c8 => k_is)
    (case k8 => k_is)
    (case a9 => k_is)
    (case l9 => k_is)
    (case c9 => k_is)
    (case k9 => k_is)
    (case a10 => k_is)
    (case l10 => k_is)
    (case c10 => k_is)
    (case k10 => k_is)
    (case a11 => k_is)
    (case l11 => k_is)
    (case c11 => k_is)
    (case k11 => k_is)
    (case a12 => k_is)
    (case l12 => k_is)
    (case c12 => k_is)
    (case k12 => k_is)
    (case a13 => k_is)
    (case l13 => k_is)
    (case c13 => k_is)
    (case k13 => k_is)
    (case a14 => k_is)
    (case l14 => k_is)
    (case c14 => k_is)
    (case k14 => k_is)
    (case a15 => k_is)
    (case l15 => k_is)
    (case c15 => k_is)
    (case k15 => k_is)
    (case a16 => k_is)
    (case l16 => k_is)
    (case c16 => k_is)
    (case k16 => k_is)
    (case a17 => k_is)
    (case l17 => k_is)
    (case c17 => k_is)
    (case k17 => k_is)
    (case a18 => k_is)
    (case l18 => k_is)
    (case c18 => k_is)
    (case k18 => k_is)
    (case a19 => k_is)
    (case l19 => k_is)
    (case c19 => k_is)
    (case k19 => k_is)
    (case a20 => k_is)
    (case l20 => k_is)
    (case c20 => k_is)
    (case k20 => k_is)
    (case a21 => k_is)
    (case l21 => k_is)
    (case c21 => k_is)
    (case k21 => k_is)
    (case a22 => k_is)
    (case l22 => k_is)
    (case c22 => k_is)
    (case k22 => k_is)
    (case a23 => k_is)
    (case l23 => k_is)
    (case c23 => k_is)
    (case k23 => k_is)
    (case a24 => k_is)
    (case l24 => k_is)
    (case c24 => k_is)
    (case k24 => k_is)
    (case a25 => k_is)
    (case l25 => k_is)
    (case c25 => k_is)
    (case k25 => k_is)
    (case z0 => k_is)
    (case z1 => k_is)
    (case z2 => k_is)
    (case z3 => k_is)
    (case z4 => k_is)
    (case z5 => k_is)
    (case z6 => k_is)
    (case z7 => k_is)
    (case z8 => k_is)
    (case z9 => k_is)
    (case z10 => k_is)
    (case z11 => k_is)
    (case q0 => k_is)
    (case q1 => k_is)
    (case q2 => k_is)
    (case q3 => k_is)
    (case q4 => k_is)
    (case q5 => k_is)
    (case q6 => k_is)
    (case q7 => k_is)

