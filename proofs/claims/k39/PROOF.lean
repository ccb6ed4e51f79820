import PyProof.Rows.All
import Wide.All
import OpenK.AllK
import Wide.FinOn
import HandS.ForExc
import HandS.Comp
import HandS.Dict
import HandS.Iter
import HandS.Text
import HandS.Wide
import HandS.More
import HandS.IsInst
import HandS.Style
import HandS.Small
import HandS.DictEq
import HandS.ListItems
import HandS.DictComp
import HandS.SortInts
import PyProof.ReprRoads
import PyProof.ReprLen
import HandS.ExcOwn
import HandS.ExcIs
import HandS.NoneIn
import HandS.SetFor
import HandS.List
import HandS.TupSets
import HandS.Conv
import PyProof.LongRange
import KE.GoesComp
import HandS.StrMore
import PySem.Challenge.RW_likehalves_k39_texts_that_write_no_frame
set_option Elab.async false
set_option linter.all false
set_option maxRecDepth 100000
set_option maxHeartbeats 4000000
/-! VL, part A: trees, sites, the relation between a value-level state and the heap. -/
namespace VL
open PySem L2

/-- pure data -/
inductive Tr where
  | non | bl (b : Bool) | int (i : Int) | str (x : Str) | ty (n : String) | cls (n : Str)
  | scr (xs : List Int)
  | lst (xs : List Tr) | tup (xs : List Tr) | dic (kvs : List (Key × Tr)) | ins (c : Str) (fs : List (Str × Tr))
  /-- a caught exception of a class of the program, nothing known of its fields -/
  | exc (n : Str)
  /-- within a cell alone: the object at a site; a tuple, a list, an instance whose items may be sites -/
  | at (j : Nat) | dt (xs : List Tr) | dl (xs : List Tr) | di (c : Str) (fs : List (Str × Tr))
/-- what a name holds: data, an owned object's site, an ambient thing -/
inductive Dv where
  | t (x : Tr) | loc (j : Nat) | hnd (i : Nat)
abbrev Env := List (Option Dv)
abbrev Sto := List (Option Tr)

def Tr.flat : Tr → Bool
  | .non => true | .bl _ => true | .int _ => true | .str _ => true | .ty _ => true
  | _ => false

/-- the ambient: a thing at hd i, its objects at B, what is true of them -/
structure Rsc where
  Z : Hp → (Nat → Addr) → (Addr → Prop) → Prop
  st : ∀ H H' hd B, (∀ a, B a → H' a = H a) → Z H hd B → Z H' hd B
  dm : ∀ H hd B, Z H hd B → ∀ a, B a → H a ≠ none
  /-- how many sites were handed in -/
  n0 : Nat
def Z0 : Rsc := ⟨fun _ _ B => ∀ a, ¬ B a, fun _ _ _ _ _ h => h, fun _ _ _ h a q => absurd q (h a), 0⟩

def ExD (C a : Addr) : HO := .ext fun h => ∃ (oe : Obj) (vs : Array Value), h.get? a = some oe ∧ Zc (.ref C) none oe ∧ oe.data = .fields vs
inductive Rep (K : PySem.W.Frag) (mg : Str → Option Value) (R : Hp) : V → Tr → Prop
  | non : Rep K mg R .non .non
  | bl (b : Bool) : Rep K mg R (.bl b) (.bl b)
  | int (i : Int) : Rep K mg R (.int i) (.int i)
  | str (x : Str) : Rep K mg R (.str x) (.str x)
  | ty (n : String) : Rep K mg R (.ty n) (.ty n)
  | cls {n : Str} {a : Addr} : mg n = some (.ref a) → Rep K mg R (.ref a) (.cls n)
  | scr {a : Addr} {xs : List Int} : SqL K R a (xs.map V.int) → Rep K mg R (.ref a) (.scr xs)
  | lst {a : Addr} {xs : List V} {ts : List Tr} : R a = some (.lst xs) → xs.length = ts.length → (∀ (i : Nat) x t, xs[i]? = some x → ts[i]? = some t → Rep K mg R x t) → Rep K mg R (.ref a) (.lst ts)
  | tup {a : Addr} {xs : List V} {ts : List Tr} : R a = some (.tup xs) → xs.length = ts.length → (∀ (i : Nat) x t, xs[i]? = some x → ts[i]? = some t → Rep K mg R x t) → Rep K mg R (.ref a) (.tup ts)
  | dic {a : Addr} {xs : List (Key × V)} {ts : List (Key × Tr)} : Rd R a (.dK xs) → xs.map (·.1) = ts.map (·.1) → (∀ (i : Nat) k x k' t, xs[i]? = some (k, x) → ts[i]? = some (k', t) → Rep K mg R x t) → Rep K mg R (.ref a) (.dic ts)
  | ins {a C dx : Addr} {c : Str} {xs : List (Str × V)} {ts : List (Str × Tr)} : mg c = some (.ref C) → R a = some (.ins C dx xs) → xs.map (·.1) = ts.map (·.1) → (∀ (i : Nat) k x k' t, xs[i]? = some (k, x) → ts[i]? = some (k', t) → Rep K mg R x t) → Rep K mg R (.ref a) (.ins c ts)
  | exc {n : Str} {C a : Addr} : mg n = some (.ref C) → R a = some (ExD C a) → Rep K mg R (.ref a) (.exc n)

section
variable {K : PySem.W.Frag} {mg : Str → Option Value} {R R' H : Hp}
theorem same_rd {a : Addr} {u : HO} (s : Same R R') (h : Rd R a u) : Rd R' a u := by
  rcases h with h | ⟨o, h⟩
  · exact .inl (s _ _ h)
  · exact .inr ⟨o, s _ _ h⟩
theorem Rep.mono {v : V} {x : Tr} (s : Same R R') (h : Rep K mg R v x) : Rep K mg R' v x := by
  induction h with
  | non => exact .non
  | bl b => exact .bl b
  | int i => exact .int i
  | str x => exact .str x
  | ty n => exact .ty n
  | cls h => exact .cls h
  | scr h => exact .scr (s.seq h)
  | lst h l _ ih => exact .lst (s _ _ h) l ih
  | tup h l _ ih => exact .tup (s _ _ h) l ih
  | dic h l _ ih => exact .dic (same_rd s h) l ih
  | ins m h l _ ih => exact .ins m (s _ _ h) l ih
  | exc m h => exact .exc m (s _ _ h)
theorem Rep.flat {v : V} {x : Tr} (h : Rep K mg R v x) (f : x.flat = true) : Rep K mg R' v x := by
  cases h with
  | non => exact .non
  | bl b => exact .bl b
  | int i => exact .int i
  | str x => exact .str x
  | ty n => exact .ty n
  | cls h => cases f
  | scr h => cases f
  | lst h l _ => cases f
  | tup h l _ => cases f
  | dic h l _ => cases f
  | ins m h l _ => cases f
  | exc m h => cases f
abbrev Reps (K : PySem.W.Frag) (mg : Str → Option Value) (R : Hp) : List V → List Tr → Prop := Paired (Rep K mg R)
abbrev RepsP {κ : Type} (K : PySem.W.Frag) (mg : Str → Option Value) (R : Hp) : List (κ × V) → List (κ × Tr) → Prop := Paired fun p q => p.1 = q.1 ∧ Rep K mg R p.2 q.2
theorem paired_of {α β : Type} {F : α → β → Prop} : ∀ {l : List α} {m : List β}, l.length = m.length → (∀ (i : Nat) a b, l[i]? = some a → m[i]? = some b → F a b) → Paired F l m
  | [], [], _, _ => .nil
  | a :: l, b :: m, h, f => .cons (f 0 a b rfl rfl) (paired_of (by simpa using h) fun i x y hx hy => f (i + 1) x y (by simpa using hx) (by simpa using hy))
  | [], _ :: _, h, _ => by simp at h
  | _ :: _, [], h, _ => by simp at h
theorem paired_at {α β : Type} {F : α → β → Prop} : ∀ {l : List α} {m : List β}, Paired F l m → ∀ (i : Nat) a b, l[i]? = some a → m[i]? = some b → F a b
  | _, _, .nil, i, a, b, h, _ => by simp at h
  | _, _, .cons r t, 0, a, b, h, h' => by simp at h h'; subst h; subst h'; exact r
  | _, _, .cons r t, i + 1, a, b, h, h' => paired_at t i a b (by simpa using h) (by simpa using h')
theorem Rep.lstP {a : Addr} {xs : List V} {ts : List Tr} (h : R a = some (.lst xs)) (p : Reps K mg R xs ts) : Rep K mg R (.ref a) (.lst ts) := .lst h p.length (paired_at p)
theorem Rep.tupP {a : Addr} {xs : List V} {ts : List Tr} (h : R a = some (.tup xs)) (p : Reps K mg R xs ts) : Rep K mg R (.ref a) (.tup ts) := .tup h p.length (paired_at p)
theorem paired_keys {κ : Type} {xs : List (κ × V)} {ts : List (κ × Tr)} (p : RepsP K mg R xs ts) : xs.map (·.1) = ts.map (·.1) := by
  induction p with
  | nil => rfl
  | cons r _ ih => rw [List.map_cons, List.map_cons, ih, r.1]
theorem pairedP_of {κ : Type} : ∀ {xs : List (κ × V)} {ts : List (κ × Tr)}, xs.map (·.1) = ts.map (·.1) → (∀ (i : Nat) k x k' t, xs[i]? = some (k, x) → ts[i]? = some (k', t) → Rep K mg R x t) → RepsP K mg R xs ts
  | [], [], _, _ => .nil
  | (k, x) :: l, (k', t) :: m, h, f => by
    rw [List.map_cons, List.map_cons] at h
    obtain ⟨h1, h2⟩ := List.cons.inj h
    exact .cons ⟨h1, f 0 k x k' t rfl rfl⟩ (pairedP_of h2 fun i a b c d ha hb => f (i + 1) a b c d (by simpa using ha) (by simpa using hb))
  | [], _ :: _, h, _ => by simp at h
  | _ :: _, [], h, _ => by simp at h
theorem Rep.dicP {a : Addr} {xs : List (Key × V)} {ts : List (Key × Tr)} (h : Rd R a (.dK xs)) (p : RepsP K mg R xs ts) : Rep K mg R (.ref a) (.dic ts) := .dic h (paired_keys p) fun i k x k' t h1 h2 => (paired_at p i _ _ h1 h2).2
theorem Rep.insP {a C dx : Addr} {c : Str} {xs : List (Str × V)} {ts : List (Str × Tr)} (m : mg c = some (.ref C)) (h : R a = some (.ins C dx xs)) (p : RepsP K mg R xs ts) : Rep K mg R (.ref a) (.ins c ts) := .ins m h (paired_keys p) fun i k x k' t h1 h2 => (paired_at p i _ _ h1 h2).2
theorem Rep.lst_inv {v : V} {ts : List Tr} (h : Rep K mg R v (.lst ts)) : ∃ a xs, v = .ref a ∧ R a = some (.lst xs) ∧ Reps K mg R xs ts := by
  cases h with
  | lst h l f => exact ⟨_, _, rfl, h, paired_of l f⟩
theorem Rep.tup_inv {v : V} {ts : List Tr} (h : Rep K mg R v (.tup ts)) : ∃ a xs, v = .ref a ∧ R a = some (.tup xs) ∧ Reps K mg R xs ts := by
  cases h with
  | tup h l f => exact ⟨_, _, rfl, h, paired_of l f⟩
theorem Rep.dic_inv {v : V} {ts : List (Key × Tr)} (h : Rep K mg R v (.dic ts)) : ∃ a xs, v = .ref a ∧ Rd R a (.dK xs) ∧ RepsP K mg R xs ts := by
  cases h with
  | dic h l f => exact ⟨_, _, rfl, h, pairedP_of l f⟩
theorem Rep.ins_inv {v : V} {c : Str} {ts : List (Str × Tr)} (h : Rep K mg R v (.ins c ts)) : ∃ a C dx xs, v = .ref a ∧ mg c = some (.ref C) ∧ R a = some (.ins C dx xs) ∧ RepsP K mg R xs ts := by
  cases h with
  | ins m h l f => exact ⟨_, _, _, _, rfl, m, h, pairedP_of l f⟩
theorem Reps.mono {xs : List V} {ts : List Tr} (s : Same R R') (h : Reps K mg R xs ts) : Reps K mg R' xs ts := Paired.mapP h fun _ _ r => r.mono s
theorem RepsP.mono {κ : Type} {xs : List (κ × V)} {ts : List (κ × Tr)} (s : Same R R') (h : RepsP K mg R xs ts) : RepsP K mg R' xs ts := Paired.mapP h fun _ _ r => ⟨r.1, r.2.mono s⟩
theorem Reps.get {xs : List V} {ts : List Tr} (h : Reps K mg R xs ts) {i : Nat} {t : Tr} (e : ts[i]? = some t) : ∃ x, xs[i]? = some x ∧ Rep K mg R x t := by
  have hl := Paired.length h
  obtain ⟨hi, _⟩ := List.getElem?_eq_some_iff.mp e
  have hx : xs[i]? = some (xs[i]'(by omega)) := List.getElem?_eq_getElem (by omega)
  exact ⟨_, hx, paired_at h i _ _ hx e⟩
theorem Reps.get' {xs : List V} {ts : List Tr} (h : Reps K mg R xs ts) {i : Nat} {x : V} (e : xs[i]? = some x) : ∃ t, ts[i]? = some t ∧ Rep K mg R x t := by
  have hl := Paired.length h
  obtain ⟨hi, _⟩ := List.getElem?_eq_some_iff.mp e
  have hx : ts[i]? = some (ts[i]'(by omega)) := List.getElem?_eq_getElem (by omega)
  exact ⟨_, hx, paired_at h i _ _ e hx⟩
theorem paired_append {α β : Type} {F : α → β → Prop} : ∀ {l l' : List α} {m m' : List β}, Paired F l m → Paired F l' m' → Paired F (l ++ l') (m ++ m')
  | _, _, _, _, .nil, q => q
  | _, _, _, _, .cons r t, q => .cons r (paired_append t q)
theorem paired_take {α β : Type} {F : α → β → Prop} : ∀ {l : List α} {m : List β} (n : Nat), Paired F l m → Paired F (l.take n) (m.take n)
  | _, _, 0, _ => .nil
  | _, _, _ + 1, .nil => .nil
  | _, _, n + 1, .cons r t => .cons r (paired_take n t)
theorem paired_drop {α β : Type} {F : α → β → Prop} : ∀ {l : List α} {m : List β} (n : Nat), Paired F l m → Paired F (l.drop n) (m.drop n)
  | _, _, 0, h => h
  | _, _, _ + 1, .nil => .nil
  | _, _, n + 1, .cons r t => paired_drop n t
theorem paired_reverse {α β : Type} {F : α → β → Prop} {l : List α} {m : List β} (h : Paired F l m) : Paired F l.reverse m.reverse := by
  induction h with
  | nil => exact .nil
  | cons r _ ih =>
    rw [List.reverse_cons, List.reverse_cons]
    exact paired_append ih (.cons r .nil)
theorem reps_ints {ns : List Int} : ∀ {xs : List V}, Reps K mg R xs (ns.map Tr.int) → xs = ns.map V.int := by
  induction ns with
  | nil => intro xs h; cases h; rfl
  | cons n ns ih =>
    intro xs h
    rw [List.map_cons] at h
    cases h with
    | cons r t => cases r; rw [ih t]; rfl
theorem ints_reps : ∀ ns : List Int, Reps K mg R (ns.map V.int) (ns.map Tr.int)
  | [] => .nil
  | n :: ns => .cons (.int n) (ints_reps ns)
/-- a list of whole numbers, of texts, of truths -/
def intsOf : List Tr → Option (List Int)
  | [] => some []
  | .int i :: r => (intsOf r).map (i :: ·)
  | _ :: _ => none
theorem intsOf_map : ∀ ns : List Int, intsOf (ns.map Tr.int) = some ns
  | [] => rfl
  | n :: ns => by rw [List.map_cons, intsOf, intsOf_map ns]; rfl
theorem intsOf_eq : ∀ {ts : List Tr} {ns : List Int}, intsOf ts = some ns → ts = ns.map Tr.int
  | [], ns, h => by simp [intsOf] at h; subst h; rfl
  | t :: ts, ns, h => by
    cases t <;> simp [intsOf] at h
    obtain ⟨ms, h1, rfl⟩ := h
    rw [intsOf_eq h1]; rfl
end

/-- an item of a cell: a site, or known data -/
inductive ChR (K : PySem.W.Frag) (mg : Str → Option Value) (R : Hp) (as : List Addr) : V → Tr → Prop
  | k {v : V} {x : Tr} : Rep K mg R v x → ChR K mg R as v x
  | s {j : Nat} {a : Addr} : as[j]? = some a → ChR K mg R as (.ref a) (.at j)
/-- an owned object: its root at a, its children known, or sites -/
def Own (K : PySem.W.Frag) (mg : Str → Option Value) (R : Hp) (as : List Addr) (H : Hp) (a : Addr) : Tr → Prop
  | .lst ts => ∃ xs, H a = some (.lst xs) ∧ Reps K mg R xs ts
  | .dic ts => ∃ xs, H a = some (.dK xs) ∧ RepsP K mg R xs ts
  | .ins c ts => ∃ C dx xs, mg c = some (.ref C) ∧ H a = some (.ins C dx xs) ∧ RepsP K mg R xs ts
  | .dt ts => ∃ xs, H a = some (.tup xs) ∧ Paired (ChR K mg R as) xs ts
  | .dl ts => ∃ xs, H a = some (.lst xs) ∧ Paired (ChR K mg R as) xs ts
  | .di c ts => ∃ C dx xs, mg c = some (.ref C) ∧ H a = some (.ins C dx xs) ∧ Paired (fun p q => p.1 = q.1 ∧ ChR K mg R as p.2 q.2) xs ts
  | _ => False
/-- all items known -/
def shal : Tr → Bool
  | .dt _ => false | .dl _ => false | .di _ _ => false | .at _ => false
  | _ => true

inductive DRep (K : PySem.W.Frag) (mg : Str → Option Value) (R : Hp) (hd : Nat → Addr) (as : List Addr) : V → Dv → Prop
  | t {v : V} {x : Tr} : Rep K mg R v x → DRep K mg R hd as v (.t x)
  | loc {j : Nat} {a : Addr} : as[j]? = some a → DRep K mg R hd as (.ref a) (.loc j)
  | hnd (i : Nat) : DRep K mg R hd as (.ref (hd i)) (.hnd i)

/-- one run of a def: the entry's heap, what was known then, the owned objects that were handed in, the ambient -/
structure Pm where
  H0 : Hp
  R0 : Hp
  mu : Addr → Prop
  hd : Nat → Addr
  B : Addr → Prop
  /-- where what was handed in to be changed lies -/
  as0 : List Addr := []

structure Rel (K : PySem.W.Frag) (mg : Str → Option Value) (Z : Rsc) (P : Pm) (R : Hp) (as : List Addr) (G : Env) (m : Sto) (σ : St) (H : Hp) : Prop where
  ex : Same R H
  len : G.length = σ.length
  env : ∀ (i : Nat) d, G[i]? = some (some d) → ∃ x, σ[i]? = some (some x) ∧ DRep K mg R P.hd as x d
  sto : ∀ (j : Nat) x, m[j]? = some (some x) → ∃ a, as[j]? = some a ∧ Own K mg R as H a x ∧ R a = none ∧ ¬ P.B a ∧ (P.H0 a = none ∨ (P.mu a ∧ j < Z.n0))
  inj : ∀ (j k : Nat) x y a, m[j]? = some (some x) → m[k]? = some (some y) → as[j]? = some a → as[k]? = some a → j = k
  vol : Z.Z H P.hd P.B
  rb : ∀ a, P.B a → R a = none
  frame : ∀ a o, P.H0 a = some o → ¬ P.mu a → ¬ P.B a → H a = some o
  dom : ∀ a, P.H0 a ≠ none → H a ≠ none
  fresh : ∀ a, R a ≠ none → P.R0 a ≠ none ∨ P.H0 a = none
  r0 : Same P.R0 R
  la : as.length = m.length
  pre : ∀ j : Nat, j < Z.n0 → as[j]? = P.as0[j]?

def flatO : Option Tr → Option Tr
  | some (.dt _) => none | some (.dl _) => none | some (.di _ _) => none | some (.at _) => none
  | o => o
theorem flatO_some {o : Option Tr} {x : Tr} (e : flatO o = some x) : o = some x ∧ shal x = true := by
  cases o with
  | none => cases e
  | some y => cases y <;> cases e <;> exact ⟨rfl, rfl⟩
/-- what a name's thing is, as data -/
def view (m : Sto) : Dv → Option Tr
  | .t x => some x
  | .loc j => flatO (m.getD j none)
  | .hnd _ => none

/-- an expression's step: all but the ambient stands, more may be known, of what is new alone -/
structure Nx (P : Pm) (R H R' H' : Hp) : Prop where
  r : Same R R'
  h : ∀ a o, ¬ P.B a → H a = some o → H' a = some o
  n : ∀ a, R' a ≠ none → R a ≠ none ∨ H a = none
  d : ∀ a, H a ≠ none → H' a ≠ none
theorem Nx.refl {P : Pm} {R H : Hp} : Nx P R H R H := ⟨Same.refl _, fun _ _ _ h => h, fun _ h => .inl h, fun _ h => h⟩
theorem Nx.trans {P : Pm} {R H R1 H1 R2 H2 : Hp} (a : Nx P R H R1 H1) (b : Nx P R1 H1 R2 H2) : Nx P R H R2 H2 :=
  ⟨a.r.trans b.r, fun c o n h => b.h c o n (a.h c o n h), fun c h => by
    rcases b.n c h with z | z
    · exact a.n c z
    · right
      cases q : H c with
      | none => rfl
      | some o => exact absurd z (a.d c (by rw [q]; simp)), fun c h => b.d c (a.d c h)⟩

section
variable {K : PySem.W.Frag} {mg : Str → Option Value} {Z : Rsc} {P : Pm} {R R' H H' : Hp} {as : List Addr} {G : Env} {m : Sto} {σ : St}
theorem DRep.mono {v : V} {d : Dv} {hd : Nat → Addr} (s : Same R R') (h : DRep K mg R hd as v d) : DRep K mg R' hd as v d := by
  cases h with
  | t h => exact .t (h.mono s)
  | loc h => exact .loc h
  | hnd i => exact .hnd i
theorem ChR.mono {as' : List Addr} {v : V} {t : Tr} (s : Same R R') (q : ∀ (j : Nat) b, t = .at j → as[j]? = some b → as'[j]? = some b) (h : ChR K mg R as v t) : ChR K mg R' as' v t := by
  cases h with
  | k h => exact .k (h.mono s)
  | s h => exact .s (q _ _ rfl h)
/-- no item of a cell is the site j -/
def isAt (j : Nat) : Tr → Bool
  | .at k => k == j
  | _ => false
def noAt (j : Nat) : Tr → Bool
  | .dt ts => ts.all fun t => !isAt j t
  | .dl ts => ts.all fun t => !isAt j t
  | .di _ fs => fs.all fun f => !isAt j f.2
  | _ => true
theorem paired_imp {α β : Type} {F F' : α → β → Prop} : ∀ {l : List α} {m : List β}, Paired F l m → (∀ a b, b ∈ m → F a b → F' a b) → Paired F' l m
  | _, _, .nil, _ => .nil
  | _, _, .cons r t, h => .cons (h _ _ List.mem_cons_self r) (paired_imp t fun a b hb q => h a b (List.mem_cons_of_mem _ hb) q)
/-- the same cell, where more is known, other sites lie about -/
theorem Own.monoA {as' : List Addr} {a : Addr} {x : Tr} (s : Same R R') (e : ∀ o, H a = some o → H' a = some o) (q : ∀ (j : Nat) b, noAt j x = false → as[j]? = some b → as'[j]? = some b) (h : Own K mg R as H a x) : Own K mg R' as' H' a x := by
  have key : ∀ {ts : List Tr}, (∀ (j : Nat) b, (ts.all fun t => !isAt j t) = false → as[j]? = some b → as'[j]? = some b) → ∀ t ∈ ts, ∀ (j : Nat) b, t = .at j → as[j]? = some b → as'[j]? = some b := fun {ts} q t ht j b et hb => by
    refine q j b ?_ hb
    cases e : (ts.all fun t => !isAt j t) with
    | false => rfl
    | true =>
      rw [List.all_eq_true] at e
      have := e t ht
      subst et
      simp [isAt] at this
  cases x with
  | lst ts => obtain ⟨xs, h1, h2⟩ := h; exact ⟨xs, e _ h1, Reps.mono s h2⟩
  | dic ts => obtain ⟨xs, h1, h2⟩ := h; exact ⟨xs, e _ h1, RepsP.mono s h2⟩
  | ins c ts => obtain ⟨C, dx, xs, h0, h1, h2⟩ := h; exact ⟨C, dx, xs, h0, e _ h1, RepsP.mono s h2⟩
  | dt ts => obtain ⟨xs, h1, h2⟩ := h; exact ⟨xs, e _ h1, paired_imp h2 fun v t ht r => r.mono s (key q t ht)⟩
  | dl ts => obtain ⟨xs, h1, h2⟩ := h; exact ⟨xs, e _ h1, paired_imp h2 fun v t ht r => r.mono s (key q t ht)⟩
  | di c ts =>
    obtain ⟨C, dx, xs, h0, h1, h2⟩ := h
    refine ⟨C, dx, xs, h0, e _ h1, paired_imp h2 fun v t ht r => ⟨r.1, r.2.mono s fun j b et hb => q j b ?_ hb⟩⟩
    show (ts.all fun f => !isAt j f.2) = false
    cases e : (ts.all fun f => !isAt j f.2) with
    | false => rfl
    | true =>
      rw [List.all_eq_true] at e
      have := e t ht
      rw [et] at this
      simp [isAt] at this
  | _ => exact h.elim
theorem Own.mono {a : Addr} {x : Tr} (s : Same R R') (e : ∀ o, H a = some o → H' a = some o) (h : Own K mg R as H a x) : Own K mg R' as H' a x := h.monoA s e fun _ _ _ q => q
theorem Own.there {a : Addr} {x : Tr} (h : Own K mg R as H a x) : ∃ o, H a = some o := by
  cases x with
  | lst ts => obtain ⟨xs, h1, h2⟩ := h; exact ⟨_, h1⟩
  | dic ts => obtain ⟨xs, h1, h2⟩ := h; exact ⟨_, h1⟩
  | ins c ts => obtain ⟨C, dx, xs, h0, h1, h2⟩ := h; exact ⟨_, h1⟩
  | dt ts => obtain ⟨xs, h1, h2⟩ := h; exact ⟨_, h1⟩
  | dl ts => obtain ⟨xs, h1, h2⟩ := h; exact ⟨_, h1⟩
  | di c ts => obtain ⟨C, dx, xs, h0, h1, h2⟩ := h; exact ⟨_, h1⟩
  | _ => exact h.elim
/-- the data of a cell without sites, wherever its root and what is known stand -/
theorem Own.repR {a : Addr} {x : Tr} (f : shal x = true) (s : Same R R') (e : ∀ o, H a = some o → R' a = some o) (h : Own K mg R as H a x) : Rep K mg R' (.ref a) x := by
  cases x with
  | lst ts => obtain ⟨xs, h1, h2⟩ := h; exact .lstP (e _ h1) (Reps.mono s h2)
  | dic ts => obtain ⟨xs, h1, h2⟩ := h; exact .dicP (.inl (e _ h1)) (RepsP.mono s h2)
  | ins c ts => obtain ⟨C, dx, xs, h0, h1, h2⟩ := h; exact .insP h0 (e _ h1) (RepsP.mono s h2)
  | dt ts => cases f
  | dl ts => cases f
  | di c ts => cases f
  | _ => exact h.elim
theorem view_loc {j : Nat} {x : Tr} (e : view m (.loc j) = some x) : m[j]? = some (some x) ∧ shal x = true := by
  obtain ⟨h1, h2⟩ := flatO_some e
  refine ⟨?_, h2⟩
  rw [List.getD_eq_getElem?_getD] at h1
  cases q : m[j]? with
  | none => rw [q] at h1; cases h1
  | some o => rw [q] at h1; simp at h1; rw [h1]
theorem getD_some {α : Type} {l : List (Option α)} {j : Nat} {x : α} (h : l.getD j none = some x) : l[j]? = some (some x) := by
  rw [List.getD_eq_getElem?_getD] at h
  cases e : l[j]? with
  | none => rw [e] at h; cases h
  | some o => rw [e] at h; simp at h; rw [h]
/-- the data of a value stand in the heap -/
theorem Rel.repd {v : V} {d : Dv} {x : Tr} (r : Rel K mg Z P R as G m σ H) (h : DRep K mg R P.hd as v d) (e : view m d = some x) : Rep K mg H v x := by
  cases h with
  | t h => simp [VL.view] at e; subst e; exact h.mono r.ex
  | loc h =>
    obtain ⟨e, f⟩ := view_loc e
    obtain ⟨a, h1, h2, _⟩ := r.sto _ _ e
    rw [h1] at h; cases h
    exact h2.repR f r.ex fun _ q => q
  | hnd i => cases e
/-- an address that is new -/
theorem Rel.newR (r : Rel K mg Z P R as G m σ H) {p : Addr} (hp : H p = none) : R p = none := Same.free r.ex hp
theorem Rel.newB (r : Rel K mg Z P R as G m σ H) {p : Addr} (hp : H p = none) : ¬ P.B p := fun b => Z.dm _ _ _ r.vol p b hp
theorem Rel.new0 (r : Rel K mg Z P R as G m σ H) {p : Addr} (hp : H p = none) : P.H0 p = none := by
  cases e : P.H0 p with
  | none => rfl
  | some o => exact absurd hp (r.dom p (by rw [e]; simp))
theorem Rel.newA (r : Rel K mg Z P R as G m σ H) {p : Addr} (hp : H p = none) {j : Nat} {x : Tr} (h : m[j]? = some (some x)) : as[j]? ≠ some p := fun e => by
  obtain ⟨a, h1, h2, _⟩ := r.sto j x h
  rw [h1] at e; cases e
  obtain ⟨o, h3⟩ := h2.there
  rw [hp] at h3; cases h3
theorem same_new {p : Addr} {o : HO} (hp : H p = none) : Same H (upd H p o) := fun b u e => by rw [upd_ne (ne_of_none e hp)]; exact e
theorem same_both {p : Addr} {o : HO} (s : Same R H) : Same (upd R p o) (upd H p o) := fun b u e => by
  by_cases hb : b = p
  · subst hb; rw [upd_same] at e ⊢; exact e
  · rw [upd_ne hb] at e ⊢; exact s _ _ e
theorem same_put {p : Addr} {o : HO} (hp : R p = none) (s : Same R H) : Same R (upd H p o) := fun b u e => by
  rw [upd_ne (ne_of_none e hp)]; exact s _ _ e
/-- the heap grows by things that are not known -/
theorem Rel.step (r : Rel K mg Z P R as G m σ H) (x : Nx P R H R' H') (ex : Same R' H') (vol : Z.Z H' P.hd P.B) : Rel K mg Z P R' as G m σ H' where
  ex := ex
  len := r.len
  env := fun i d e => let ⟨v, h1, h2⟩ := r.env i d e; ⟨v, h1, h2.mono x.r⟩
  sto := fun j y e => by
    obtain ⟨a, h1, h2, h3, h4, h5⟩ := r.sto j y e
    refine ⟨a, h1, h2.mono x.r fun o q => x.h a o h4 q, ?_, h4, h5⟩
    cases q : R' a with
    | none => rfl
    | some o =>
      rcases x.n a (by rw [q]; simp) with z | z
      · exact absurd h3 z
      · obtain ⟨o, h6⟩ := h2.there
        rw [z] at h6; cases h6
  inj := r.inj
  vol := vol
  rb := fun a b => by
    cases q : R' a with
    | none => rfl
    | some o =>
      rcases x.n a (by rw [q]; simp) with z | z
      · exact absurd (r.rb a b) z
      · exact absurd z (Z.dm _ _ _ r.vol a b)
  frame := fun a o e n b => x.h a o b (r.frame a o e n b)
  dom := fun a e => x.d a (r.dom a e)
  fresh := fun a e => by
    rcases x.n a e with z | z
    · exact r.fresh a z
    · exact .inr (r.new0 z)
  r0 := r.r0.trans x.r
  la := r.la
  pre := r.pre
/-- a new object is laid and known -/
theorem Rel.laid (r : Rel K mg Z P R as G m σ H) {p : Addr} {o : HO} (hp : H p = none) : Rel K mg Z P (upd R p o) as G m σ (upd H p o) ∧ Nx P R H (upd R p o) (upd H p o) := by
  have sr : Same R (upd R p o) := same_new (r.newR hp)
  have sh : Same H (upd H p o) := same_new hp
  have x : Nx P R H (upd R p o) (upd H p o) := ⟨sr, fun a u _ e => sh a u e, fun a e => by
    by_cases h : a = p
    · subst h; exact .inr hp
    · rw [upd_ne h] at e; exact .inl e, fun a e => by
    cases q : H a with
    | none => exact absurd q e
    | some u => rw [sh a u q]; simp⟩
  exact ⟨r.step x (same_both r.ex) (Z.st _ _ _ _ (fun a b => upd_ne fun z => r.newB hp (by rw [← z]; exact b)) r.vol), x⟩
end

/-! ### cells seen through: all that hangs on a site, as data -/
def seeL (f : Tr → Option Tr) : List Tr → Option (List Tr)
  | [] => some []
  | t :: ts => (f t).bind fun x => (seeL f ts).map (x :: ·)
def seeP (f : Tr → Option Tr) : List (Str × Tr) → Option (List (Str × Tr))
  | [] => some []
  | t :: ts => (f t.2).bind fun x => (seeP f ts).map ((t.1, x) :: ·)
def see (m : Sto) : Nat → Tr → Option Tr
  | 0, _ => none
  | n + 1, .at j => (m.getD j none).bind (see m n)
  | n + 1, .dt ts => (seeL (see m n) ts).map .tup
  | n + 1, .dl ts => (seeL (see m n) ts).map .lst
  | n + 1, .di c fs => (seeP (see m n) fs).map (.ins c)
  | _ + 1, x => some x
def flatR (f : Tr → List Nat) : List Tr → List Nat
  | [] => []
  | t :: ts => f t ++ flatR f ts
/-- the sites that hang on it -/
def reach (m : Sto) : Nat → Tr → List Nat
  | 0, _ => []
  | n + 1, .at j => j :: (match m.getD j none with | some x => reach m n x | none => [])
  | n + 1, .dt ts => flatR (reach m n) ts
  | n + 1, .dl ts => flatR (reach m n) ts
  | n + 1, .di _ fs => flatR (reach m n) (fs.map (·.2))
  | _ + 1, _ => []
theorem see_shal {m : Sto} {n : Nat} {x : Tr} (f : shal x = true) : see m (n + 1) x = some x ∧ reach m (n + 1) x = [] := by
  cases x <;> (first | exact ⟨rfl, rfl⟩ | cases f)
theorem see_view {m : Sto} {j : Nat} {x : Tr} (e : view m (.loc j) = some x) : see m 12 (.at j) = some x ∧ reach m 12 (.at j) = [j] := by
  obtain ⟨h1, h2⟩ := view_loc e
  have h3 : m.getD j none = some x := by rw [List.getD_eq_getElem?_getD, h1]; rfl
  obtain ⟨q1, q2⟩ := see_shal (m := m) (n := 10) h2
  constructor
  · show (m.getD j none).bind (see m 11) = _
    rw [h3]; exact q1
  · show j :: (match m.getD j none with | some x => reach m 11 x | none => []) = _
    rw [h3]
    show j :: reach m 11 x = _
    rw [q2]
section
variable {K : PySem.W.Frag} {mg : Str → Option Value} {Z : Rsc} {P : Pm} {R R' H H' : Hp} {as : List Addr} {G : Env} {m : Sto} {σ : St}
theorem flatR_mem {f : Tr → List Nat} {j : Nat} : ∀ {ts : List Tr} {t : Tr}, t ∈ ts → j ∈ f t → j ∈ flatR f ts
  | a :: ts, t, h, q => by
    unfold flatR
    rcases List.mem_cons.mp h with z | z
    · subst z; exact List.mem_append_left _ q
    · exact List.mem_append_right _ (flatR_mem z q)
/-- what is seen stands where the roots of these sites stand -/
theorem see_rep {S : Nat → Prop} (s : Same R R') (hs : ∀ (j : Nat) y, m[j]? = some (some y) → S j → ∃ a, as[j]? = some a ∧ Own K mg R as H a y ∧ ∀ o, H a = some o → R' a = some o) : ∀ n : Nat,
    (∀ t v x, ChR K mg R as v t → see m n t = some x → (∀ j ∈ reach m n t, S j) → Rep K mg R' v x) ∧
    (∀ a y x, Own K mg R as H a y → (∀ o, H a = some o → R' a = some o) → see m n y = some x → (∀ j ∈ reach m n y, S j) → Rep K mg R' (.ref a) x) := by
  intro n
  induction n with
  | zero => exact ⟨fun t v x _ e => (by cases e), fun a y x _ _ e => (by cases e)⟩
  | succ n ih =>
    obtain ⟨ih1, ih2⟩ := ih
    have lst : ∀ {ts : List Tr} {xs : List V} {us : List Tr}, Paired (ChR K mg R as) xs ts → seeL (see m n) ts = some us → (∀ j ∈ flatR (reach m n) ts, S j) → Reps K mg R' xs us := fun {ts xs us} h => by
      induction h generalizing us with
      | nil => intro e _; simp [seeL] at e; subst e; exact .nil
      | @cons v t l l' r _ ih =>
        intro e hS
        unfold seeL at e
        cases q : see m n t with
        | none => rw [q] at e; cases e
        | some x =>
          rw [q] at e
          cases q2 : seeL (see m n) l' with
          | none => rw [Option.bind_some, q2] at e; cases e
          | some us' =>
            rw [Option.bind_some, q2] at e
            cases e
            refine .cons (ih1 t v x r q fun j hj => hS j ?_) (ih q2 fun j hj => hS j ?_)
            · exact List.mem_append_left _ hj
            · exact List.mem_append_right _ hj
    have prs : ∀ {ts : List (Str × Tr)} {xs : List (Str × V)} {us : List (Str × Tr)}, Paired (fun p q => p.1 = q.1 ∧ ChR K mg R as p.2 q.2) xs ts → seeP (see m n) ts = some us → (∀ j ∈ flatR (reach m n) (ts.map (·.2)), S j) → RepsP K mg R' xs us := fun {ts xs us} h => by
      induction h generalizing us with
      | nil => intro e _; simp [seeP] at e; subst e; exact .nil
      | @cons v t l l' r _ ih =>
        intro e hS
        unfold seeP at e
        cases q : see m n t.2 with
        | none => rw [q] at e; cases e
        | some x =>
          rw [q] at e
          cases q2 : seeP (see m n) l' with
          | none => rw [Option.bind_some, q2] at e; cases e
          | some us' =>
            rw [Option.bind_some, q2] at e
            cases e
            refine .cons ⟨r.1, ih1 t.2 v.2 x r.2 q fun j hj => hS j ?_⟩ (ih q2 fun j hj => hS j ?_)
            · exact List.mem_append_left _ hj
            · exact List.mem_append_right _ hj
    refine ⟨fun t v x h e hS => ?_, fun a y x h ea e hS => ?_⟩
    · cases h with
      | k h =>
        have : see m (n + 1) t = some t := by cases h <;> rfl
        rw [this] at e
        cases e
        exact h.mono s
      | @s j a h =>
        have e : (m.getD j none).bind (see m n) = some x := e
        have hj : S j := hS j List.mem_cons_self
        cases q : m.getD j none with
        | none => rw [q] at e; cases e
        | some y =>
          rw [q] at e
          obtain ⟨b, h1, h2, h3⟩ := hs j y (getD_some q) hj
          rw [h] at h1
          cases h1
          refine ih2 a y x h2 h3 e fun k hk => hS k ?_
          show k ∈ j :: (match m.getD j none with | some x => reach m n x | none => [])
          rw [q]
          exact List.mem_cons_of_mem _ hk
    · cases y with
      | lst ts => cases e; exact h.repR rfl s ea
      | dic ts => cases e; exact h.repR rfl s ea
      | ins c ts => cases e; exact h.repR rfl s ea
      | dt ts =>
        obtain ⟨xs, h1, h2⟩ := h
        have e : (seeL (see m n) ts).map Tr.tup = some x := e
        cases q : seeL (see m n) ts with
        | none => rw [q] at e; cases e
        | some us => rw [q] at e; cases e; exact .tupP (ea _ h1) (lst h2 q hS)
      | dl ts =>
        obtain ⟨xs, h1, h2⟩ := h
        have e : (seeL (see m n) ts).map Tr.lst = some x := e
        cases q : seeL (see m n) ts with
        | none => rw [q] at e; cases e
        | some us => rw [q] at e; cases e; exact .lstP (ea _ h1) (lst h2 q hS)
      | di c ts =>
        obtain ⟨C, dx, xs, h0, h1, h2⟩ := h
        have e : (seeP (see m n) ts).map (Tr.ins c) = some x := e
        cases q : seeP (see m n) ts with
        | none => rw [q] at e; cases e
        | some us => rw [q] at e; cases e; exact .insP h0 (ea _ h1) (prs h2 q hS)
      | _ => exact h.elim
/-- as data, through sites -/
def viewD (m : Sto) : Dv → Option Tr
  | .t x => some x
  | .loc j => see m 12 (.at j)
  | .hnd _ => none
theorem viewD_of {d : Dv} {x : Tr} (e : view m d = some x) : viewD m d = some x := by
  cases d with
  | t x => exact e
  | loc j => exact (see_view e).1
  | hnd i => cases e
theorem Rel.repD {v : V} {d : Dv} {x : Tr} (r : Rel K mg Z P R as G m σ H) (h : DRep K mg R P.hd as v d) (e : viewD m d = some x) : Rep K mg H v x := by
  cases h with
  | t h => simp [VL.viewD] at e; subst e; exact h.mono r.ex
  | @loc j a h => exact (see_rep (S := fun _ => True) r.ex (fun j y hy _ => let ⟨a, h1, h2, _⟩ := r.sto j y hy; ⟨a, h1, h2, fun _ q => q⟩) 12).1 (.at j) _ _ (.s h) e fun _ _ => trivial
  | hnd i => cases e
def wipeM (m : Sto) : List Nat → Sto
  | [] => m
  | j :: js => (wipeM m js).set j none
theorem wipeM_len : ∀ js : List Nat, (wipeM m js).length = m.length
  | [] => rfl
  | j :: js => by unfold wipeM; rw [List.length_set, wipeM_len js]
theorem wipeM_at {j : Nat} {x : Tr} : ∀ {js : List Nat}, (wipeM m js)[j]? = some (some x) → j ∉ js ∧ m[j]? = some (some x)
  | [], h => ⟨by simp, h⟩
  | k :: js, h => by
    unfold wipeM at h
    by_cases hk : k = j
    · subst hk
      by_cases hl : k < (wipeM m js).length
      · rw [List.getElem?_set_self hl] at h; cases h
      · rw [List.getElem?_eq_none (by simpa using hl)] at h; cases h
    · rw [List.getElem?_set_ne hk] at h
      obtain ⟨h1, h2⟩ := wipeM_at h
      exact ⟨by simp only [List.mem_cons, not_or]; exact ⟨fun e => hk e.symm, h1⟩, h2⟩
/-- sites are let go -/
theorem Rel.wipeS (r : Rel K mg Z P R as G m σ H) (js : List Nat) : Rel K mg Z P R as G (wipeM m js) σ H :=
  { r with
    sto := fun j x e => r.sto j x (wipeM_at e).2
    inj := fun j k x y a e1 e2 => r.inj j k x y a (wipeM_at e1).2 (wipeM_at e2).2
    la := by rw [wipeM_len]; exact r.la }
end
end VL

/-! VL, part B: expressions. -/
namespace VL
open PySem L2

abbrev DK := Dv → Prop
abbrev XK := Str → Prop
abbrev VE := Env → Sto → DK → XK → Prop
abbrev VT := Env → Sto → (Bool → Prop) → XK → Prop
abbrev VA := Env → Sto → (List Dv → Prop) → XK → Prop

/-- what is wanted behind an expression -/
structure Kn (K : PySem.W.Frag) (mg : Str → Option Value) (Z : Rsc) (W : WX) (P : Pm) (R : Hp) (as : List Addr) (G : Env) (m : Sto) (σ : L2.St) (H : Hp) (k : DK) (x : XK) (Q : VK) : Prop where
  ok : ∀ d v R' H', k d → Nx P R H R' H' → Rel K mg Z P R' as G m σ H' → DRep K mg R' P.hd as v d → Q v H'
  er : ∀ nm cl R' H', x nm → mg nm = some cl → Nx P R H R' H' → Rel K mg Z P R' as G m σ H' → W cl none σ H'
structure KnT (K : PySem.W.Frag) (mg : Str → Option Value) (Z : Rsc) (W : WX) (P : Pm) (R : Hp) (as : List Addr) (G : Env) (m : Sto) (σ : L2.St) (H : Hp) (k : Bool → Prop) (x : XK) (Q : Bool → Hp → Prop) : Prop where
  ok : ∀ b R' H', k b → Nx P R H R' H' → Rel K mg Z P R' as G m σ H' → Q b H'
  er : ∀ nm cl R' H', x nm → mg nm = some cl → Nx P R H R' H' → Rel K mg Z P R' as G m σ H' → W cl none σ H'
structure KnA (K : PySem.W.Frag) (mg : Str → Option Value) (Z : Rsc) (W : WX) (P : Pm) (R : Hp) (as : List Addr) (G : Env) (m : Sto) (σ : L2.St) (H : Hp) (k : List Dv → Prop) (x : XK) (Q : List V → Hp → Prop) : Prop where
  ok : ∀ ds vs R' H', k ds → Nx P R H R' H' → Rel K mg Z P R' as G m σ H' → Paired (DRep K mg R' P.hd as) vs ds → Q vs H'
  er : ∀ nm cl R' H', x nm → mg nm = some cl → Nx P R H R' H' → Rel K mg Z P R' as G m σ H' → W cl none σ H'
def LE (K : PySem.W.Frag) (mg : Str → Option Value) (Z : Rsc) (W : WX) (e : VE) : TE := fun σ H Q => ∃ P R as G m k x, Rel K mg Z P R as G m σ H ∧ e G m k x ∧ Kn K mg Z W P R as G m σ H k x Q
def LT (K : PySem.W.Frag) (mg : Str → Option Value) (Z : Rsc) (W : WX) (e : VT) : TT := fun σ H Q => ∃ P R as G m k x, Rel K mg Z P R as G m σ H ∧ e G m k x ∧ KnT K mg Z W P R as G m σ H k x Q
def LA (K : PySem.W.Frag) (mg : Str → Option Value) (Z : Rsc) (W : WX) (e : VA) : TA := fun σ H Q => ∃ P R as G m k x, Rel K mg Z P R as G m σ H ∧ e G m k x ∧ KnA K mg Z W P R as G m σ H k x Q

theorem PE.imp {X : Cx} {e : Expr} {t t' : TE} (h : PE X e t) (hi : ∀ σ H Q, t' σ H Q → t σ H Q) : PE X e t' := ⟨fun pins s σ H Q I q => h.run pins s σ H Q I (hi σ H Q q)⟩
theorem PT.imp {X : Cx} {e : Expr} {t t' : TT} (h : PT X e t) (hi : ∀ σ H Q, t' σ H Q → t σ H Q) : PT X e t' := ⟨fun pins s σ H Q I q => h.run pins s σ H Q I (hi σ H Q q)⟩
theorem PA.imp {X : Cx} {e : List Expr} {t t' : TA} (h : PA X e t) (hi : ∀ σ H Q, t' σ H Q → t σ H Q) : PA X e t' := ⟨fun pos pins s σ H Q I q => h.run pos pins s σ H Q I (hi σ H Q q)⟩
theorem PS.imp {X : Cx} {e : Stmt} {t t' : TS} (h : PS X e t) (hi : ∀ D σ H, t' D σ H → t D σ H) : PS X e t' := ⟨fun pins s σ H D I q => h.run pins s σ H D I (hi D σ H q)⟩
theorem PSs.imp {X : Cx} {e : List Stmt} {t t' : TS} (h : PSs X e t) (hi : ∀ D σ H, t' D σ H → t D σ H) : PSs X e t' := ⟨fun pins s σ H D I q => h.run pins s σ H D I (hi D σ H q)⟩
theorem PE.or {X : Cx} {e : Expr} {t t' : TE} (h : PE X e t) (h' : PE X e t') : PE X e (fun σ H Q => t σ H Q ∨ t' σ H Q) := ⟨fun pins s σ H Q I q => q.elim (h.run pins s σ H Q I) (h'.run pins s σ H Q I)⟩

section
variable {K : PySem.W.Frag} {mg : Str → Option Value} {Z : Rsc} {W : WX} {P : Pm} {R R' H H' : Hp} {as : List Addr} {G : Env} {m : Sto} {σ : L2.St}
theorem Kn.step {k : DK} {x : XK} {Q : VK} (n : Kn K mg Z W P R as G m σ H k x Q) (s : Nx P R H R' H') : Kn K mg Z W P R' as G m σ H' k x Q :=
  ⟨fun d v R2 H2 a b c e => n.ok d v R2 H2 a (s.trans b) c e, fun nm cl R2 H2 a b c e => n.er nm cl R2 H2 a b (s.trans c) e⟩
theorem KnT.step {k : Bool → Prop} {x : XK} {Q : Bool → Hp → Prop} (n : KnT K mg Z W P R as G m σ H k x Q) (s : Nx P R H R' H') : KnT K mg Z W P R' as G m σ H' k x Q :=
  ⟨fun d R2 H2 a b c => n.ok d R2 H2 a (s.trans b) c, fun nm cl R2 H2 a b c e => n.er nm cl R2 H2 a b (s.trans c) e⟩
theorem KnA.step {k : List Dv → Prop} {x : XK} {Q : List V → Hp → Prop} (n : KnA K mg Z W P R as G m σ H k x Q) (s : Nx P R H R' H') : KnA K mg Z W P R' as G m σ H' k x Q :=
  ⟨fun d v R2 H2 a b c e => n.ok d v R2 H2 a (s.trans b) c e, fun nm cl R2 H2 a b c e => n.er nm cl R2 H2 a b (s.trans c) e⟩
/-- an expression within another: what is wanted of it -/
theorem LE.go {e : VE} {k : DK} {x : XK} {Q : VK} (r : Rel K mg Z P R as G m σ H) (h : e G m k x)
    (ok : ∀ d v R' H', k d → Nx P R H R' H' → Rel K mg Z P R' as G m σ H' → DRep K mg R' P.hd as v d → Q v H')
    (er : ∀ nm cl R' H', x nm → mg nm = some cl → Nx P R H R' H' → Rel K mg Z P R' as G m σ H' → W cl none σ H') : LE K mg Z W e σ H Q := ⟨P, R, as, G, m, k, x, r, h, ok, er⟩
theorem LT.go {e : VT} {k : Bool → Prop} {x : XK} {Q : Bool → Hp → Prop} (r : Rel K mg Z P R as G m σ H) (h : e G m k x)
    (ok : ∀ d R' H', k d → Nx P R H R' H' → Rel K mg Z P R' as G m σ H' → Q d H')
    (er : ∀ nm cl R' H', x nm → mg nm = some cl → Nx P R H R' H' → Rel K mg Z P R' as G m σ H' → W cl none σ H') : LT K mg Z W e σ H Q := ⟨P, R, as, G, m, k, x, r, h, ok, er⟩
theorem LA.go {e : VA} {k : List Dv → Prop} {x : XK} {Q : List V → Hp → Prop} (r : Rel K mg Z P R as G m σ H) (h : e G m k x)
    (ok : ∀ d v R' H', k d → Nx P R H R' H' → Rel K mg Z P R' as G m σ H' → Paired (DRep K mg R' P.hd as) v d → Q v H')
    (er : ∀ nm cl R' H', x nm → mg nm = some cl → Nx P R H R' H' → Rel K mg Z P R' as G m σ H' → W cl none σ H') : LA K mg Z W e σ H Q := ⟨P, R, as, G, m, k, x, r, h, ok, er⟩
end

/-! ### names, constants -/
def vVar (i : Nat) : VE := fun G _ k _ => ∃ d, G[i]? = some (some d) ∧ k d
abbrev vC (x : Tr) : VE := fun _ _ k _ => k (.t x)
theorem vVar_i {i : Nat} {G : Env} {m : Sto} {k : DK} {x : XK} {d : Dv} (h : G[i]? = some (some d)) (q : k d) : vVar i G m k x := ⟨d, h, q⟩
theorem vC_i {c : Tr} {G : Env} {m : Sto} {k : DK} {x : XK} (q : k (.t c)) : vC c G m k x := q
section
variable {X : Cx} {Z : Rsc} {W : WX}
theorem v_var (i : Nat) {x : Str} {pos : Pos} (hN : X.N[i]? = some x := by rfl) (hv : Vis X.env.scope x := by first | exact Or.inl rfl | exact Or.inr (Or.inl rfl) | exact Or.inr (Or.inr rfl)) (hd : (x == ("__debug__" : Str)) = false := by decide)
    (hcd : (x == ("__classdict__" : Str)) = false := by decide) : PE X (.Name x pos) (LE X.K X.mg Z W (vVar i)) :=
  PE.imp (pe_var hN hv hd hcd) fun σ H Q ⟨P, R, as, G, m, k, xk, r, ⟨d, hd, hk⟩, n⟩ => by
    obtain ⟨v, h1, h2⟩ := r.env i d hd
    exact ⟨v, h1, n.ok d v R H hk .refl r h2⟩
theorem v_int {i : Int} {j : Nat} {pos : Pos} : PE X (.Constant (.int i) j pos) (LE X.K X.mg Z W (vC (.int i))) := PE.imp pe_int fun σ H Q ⟨P, R, as, G, m, k, xk, r, hk, n⟩ => n.ok _ _ R H hk .refl r (.t (.int i))
theorem v_bl {b : Bool} {j : Nat} {pos : Pos} : PE X (.Constant (.bool b) j pos) (LE X.K X.mg Z W (vC (.bl b))) := PE.imp pe_bl fun σ H Q ⟨P, R, as, G, m, k, xk, r, hk, n⟩ => n.ok _ _ R H hk .refl r (.t (.bl b))
theorem v_non {j : Nat} {pos : Pos} : PE X (.Constant .none j pos) (LE X.K X.mg Z W (vC .non)) := PE.imp pe_non fun σ H Q ⟨P, R, as, G, m, k, xk, r, hk, n⟩ => n.ok _ _ R H hk .refl r (.t .non)
theorem v_str {x : Str} {j : Nat} {pos : Pos} : PE X (.Constant (.str x) j pos) (LE X.K X.mg Z W (vC (.str x))) := PE.imp pe_str fun σ H Q ⟨P, R, as, G, m, k, xk, r, hk, n⟩ => n.ok _ _ R H hk .refl r (.t (.str x))
/-- a constant of the module -/
theorem v_glob {x : Str} {v : V} {t : Tr} {u : Value} {pos : Pos} (hg : Gl X x) (hm : X.mg x = some u) (rv : RelV v u) (hr : ∀ R, Rep X.K X.mg R v t) (hd : (x == ("__debug__" : Str)) = false := by decide) : PE X (.Name x pos) (LE X.K X.mg Z W (vC t)) :=
  PE.imp (pe_glob hg hm rv hd) fun σ H Q ⟨P, R, as, G, m, k, xk, r, hk, n⟩ => n.ok _ _ R H hk .refl r (.t (hr R))
end

/-! ### operations on two values -/
abbrev O2 := Sto → Dv → Dv → DK → Prop
abbrev vOp (f : O2) (a b : VE) : VE := fun G m k x => a G m (fun d => b G m (fun e => f m d e k) x) x
theorem vOp_i {f : O2} {a b : VE} {G : Env} {m : Sto} {k : DK} {x : XK} (h : a G m (fun d => b G m (fun e => f m d e k) x) x) : vOp f a b G m k x := h
def Lo2 (K : PySem.W.Frag) (mg : Str → Option Value) (r : R2) (f : O2) : Prop := ∀ (Z : Rsc) P R as G m σ H v w d e k Q, Rel K mg Z P R as G m σ H → DRep K mg R P.hd as v d → DRep K mg R P.hd as w e → f m d e k →
  (∀ z u R' H', k z → Nx P R H R' H' → Rel K mg Z P R' as G m σ H' → DRep K mg R' P.hd as u z → Q u H') → r v w H Q
theorem Lo2.or {K : PySem.W.Frag} {mg : Str → Option Value} {r r' : R2} {f f' : O2} (h : Lo2 K mg r f) (h' : Lo2 K mg r' f') : Lo2 K mg (fun x y H Q => r x y H Q ∨ r' x y H Q) (fun m d e k => f m d e k ∨ f' m d e k) :=
  fun Z P R as G m σ H v w d e k Q a b c q k => q.elim (fun q => .inl (h Z P R as G m σ H v w d e _ Q a b c q k)) fun q => .inr (h' Z P R as G m σ H v w d e _ Q a b c q k)
theorem lo2 {K : PySem.W.Frag} {mg : Str → Option Value} {Z : Rsc} {W : WX} {r : R2} {f : O2} {a b : VE} (hr : Lo2 K mg r f) : ∀ σ H Q, LE K mg Z W (vOp f a b) σ H Q → tOp r (LE K mg Z W a) (LE K mg Z W b) σ H Q :=
  fun σ H Q ⟨P, R, as, G, m, k, xk, r0, h, n⟩ => LE.go r0 h (fun d v R1 H1 h1 n1 r1 d1 => LE.go r1 h1 (fun e w R2 H2 h2 n2 r2 d2 =>
    hr Z P R2 as G m σ H2 v w d e k Q r2 (d1.mono n2.r) d2 h2 fun z u R3 H3 h3 n3 r3 d3 => n.ok z u R3 H3 h3 ((n1.trans n2).trans n3) r3 d3) (n.step n1).er) n.er
section
variable {X : Cx} {Z : Rsc} {W : WX} {a b : Expr} {ea eb : VE} {pos : Pos}
theorem v_op {op : Operator} {r : R2} {f : O2} (ho : OpR X (binaryOp op) r) (hr : Lo2 X.K X.mg r f) (ha : PE X a (LE X.K X.mg Z W ea)) (hb : PE X b (LE X.K X.mg Z W eb)) : PE X (.BinOp a op b pos) (LE X.K X.mg Z W (vOp f ea eb)) :=
  PE.imp (pe_op ho ha hb) (lo2 hr)
theorem v_cmp {op : CmpOp} {r : R2} {f : O2} (ho : OpR X (compareOp op) r) (hr : Lo2 X.K X.mg r f) (ha : PE X a (LE X.K X.mg Z W ea)) (hb : PE X b (LE X.K X.mg Z W eb)) (hm : behindInMarks op b = false) : PE X (.Compare a [op] [b] pos) (LE X.K X.mg Z W (vOp f ea eb)) :=
  PE.imp (pe_cmpR ho ha hb hm) (lo2 hr)
theorem v_ix {r : R2} {f : O2} (ho : IxR X r) (hr : Lo2 X.K X.mg r f) (ha : PE X a (LE X.K X.mg Z W ea)) (hb : PE X b (LE X.K X.mg Z W eb)) (hs : PlainIx b) : PE X (.Subscript a b pos) (LE X.K X.mg Z W (vOp f ea eb)) :=
  PE.imp (pe_ix ho ha hb hs) (lo2 hr)
end

section
variable {K : PySem.W.Frag} {mg : Str → Option Value}
theorem Rel.vInt {Z : Rsc} {P : Pm} {R H : Hp} {as : List Addr} {G : Env} {m : Sto} {σ : L2.St} {v : V} {d : Dv} {i : Int} (r : Rel K mg Z P R as G m σ H) (h : DRep K mg R P.hd as v d) (e : view m d = some (.int i)) : v = .int i := by
  cases r.repd h e; rfl
theorem Rel.vStr {Z : Rsc} {P : Pm} {R H : Hp} {as : List Addr} {G : Env} {m : Sto} {σ : L2.St} {v : V} {d : Dv} {i : Str} (r : Rel K mg Z P R as G m σ H) (h : DRep K mg R P.hd as v d) (e : view m d = some (.str i)) : v = .str i := by
  cases r.repd h e; rfl
theorem Rel.vBl {Z : Rsc} {P : Pm} {R H : Hp} {as : List Addr} {G : Env} {m : Sto} {σ : L2.St} {v : V} {d : Dv} {i : Bool} (r : Rel K mg Z P R as G m σ H) (h : DRep K mg R P.hd as v d) (e : view m d = some (.bl i)) : v = .bl i := by
  cases r.repd h e; rfl
theorem Rel.vNon {Z : Rsc} {P : Pm} {R H : Hp} {as : List Addr} {G : Env} {m : Sto} {σ : L2.St} {v : V} {d : Dv} (r : Rel K mg Z P R as G m σ H) (h : DRep K mg R P.hd as v d) (e : view m d = some .non) : v = .non := by
  cases r.repd h e; rfl
/-- the items of a list, known or owned: the list at a, its items known in R -/
theorem Rel.vLst {Z : Rsc} {P : Pm} {R H : Hp} {as : List Addr} {G : Env} {m : Sto} {σ : L2.St} {v : V} {d : Dv} {ts : List Tr} (r : Rel K mg Z P R as G m σ H) (h : DRep K mg R P.hd as v d) (e : view m d = some (.lst ts)) :
    ∃ a xs, v = .ref a ∧ H a = some (.lst xs) ∧ Reps K mg R xs ts := by
  cases h with
  | t h =>
    simp [view] at e; subst e
    obtain ⟨a, xs, rfl, h1, h2⟩ := h.lst_inv
    exact ⟨a, xs, rfl, r.ex _ _ h1, h2⟩
  | loc h =>
    obtain ⟨a, h1, h2, _⟩ := r.sto _ _ (view_loc e).1
    rw [h1] at h; cases h
    obtain ⟨xs, h3, h4⟩ := h2
    exact ⟨_, xs, rfl, h3, h4⟩
  | hnd i => cases e
theorem Rel.vTup {Z : Rsc} {P : Pm} {R H : Hp} {as : List Addr} {G : Env} {m : Sto} {σ : L2.St} {v : V} {d : Dv} {ts : List Tr} (r : Rel K mg Z P R as G m σ H) (h : DRep K mg R P.hd as v d) (e : view m d = some (.tup ts)) :
    ∃ a xs, v = .ref a ∧ H a = some (.tup xs) ∧ Reps K mg R xs ts := by
  cases h with
  | t h =>
    simp [view] at e; subst e
    obtain ⟨a, xs, rfl, h1, h2⟩ := h.tup_inv
    exact ⟨a, xs, rfl, r.ex _ _ h1, h2⟩
  | loc h =>
    obtain ⟨a, h1, h2, _⟩ := r.sto _ _ (view_loc e).1
    exact h2.elim
  | hnd i => cases e
theorem Rel.vDic {Z : Rsc} {P : Pm} {R H : Hp} {as : List Addr} {G : Env} {m : Sto} {σ : L2.St} {v : V} {d : Dv} {ts : List (Key × Tr)} (r : Rel K mg Z P R as G m σ H) (h : DRep K mg R P.hd as v d) (e : view m d = some (.dic ts)) :
    ∃ a xs, v = .ref a ∧ Rd H a (.dK xs) ∧ RepsP K mg R xs ts := by
  cases h with
  | t h =>
    simp [view] at e; subst e
    obtain ⟨a, xs, rfl, h1, h2⟩ := h.dic_inv
    exact ⟨a, xs, rfl, same_rd r.ex h1, h2⟩
  | loc h =>
    obtain ⟨a, h1, h2, _⟩ := r.sto _ _ (view_loc e).1
    rw [h1] at h; cases h
    obtain ⟨xs, h3, h4⟩ := h2
    exact ⟨_, xs, rfl, .inl h3, h4⟩
  | hnd i => cases e
theorem Rel.vScr {Z : Rsc} {P : Pm} {R H : Hp} {as : List Addr} {G : Env} {m : Sto} {σ : L2.St} {v : V} {d : Dv} {ns : List Int} (r : Rel K mg Z P R as G m σ H) (h : DRep K mg R P.hd as v d) (e : view m d = some (.scr ns)) :
    ∃ a, v = .ref a ∧ SqL K H a (ns.map V.int) := by
  cases r.repd h e with
  | scr h => exact ⟨_, rfl, h⟩
theorem Rel.vIns {Z : Rsc} {P : Pm} {R H : Hp} {as : List Addr} {G : Env} {m : Sto} {σ : L2.St} {v : V} {d : Dv} {c : Str} {ts : List (Str × Tr)} (r : Rel K mg Z P R as G m σ H) (h : DRep K mg R P.hd as v d) (e : view m d = some (.ins c ts)) :
    ∃ a C dx xs, v = .ref a ∧ mg c = some (.ref C) ∧ H a = some (.ins C dx xs) ∧ RepsP K mg R xs ts := by
  cases h with
  | t h =>
    simp [view] at e; subst e
    obtain ⟨a, C, dx, xs, rfl, h0, h1, h2⟩ := h.ins_inv
    exact ⟨a, C, dx, xs, rfl, h0, r.ex _ _ h1, h2⟩
  | loc h =>
    obtain ⟨a, h1, h2, _⟩ := r.sto _ _ (view_loc e).1
    rw [h1] at h; cases h
    obtain ⟨C, dx, xs, h0, h3, h4⟩ := h2
    exact ⟨_, C, dx, xs, rfl, h0, h3, h4⟩
  | hnd i => cases e

/-- two whole numbers give a flat thing -/
def fI (C : Int → Int → Prop) (g : Int → Int → Tr) : O2 := fun m d e k => ∃ i j, view m d = some (.int i) ∧ view m e = some (.int j) ∧ C i j ∧ k (.t (g i j))
def fI0 (g : Int → Int → Tr) : O2 := fun m d e k => ∃ i j, view m d = some (.int i) ∧ view m e = some (.int j) ∧ k (.t (g i j))
theorem lo_I {C : Int → Int → Prop} {g : Int → Int → V} {g' : Int → Int → Tr} (hg : ∀ R i j, Rep K mg R (g i j) (g' i j)) : Lo2 K mg (rI C g) (fI C g') := by
  rintro Z P R as G m σ H v w d e k Q r h1 h2 ⟨i, j, e1, e2, c, q⟩ n
  rw [r.vInt h1 e1, r.vInt h2 e2]
  exact ⟨i, j, rfl, rfl, c, n _ _ R H q .refl r (.t (hg R i j))⟩
theorem lo_I0 {g : Int → Int → V} {g' : Int → Int → Tr} (hg : ∀ R i j, Rep K mg R (g i j) (g' i j)) : Lo2 K mg (rI0 g) (fI0 g') := by
  rintro Z P R as G m σ H v w d e k Q r h1 h2 ⟨i, j, e1, e2, q⟩ n
  rw [r.vInt h1 e1, r.vInt h2 e2]
  exact ⟨i, j, rfl, rfl, n _ _ R H q .refl r (.t (hg R i j))⟩
/-- texts put together -/
def fCatS : O2 := fun m d e k => ∃ i j, view m d = some (.str i) ∧ view m e = some (.str j) ∧ i.length + j.length ≤ sizeLine ∧ k (.t (.str (i ++ j)))
theorem lo_catS : Lo2 K mg (fun x y H Q => ∃ i j, x = .str i ∧ y = .str j ∧ i.length + j.length ≤ sizeLine ∧ Q (.str (i ++ j)) H) fCatS := by
  rintro Z P R as G m σ H v w d e k Q r h1 h2 ⟨i, j, e1, e2, c, q⟩ n
  rw [r.vStr h1 e1, r.vStr h2 e2]
  exact ⟨i, j, rfl, rfl, c, n _ _ R H q .refl r (.t (.str _))⟩
/-- lists put together: a new known list -/
def fCatL : O2 := fun m d e k => ∃ xs ys, view m d = some (.lst xs) ∧ view m e = some (.lst ys) ∧ xs.length + ys.length ≤ sizeLine ∧ k (.t (.lst (xs ++ ys)))
theorem lo_catL : Lo2 K mg rCat fCatL := by
  rintro Z P R as G m σ H v w d e k Q r h1 h2 ⟨ts, us, e1, e2, c, q⟩ n
  obtain ⟨a, xs, rfl, ha, ra⟩ := r.vLst h1 e1
  obtain ⟨b, ys, rfl, hb, rb⟩ := r.vLst h2 e2
  refine ⟨a, b, xs, ys, rfl, rfl, ha, hb, by rw [Paired.length ra, Paired.length rb]; exact c, fun p hp => ?_⟩
  obtain ⟨r', n'⟩ := r.laid (o := .lst (xs ++ ys)) hp
  exact n _ _ _ _ q n' r' (.t (.lstP upd_same (paired_append (Reps.mono n'.r ra) (Reps.mono n'.r rb))))
/-- a list so many times -/
def fRep : O2 := fun m d e k => ∃ xs i, view m d = some (.lst xs) ∧ view m e = some (.int i) ∧ -(2 ^ 63) ≤ i ∧ i < 2 ^ 63 ∧ xs.length * i.toNat ≤ sizeLine ∧ k (.t (.lst (List.replicate i.toNat xs).flatten))
theorem paired_rep {α β : Type} {F : α → β → Prop} {l : List α} {l' : List β} (h : Paired F l l') : ∀ n : Nat, Paired F (List.replicate n l).flatten (List.replicate n l').flatten
  | 0 => .nil
  | n + 1 => by
    rw [List.replicate_succ, List.replicate_succ, List.flatten_cons, List.flatten_cons]
    exact paired_append h (paired_rep h n)
theorem lo_rep : Lo2 K mg rRep fRep := by
  rintro Z P R as G m σ H v w d e k Q r h1 h2 ⟨ts, i, e1, e2, c1, c2, c3, q⟩ n
  obtain ⟨a, xs, rfl, ha, ra⟩ := r.vLst h1 e1
  rw [r.vInt h2 e2]
  refine ⟨a, i, xs, rfl, rfl, ha, c1, c2, by rw [Paired.length ra]; exact c3, fun p hp => ?_⟩
  obtain ⟨r', n'⟩ := r.laid (o := .lst (List.replicate i.toNat xs).flatten) hp
  exact n _ _ _ _ q n' r' (.t (.lstP upd_same (paired_rep (Reps.mono n'.r ra) _)))
end
end VL

/-! VL, part C: comparisons, tests, displays, subscripts. -/
namespace VL
open PySem L2

def Tr.isN : Tr → Bool
  | .non => true
  | _ => false
/-! ### deep equality -/
mutual
def pd : Tr → Option PyData
  | .non => some .none
  | .bl b => some (.bool b)
  | .int i => some (.int i)
  | .str x => some (.str x)
  | .lst xs => (pds xs).map .list
  | .tup xs => (pds xs).map .tuple
  | _ => none
def pds : List Tr → Option (List PyData)
  | [] => some []
  | x :: xs => (pd x).bind fun d => (pds xs).map (d :: ·)
end
mutual
/-- data that == takes: no dict, at most so deep -/
def lay : Nat → Tr → Bool
  | _, .non => true
  | _, .bl _ => true
  | _, .int _ => true
  | _, .str x => PyData.strOk x
  | 0, _ => false
  | n + 1, .lst xs => lays n xs
  | n + 1, .tup xs => lays n xs
  | _, _ => false
def lays : Nat → List Tr → Bool
  | _, [] => true
  | n, x :: xs => lay n x && lays n xs
end
theorem lays_ints (n : Nat) : ∀ ns : List Int, lays n (ns.map Tr.int) = true
  | [] => by unfold lays; rfl
  | i :: ns => by
    rw [List.map_cons]
    unfold lays
    rw [lays_ints n ns]
    cases n <;> (unfold lay; rfl)
mutual
theorem lay_ok : ∀ (x : Tr) (n : Nat), lay n x = true → ∃ d, pd x = some d ∧ d.canLay0 = true ∧ d.depth ≤ n
  | .non, n, _ => ⟨_, by unfold pd; rfl, by simp [PyData.canLay0], by simp [PyData.depth]⟩
  | .bl b, n, _ => ⟨_, by unfold pd; rfl, by simp [PyData.canLay0], by simp [PyData.depth]⟩
  | .int i, n, _ => ⟨_, by unfold pd; rfl, by simp [PyData.canLay0], by simp [PyData.depth]⟩
  | .str s, n, h => ⟨_, by unfold pd; rfl, by
      have h' : PyData.strOk s = true := by cases n <;> (unfold lay at h; exact h)
      simpa [PyData.canLay0] using h', by simp [PyData.depth]⟩
  | .lst xs, 0, h => by unfold lay at h; cases h
  | .tup xs, 0, h => by unfold lay at h; cases h
  | .lst xs, n + 1, h => by
    unfold lay at h
    obtain ⟨ds, h1, h2, h3⟩ := lays_ok xs n h
    exact ⟨.list ds, by unfold pd; rw [h1]; rfl, by simpa [PyData.canLay0] using h2, by simp [PyData.depth]; omega⟩
  | .tup xs, n + 1, h => by
    unfold lay at h
    obtain ⟨ds, h1, h2, h3⟩ := lays_ok xs n h
    exact ⟨.tuple ds, by unfold pd; rw [h1]; rfl, by simpa [PyData.canLay0] using h2, by simp [PyData.depth]; omega⟩
  | .ty _, 0, h => by unfold lay at h; cases h
  | .ty _, _ + 1, h => by unfold lay at h; cases h
  | .cls _, 0, h => by unfold lay at h; cases h
  | .cls _, _ + 1, h => by unfold lay at h; cases h
  | .scr _, 0, h => by unfold lay at h; cases h
  | .scr _, _ + 1, h => by unfold lay at h; cases h
  | .dic _, 0, h => by unfold lay at h; cases h
  | .dic _, _ + 1, h => by unfold lay at h; cases h
  | .ins _ _, 0, h => by unfold lay at h; cases h
  | .exc _, 0, h => by unfold lay at h; cases h
  | .exc _, _ + 1, h => by unfold lay at h; cases h
  | .at _, 0, h => by unfold lay at h; cases h
  | .at _, _ + 1, h => by unfold lay at h; cases h
  | .dt _, 0, h => by unfold lay at h; cases h
  | .dt _, _ + 1, h => by unfold lay at h; cases h
  | .dl _, 0, h => by unfold lay at h; cases h
  | .dl _, _ + 1, h => by unfold lay at h; cases h
  | .di _ _, 0, h => by unfold lay at h; cases h
  | .di _ _, _ + 1, h => by unfold lay at h; cases h
  | .ins _ _, _ + 1, h => by unfold lay at h; cases h
theorem lays_ok : ∀ (xs : List Tr) (n : Nat), lays n xs = true → ∃ ds, pds xs = some ds ∧ PyData.canLayAll0 ds = true ∧ PyData.depthAll ds ≤ n
  | [], n, _ => ⟨[], by unfold pds; rfl, by simp [PyData.canLayAll0], by simp [PyData.depthAll]⟩
  | x :: xs, n, h => by
    unfold lays at h
    rw [Bool.and_eq_true] at h
    obtain ⟨d, h1, h2, h3⟩ := lay_ok x n h.1
    obtain ⟨ds, h4, h5, h6⟩ := lays_ok xs n h.2
    exact ⟨d :: ds, by unfold pds; rw [h1, h4]; rfl, by simp [PyData.canLayAll0, h2, h5], by simp [PyData.depthAll]; omega⟩
end
def eqT (x y : Tr) : Bool := match pd x, pd y with
  | some d, some e => PyData.eqv d e
  | _, _ => false
theorem eqT_refl {x : Tr} (n : Nat) (h : lay n x = true) : eqT x x = true := by
  obtain ⟨d, h1, h2, _⟩ := lay_ok x n h
  unfold eqT
  rw [h1]
  exact SeqAt.eqv_refl d h2
theorem pds_ints : ∀ ns : List Int, pds (ns.map Tr.int) = some (ns.map PyData.int)
  | [] => by unfold pds; rfl
  | n :: ns => by
    rw [List.map_cons]
    unfold pds
    rw [pds_ints ns]
    unfold pd
    rfl
theorem eqvAll_ints : ∀ a b : List Int, PyData.eqvAll (a.map PyData.int) (b.map PyData.int) = decide (a = b)
  | [], [] => by simp [PyData.eqvAll]
  | _ :: _, [] => by simp [PyData.eqvAll]
  | [], _ :: _ => by simp [PyData.eqvAll]
  | x :: a, y :: b => by
    rw [List.map_cons, List.map_cons, PyData.eqvAll, eqvAll_ints a b, PyData.eqv]
    by_cases h1 : x = y
    · by_cases h2 : a = b <;> simp [h1, h2]
    · simp [h1]
theorem eqT_ints (a b : List Int) : eqT (.lst (a.map Tr.int)) (.lst (b.map Tr.int)) = decide (a = b) := by
  unfold eqT pd
  rw [pds_ints, pds_ints]
  show PyData.eqv (.list _) (.list _) = _
  rw [PyData.eqv]
  exact eqvAll_ints a b
theorem eqT_int (i j : Int) : eqT (.int i) (.int j) = decide (i = j) := by
  unfold eqT pd
  show PyData.eqv (.int i) (.int j) = _
  rw [PyData.eqv]
  by_cases h : i = j <;> simp [h]
theorem eqT_bl (i j : Bool) : eqT (.bl i) (.bl j) = decide (i = j) := by
  unfold eqT pd
  show PyData.eqv (.bool i) (.bool j) = _
  rw [PyData.eqv]
  by_cases h : i = j <;> simp [h]
theorem eqT_str (i j : Str) : eqT (.str i) (.str j) = decide (i = j) := by
  unfold eqT pd
  show PyData.eqv (.str i) (.str j) = _
  rw [PyData.eqv]
  by_cases h : i = j <;> simp [h]

/-! ### the data of a value -/
mutual
theorem Rep.dp {K : PySem.W.Frag} {mg : Str → Option Value} {R : Hp} : ∀ (x : Tr) (v : V) (d : PyData), Rep K mg R v x → pd x = some d → Dp K R v d
  | .non, _, _, h, e => by unfold pd at e; cases e; cases h; exact .non
  | .bl b, _, _, h, e => by unfold pd at e; cases e; cases h; exact .bl b
  | .int i, _, _, h, e => by unfold pd at e; cases e; cases h; exact .int i
  | .str s, _, _, h, e => by unfold pd at e; cases e; cases h; exact .str s
  | .lst ts, v, d, h, e => by
    unfold pd at e
    obtain ⟨a, xs, rfl, h1, h2⟩ := h.lst_inv
    cases q : pds ts with
    | none => rw [q] at e; cases e
    | some ds => rw [q] at e; cases e; exact .lst (.of h1) (Rep.dps ts xs ds h2 q)
  | .tup ts, v, d, h, e => by
    unfold pd at e
    obtain ⟨a, xs, rfl, h1, h2⟩ := h.tup_inv
    cases q : pds ts with
    | none => rw [q] at e; cases e
    | some ds => rw [q] at e; cases e; exact .tup (.of h1) (Rep.dps ts xs ds h2 q)
  | .ty _, _, _, _, e => by unfold pd at e; cases e
  | .cls _, _, _, _, e => by unfold pd at e; cases e
  | .scr _, _, _, _, e => by unfold pd at e; cases e
  | .dic _, _, _, _, e => by unfold pd at e; cases e
  | .ins _ _, _, _, _, e => by unfold pd at e; cases e
  | .exc _, _, _, _, e => by unfold pd at e; cases e
  | .at _, _, _, _, e => by unfold pd at e; cases e
  | .dt _, _, _, _, e => by unfold pd at e; cases e
  | .dl _, _, _, _, e => by unfold pd at e; cases e
  | .di _ _, _, _, _, e => by unfold pd at e; cases e
theorem Rep.dps {K : PySem.W.Frag} {mg : Str → Option Value} {R : Hp} : ∀ (ts : List Tr) (xs : List V) (ds : List PyData), Reps K mg R xs ts → pds ts = some ds → DpAll K R xs ds
  | [], _, _, h, e => by unfold pds at e; cases e; cases h; exact .nil
  | t :: ts, xs, ds, h, e => by
    unfold pds at e
    cases h with
    | cons r rs =>
      cases q : pd t with
      | none => rw [q] at e; cases e
      | some d =>
        rw [q] at e
        cases q2 : pds ts with
        | none => rw [q2] at e; cases e
        | some es => rw [q2] at e; cases e; exact .cons (Rep.dp t _ d r q) (Rep.dps ts _ es rs q2)
end

section
variable {K : PySem.W.Frag} {mg : Str → Option Value}
/-- == of data -/
def fEqD : O2 := fun m d e k => ∃ x y, viewD m d = some x ∧ viewD m e = some y ∧ lay 60 x = true ∧ lay 60 y = true ∧ k (.t (.bl (eqT x y)))
def fNeD : O2 := fun m d e k => ∃ x y, viewD m d = some x ∧ viewD m e = some y ∧ lay 60 x = true ∧ lay 60 y = true ∧ k (.t (.bl (!eqT x y)))
theorem lay_shaped {x : Tr} (h : lay 60 x = true) : ∃ d, pd x = some d ∧ SeqAt.shaped d = true := by
  obtain ⟨d, h1, h2, h3⟩ := lay_ok x 60 h
  exact ⟨d, h1, by unfold SeqAt.shaped; rw [h2, Bool.true_and]; exact decide_eq_true (by omega)⟩
theorem lo_eqD : Lo2 K mg (rEqD K) fEqD := by
  rintro Z P R as G m σ H v w d e k Q r h1 h2 ⟨x, y, e1, e2, l1, l2, q⟩ n
  obtain ⟨p, p1, p2⟩ := lay_shaped l1
  obtain ⟨p', p1', p2'⟩ := lay_shaped l2
  have r1 := r.repD h1 e1
  have r2 := r.repD h2 e2
  refine ⟨p, p', r1.dp _ _ _ p1, r2.dp _ _ _ p1', p2, p2', n (.t (.bl (PyData.eqv p p'))) _ R H ?_ .refl r (.t (.bl _))⟩
  have e : eqT x y = PyData.eqv p p' := by unfold eqT; rw [p1, p1']
  rw [← e]
  exact q
theorem lo_neD : Lo2 K mg (rNeD K) fNeD := by
  rintro Z P R as G m σ H v w d e k Q r h1 h2 ⟨x, y, e1, e2, l1, l2, q⟩ n
  obtain ⟨p, p1, p2⟩ := lay_shaped l1
  obtain ⟨p', p1', p2'⟩ := lay_shaped l2
  have r1 := r.repD h1 e1
  have r2 := r.repD h2 e2
  refine ⟨p, p', r1.dp _ _ _ p1, r2.dp _ _ _ p1', p2, p2', n (.t (.bl (!PyData.eqv p p'))) _ R H ?_ .refl r (.t (.bl _))⟩
  have e : eqT x y = PyData.eqv p p' := by unfold eqT; rw [p1, p1']
  rw [← e]
  exact q
/-- is None; is True, is False -/
def fIsN : O2 := fun m d e k => ∃ x, view m d = some x ∧ view m e = some .non ∧ k (.t (.bl x.isN))
def fNotN : O2 := fun m d e k => ∃ x, view m d = some x ∧ view m e = some .non ∧ k (.t (.bl (!x.isN)))
theorem rep_non {R : Hp} {v : V} {x : Tr} (h : Rep K mg R v x) : decide (v = .non) = x.isN := by
  cases h <;> simp [Tr.isN]
theorem lo_isN : Lo2 K mg (fun x y H Q => y = .non ∧ Q (.bl (decide (x = .non))) H) fIsN := by
  rintro Z P R as G m σ H v w d e k Q r h1 h2 ⟨x, e1, e2, q⟩ n
  refine ⟨r.vNon h2 e2, n _ _ R H q .refl r (.t ?_)⟩
  rw [rep_non (r.repd h1 e1)]
  exact .bl _
theorem lo_notN : Lo2 K mg (fun x y H Q => y = .non ∧ Q (.bl (!decide (x = .non))) H) fNotN := by
  rintro Z P R as G m σ H v w d e k Q r h1 h2 ⟨x, e1, e2, q⟩ n
  refine ⟨r.vNon h2 e2, n _ _ R H q .refl r (.t ?_)⟩
  rw [rep_non (r.repd h1 e1)]
  exact .bl _
def fIsB : O2 := fun m d e k => ∃ a b, view m d = some (.bl a) ∧ view m e = some (.bl b) ∧ k (.t (.bl (decide (a = b))))
def fNotB : O2 := fun m d e k => ∃ a b, view m d = some (.bl a) ∧ view m e = some (.bl b) ∧ k (.t (.bl (!decide (a = b))))
theorem lo_isB : Lo2 K mg rIsB fIsB := by
  rintro Z P R as G m σ H v w d e k Q r h1 h2 ⟨a, b, e1, e2, q⟩ n
  rw [r.vBl h1 e1, r.vBl h2 e2]
  exact ⟨a, b, rfl, rfl, n _ _ R H q .refl r (.t (.bl _))⟩
theorem lo_notB : Lo2 K mg rNotB fNotB := by
  rintro Z P R as G m σ H v w d e k Q r h1 h2 ⟨a, b, e1, e2, q⟩ n
  rw [r.vBl h1 e1, r.vBl h2 e2]
  exact ⟨a, b, rfl, rfl, n _ _ R H q .refl r (.t (.bl _))⟩
end
end VL

/-! VL, part D: subscripts, in, slices, chains, tests, displays. -/
namespace VL
open PySem L2

section
variable {X : Cx} {pins : List (Addr × Obj)} {σ : L2.St} {H : Hp} {s : Shared} {a : Addr} {y v : V} {u r : Value} {o : Option V}
def rDGet : R2 := fun x y H Q => ∃ a v, x = .ref a ∧ DGet H a y (some v) ∧ Q v H
theorem ix_dict (hu : X.A.units + 1 < cLine) : IxR X rDGet := by
  intro value slice pins s σ H x y v u Q I rx ry h hs
  obtain ⟨a, w, rfl, g, q⟩ := h
  cases rx
  refine PyProof.Rows.tail_any (ops := [.ref a, u]) (dict_typeIs I g) PySem.F.slot_dict_getitem.lookup ?_ hs
  exact d_getItem hu I g ry fun w' s' I' rw' => ⟨w, H, I', rw', q⟩
def rDIn : R2 := fun y x H Q => ∃ a o, x = .ref a ∧ DGet H a y o ∧ Q (.bl o.isSome) H
def rDNotIn : R2 := fun y x H Q => ∃ a o, x = .ref a ∧ DGet H a y o ∧ Q (.bl (!o.isSome)) H
theorem op_dIn (hu : X.A.units + 1 < cLine) : OpR X (compareOp .In) rDIn := by
  intro pins s σ H x y v u Q I rx ry h
  obtain ⟨a, o, rfl, g, q⟩ := h
  cases ry
  exact d_in hu I g rx fun s' I' => ⟨.bl _, H, I', rfl, q⟩
theorem op_dNotIn (hu : X.A.units + 1 < cLine) : OpR X (compareOp .NotIn) rDNotIn := by
  intro pins s σ H x y v u Q I rx ry h
  obtain ⟨a, o, rfl, g, q⟩ := h
  cases ry
  exact d_notIn hu I g rx fun s' I' => ⟨.bl _, H, I', rfl, q⟩
theorem op_or {f : Value → Value → Sem Value} {r r' : R2} (h : OpR X f r) (h' : OpR X f r') : OpR X f (fun x y H Q => r x y H Q ∨ r' x y H Q) := OpR.or h h'
end

/-- an item by its place, from behind below 0 -/
theorem atI_map {α β : Type} (f : α → β) (xs : List α) (i : Int) : atI (xs.map f) i = (atI xs i).map f := by
  unfold atI
  rw [List.length_map]
  cases ixN xs.length i with
  | none => rfl
  | some j => simp
theorem atI_pair {α β : Type} {F : α → β → Prop} {xs : List α} {ts : List β} (h : Paired F xs ts) {i : Int} {t : β} (e : atI ts i = some t) : ∃ x, atI xs i = some x ∧ F x t := by
  unfold atI at e ⊢
  rw [Paired.length h]
  cases q : ixN ts.length i with
  | none => rw [q] at e; cases e
  | some j =>
    rw [q] at e
    have e : ts[j]? = some t := e
    have hl := Paired.length h
    obtain ⟨hi, _⟩ := List.getElem?_eq_some_iff.mp e
    have hx : xs[j]? = some (xs[j]'(by omega)) := List.getElem?_eq_getElem (by omega)
    exact ⟨_, hx, paired_at h j _ _ hx e⟩
/-- a key of a dict -/
def kT : Key → Tr
  | .inl i => .int i
  | .inr x => .str x
def lookT (kvs : List (Key × Tr)) (k : Key) : Option Tr := (kvs.find? fun p => decide (p.1 = k)).map (·.2)
section
variable {K : PySem.W.Frag} {mg : Str → Option Value}
def fIxL : O2 := fun m d e k => ∃ ts i t, view m d = some (.lst ts) ∧ view m e = some (.int i) ∧ atI ts i = some t ∧ k (.t t)
def fIxT : O2 := fun m d e k => ∃ ts i t, view m d = some (.tup ts) ∧ view m e = some (.int i) ∧ atI ts i = some t ∧ k (.t t)
/-- an item of a cell: data or a site -/
def chD : Tr → Dv
  | .at j => .loc j
  | x => .t x
def fIxDT : O2 := fun m d e k => ∃ j cs i t, d = .loc j ∧ m[j]? = some (some (.dt cs)) ∧ view m e = some (.int i) ∧ atI cs i = some t ∧ k (chD t)
def fIxDL : O2 := fun m d e k => ∃ j cs i t, d = .loc j ∧ m[j]? = some (some (.dl cs)) ∧ view m e = some (.int i) ∧ atI cs i = some t ∧ k (chD t)
theorem ch_D {R : Hp} {hd : Nat → Addr} {as : List Addr} {v : V} {t : Tr} (h : ChR K mg R as v t) : DRep K mg R hd as v (chD t) := by
  cases h with
  | k h =>
    have e : chD t = .t t := by cases h <;> rfl
    rw [e]
    exact .t h
  | s h => exact .loc h
theorem lo_ixDT : Lo2 K mg (rIxT K) fIxDT := by
  rintro Z P R as G m σ H v w d e k Q r h1 h2 ⟨j, cs, i, t, rfl, e1, e2, ha, q⟩ n
  cases h1 with
  | loc h =>
    obtain ⟨a, h1, h3, _⟩ := r.sto _ _ e1
    rw [h1] at h; cases h
    obtain ⟨xs, hx, rx⟩ := h3
    rw [r.vInt h2 e2]
    obtain ⟨x, hx', rt⟩ := atI_pair rx ha
    exact ⟨_, xs, i, x, rfl, rfl, .of hx, hx', n _ _ R H q .refl r (ch_D rt)⟩
theorem lo_ixDL : Lo2 K mg (rIxL K) fIxDL := by
  rintro Z P R as G m σ H v w d e k Q r h1 h2 ⟨j, cs, i, t, rfl, e1, e2, ha, q⟩ n
  cases h1 with
  | loc h =>
    obtain ⟨a, h1, h3, _⟩ := r.sto _ _ e1
    rw [h1] at h; cases h
    obtain ⟨xs, hx, rx⟩ := h3
    rw [r.vInt h2 e2]
    obtain ⟨x, hx', rt⟩ := atI_pair rx ha
    exact ⟨_, xs, i, x, rfl, rfl, .of hx, hx', n _ _ R H q .refl r (ch_D rt)⟩
def fIxR : O2 := fun m d e k => ∃ ns i n, view m d = some (.scr ns) ∧ view m e = some (.int i) ∧ atI ns i = some n ∧ k (.t (.int n))
def fIxS : O2 := fun m d e k => ∃ z i c, view m d = some (.str z) ∧ view m e = some (.int i) ∧ z.length ≤ sizeLine ∧ atI z.cps.toList i = some c ∧ k (.t (.str ⟨#[c]⟩))
theorem lo_ixL : Lo2 K mg (rIxL K) fIxL := by
  rintro Z P R as G m σ H v w d e k Q r h1 h2 ⟨ts, i, t, e1, e2, ha, q⟩ n
  obtain ⟨a, xs, rfl, hx, rx⟩ := r.vLst h1 e1
  rw [r.vInt h2 e2]
  obtain ⟨x, hx', rt⟩ := atI_pair rx ha
  exact ⟨a, xs, i, x, rfl, rfl, .of hx, hx', n _ _ R H q .refl r (.t rt)⟩
theorem lo_ixR : Lo2 K mg (rIxL K) fIxR := by
  rintro Z P R as G m σ H v w d e k Q r h1 h2 ⟨ns, i, t, e1, e2, ha, q⟩ n
  obtain ⟨a, rfl, hx⟩ := r.vScr h1 e1
  rw [r.vInt h2 e2]
  exact ⟨a, _, i, .int t, rfl, rfl, hx, by rw [atI_map, ha]; rfl, n _ _ R H q .refl r (.t (.int t))⟩
theorem lo_ixT : Lo2 K mg (rIxT K) fIxT := by
  rintro Z P R as G m σ H v w d e k Q r h1 h2 ⟨ts, i, t, e1, e2, ha, q⟩ n
  obtain ⟨a, xs, rfl, hx, rx⟩ := r.vTup h1 e1
  rw [r.vInt h2 e2]
  obtain ⟨x, hx', rt⟩ := atI_pair rx ha
  exact ⟨a, xs, i, x, rfl, rfl, .of hx, hx', n _ _ R H q .refl r (.t rt)⟩
theorem lo_ixS : Lo2 K mg rIxS fIxS := by
  rintro Z P R as G m σ H v w d e k Q r h1 h2 ⟨z, i, c, e1, e2, hz, ha, q⟩ n
  rw [r.vStr h1 e1, r.vInt h2 e2]
  exact ⟨z, i, c, rfl, rfl, hz, ha, n _ _ R H q .refl r (.t (.str _))⟩
theorem key_rep {R : Hp} {v : V} {k : Key} (h : Rep K mg R v (kT k)) : v = kV k := by
  cases k <;> cases h <;> rfl
theorem val_pair {R : Hp} : ∀ {xs : List (Key × V)} {ts : List (Key × Tr)}, RepsP K mg R xs ts → ∀ k : Key, (∀ t, lookT ts k = some t → ∃ x, valV xs k = some x ∧ Rep K mg R x t) ∧ (lookT ts k = none → valV xs k = none)
  | _, _, .nil, k => ⟨fun t h => by simp [lookT] at h, fun _ => rfl⟩
  | (k1, x) :: xs, (k2, y) :: ts, .cons r rs, k => by
    obtain ⟨h1, h2⟩ := val_pair rs k
    have e : k1 = k2 := r.1
    subst e
    by_cases hk : k1 = k
    · subst hk
      refine ⟨fun t h => ?_, fun h => ?_⟩
      · simp [lookT] at h
        subst h
        exact ⟨x, by simp [valV], r.2⟩
      · simp [lookT] at h
    · refine ⟨fun t h => ?_, fun h => ?_⟩
      · have h' : lookT ts k = some t := by simpa [lookT, hk] using h
        obtain ⟨x', q1, q2⟩ := h1 t h'
        exact ⟨x', by simpa [valV, hk] using q1, q2⟩
      · have h' : lookT ts k = none := by simpa [lookT, hk] using h
        simpa [valV, hk] using h2 h'
def fDGet : O2 := fun m d e k => ∃ ts ky t, view m d = some (.dic ts) ∧ view m e = some (kT ky) ∧ lookT ts ky = some t ∧ k (.t t)
theorem Rel.vKey {Z : Rsc} {P : Pm} {R H : Hp} {as : List Addr} {G : Env} {m : Sto} {σ : L2.St} {v : V} {d : Dv} {ky : Key} (r : Rel K mg Z P R as G m σ H) (h : DRep K mg R P.hd as v d) (e : view m d = some (kT ky)) : v = kV ky := key_rep (r.repd h e)
theorem lo_dget : Lo2 K mg rDGet fDGet := by
  rintro Z P R as G m σ H v w d e k Q r h1 h2 ⟨ts, ky, t, e1, e2, ha, q⟩ n
  obtain ⟨a, xs, rfl, hx, rx⟩ := r.vDic h1 e1
  rw [r.vKey h2 e2]
  obtain ⟨x, hx', rt⟩ := (val_pair rx ky).1 t ha
  exact ⟨a, x, rfl, .inl ⟨xs, ky, hx, rfl, hx'.symm⟩, n _ _ R H q .refl r (.t rt)⟩
def fDIn : O2 := fun m d e k => ∃ ts ky, view m e = some (.dic ts) ∧ view m d = some (kT ky) ∧ k (.t (.bl (lookT ts ky).isSome))
def fDNotIn : O2 := fun m d e k => ∃ ts ky, view m e = some (.dic ts) ∧ view m d = some (kT ky) ∧ k (.t (.bl (!(lookT ts ky).isSome)))
theorem val_isSome {R : Hp} {xs : List (Key × V)} {ts : List (Key × Tr)} (h : RepsP K mg R xs ts) (ky : Key) : (valV xs ky).isSome = (lookT ts ky).isSome := by
  obtain ⟨h1, h2⟩ := val_pair h ky
  cases e : lookT ts ky with
  | none => rw [h2 e]; rfl
  | some t => obtain ⟨x, q, _⟩ := h1 t e; rw [q]; rfl
theorem lo_dIn : Lo2 K mg rDIn fDIn := by
  rintro Z P R as G m σ H v w d e k Q r h1 h2 ⟨ts, ky, e1, e2, q⟩ n
  obtain ⟨a, xs, rfl, hx, rx⟩ := r.vDic h2 e1
  rw [r.vKey h1 e2]
  refine ⟨a, valV xs ky, rfl, .inl ⟨xs, ky, hx, rfl, rfl⟩, n _ _ R H q .refl r (.t ?_)⟩
  rw [val_isSome rx]
  exact .bl _
theorem lo_dNotIn : Lo2 K mg rDNotIn fDNotIn := by
  rintro Z P R as G m σ H v w d e k Q r h1 h2 ⟨ts, ky, e1, e2, q⟩ n
  obtain ⟨a, xs, rfl, hx, rx⟩ := r.vDic h2 e1
  rw [r.vKey h1 e2]
  refine ⟨a, valV xs ky, rfl, .inl ⟨xs, ky, hx, rfl, rfl⟩, n _ _ R H q .refl r (.t ?_)⟩
  rw [val_isSome rx]
  exact .bl _
/-- flat things in a list or a tuple -/
def flatEq : Tr → Tr → Bool
  | .non, .non => true
  | .bl a, .bl b => a == b
  | .int a, .int b => a == b
  | .bl a, .int b => (if a then 1 else 0) == b
  | .int a, .bl b => a == (if b then 1 else 0)
  | .str a, .str b => a == b
  | _, _ => false
def flatE : Tr → Bool
  | .non => true | .bl _ => true | .int _ => true | .str _ => true
  | _ => false
theorem flat_eq {R : Hp} {v w : V} {x y : Tr} (h : Rep K mg R v x) (h' : Rep K mg R w y) (f : flatE x = true) (f' : flatE y = true) : flatV v = true ∧ flatV w = true ∧ eqV v w = flatEq x y := by
  cases h <;> (first | cases f | skip) <;> cases h' <;> (first | cases f' | skip) <;> (refine ⟨rfl, rfl, ?_⟩) <;> simp [eqV, flatEq]
def fIn (neg : Bool) : O2 := fun m d e k => ∃ x ts, view m d = some x ∧ (view m e = some (.lst ts) ∨ view m e = some (.tup ts)) ∧ flatE x = true ∧ ts.all flatE = true ∧ k (.t (.bl (if neg then !(ts.any fun y => flatEq y x) else ts.any fun y => flatEq y x)))
theorem in_all {R : Hp} {v : V} {x : Tr} (h : Rep K mg R v x) (f : flatE x = true) : ∀ {xs : List V} {ts : List Tr}, Reps K mg R xs ts → ts.all flatE = true → flatV v = true ∧ xs.all flatV = true ∧ inV v xs = ts.any fun y => flatEq y x
  | _, _, .nil, _ => ⟨(flat_eq h h f f).1, rfl, rfl⟩
  | a :: xs, t :: ts, .cons r rs, g => by
    rw [List.all_cons, Bool.and_eq_true] at g
    obtain ⟨h1, h2, h3⟩ := in_all h f rs g.2
    obtain ⟨q1, q2, q3⟩ := flat_eq r h g.1 f
    refine ⟨h1, by rw [List.all_cons, q1, h2]; rfl, ?_⟩
    show (a :: xs).any (fun y => eqV y v) = _
    rw [List.any_cons, List.any_cons, q3]
    congr 1
theorem lo_in (neg : Bool) : Lo2 K mg (rIn K neg) (fIn neg) := by
  rintro Z P R as G m σ H v w d e k Q r h1 h2 ⟨x, ts, e1, e2, f1, f2, q⟩ n
  have rv := r.repd h1 e1
  rcases e2 with e2 | e2
  · obtain ⟨a, xs, rfl, hx, rx⟩ := r.vLst h2 e2
    obtain ⟨q1, q2, q3⟩ := in_all rv f1 (Reps.mono r.ex rx) f2
    refine ⟨a, xs, rfl, .inl (.of hx), q1, q2, n _ _ R H q .refl r (.t ?_)⟩
    rw [q3]
    exact .bl _
  · obtain ⟨a, xs, rfl, hx, rx⟩ := r.vTup h2 e2
    obtain ⟨q1, q2, q3⟩ := in_all rv f1 (Reps.mono r.ex rx) f2
    refine ⟨a, xs, rfl, .inr (.of hx), q1, q2, n _ _ R H q .refl r (.t ?_)⟩
    rw [q3]
    exact .bl _
def fInS (neg : Bool) : O2 := fun m d e k => ∃ (c : Nat) (z : Str), view m d = some (.str ⟨#[c]⟩) ∧ view m e = some (.str z) ∧ k (.t (.bl (if neg then !decide (c ∈ z.cps.toList) else decide (c ∈ z.cps.toList))))
theorem lo_inS : Lo2 K mg (fun x y H Q => ∃ (c : Nat) (z : Str), x = .str ⟨#[c]⟩ ∧ y = .str z ∧ Q (.bl (decide (c ∈ z.cps.toList))) H) (fInS false) := by
  rintro Z P R as G m σ H v w d e k Q r h1 h2 ⟨c, z, e1, e2, q⟩ n
  rw [r.vStr h1 e1, r.vStr h2 e2]
  exact ⟨c, z, rfl, rfl, n _ _ R H q .refl r (.t (.bl _))⟩
theorem lo_notInS : Lo2 K mg (fun x y H Q => ∃ (c : Nat) (z : Str), x = .str ⟨#[c]⟩ ∧ y = .str z ∧ Q (.bl (!decide (c ∈ z.cps.toList))) H) (fInS true) := by
  rintro Z P R as G m σ H v w d e k Q r h1 h2 ⟨c, z, e1, e2, q⟩ n
  rw [r.vStr h1 e1, r.vStr h2 e2]
  exact ⟨c, z, rfl, rfl, n _ _ R H q .refl r (.t (.bl _))⟩
end
end VL

/-! VL, part E: slices, chains, tests, displays, built-in calls. -/
namespace VL
open PySem L2

/-! ### slices -/
abbrev VO := Env → Sto → (Option Int → Prop) → XK → Prop
structure KnO (K : PySem.W.Frag) (mg : Str → Option Value) (Z : Rsc) (W : WX) (P : Pm) (R : Hp) (as : List Addr) (G : Env) (m : Sto) (σ : L2.St) (H : Hp) (k : Option Int → Prop) (x : XK) (Q : Option Int → Hp → Prop) : Prop where
  ok : ∀ b R' H', k b → Nx P R H R' H' → Rel K mg Z P R' as G m σ H' → Q b H'
  er : ∀ nm cl R' H', x nm → mg nm = some cl → Nx P R H R' H' → Rel K mg Z P R' as G m σ H' → W cl none σ H'
def LO (K : PySem.W.Frag) (mg : Str → Option Value) (Z : Rsc) (W : WX) (e : VO) : TO := fun σ H Q => ∃ P R as G m k x, Rel K mg Z P R as G m σ H ∧ e G m k x ∧ KnO K mg Z W P R as G m σ H k x Q
abbrev voN : VO := fun _ _ k _ => k none
abbrev voS (e : VE) : VO := fun G m k x => e G m (fun d => ∃ i, view m d = some (.int i) ∧ k (some i)) x
theorem PO.imp {X : Cx} {e : Option Expr} {t t' : TO} (h : PO X e t) (hi : ∀ σ H Q, t' σ H Q → t σ H Q) : PO X e t' := ⟨fun pins s σ H Q I q => h.run pins s σ H Q I (hi σ H Q q)⟩
def cutG {α : Type} (xs : List α) (lo hi : Option Int) : List α := (xs.drop (HT.sIx xs.length 0 lo)).take (HT.sIx xs.length xs.length hi - HT.sIx xs.length 0 lo)
theorem cutG_map {α β : Type} (f : α → β) (xs : List α) (lo hi : Option Int) : cutG (xs.map f) lo hi = (cutG xs lo hi).map f := by
  unfold cutG
  rw [List.length_map, List.map_take, List.map_drop]
theorem paired_cut {α β : Type} {F : α → β → Prop} {xs : List α} {ts : List β} (h : Paired F xs ts) (lo hi : Option Int) : Paired F (cutG xs lo hi) (cutG ts lo hi) := by
  unfold cutG
  rw [Paired.length h]
  exact paired_take _ (paired_drop _ h)
abbrev OS := Sto → Dv → Option Int → Option Int → DK → Prop
abbrev vSl (f : OS) (e : VE) (lo hi : VO) : VE := fun G m k x => e G m (fun d => lo G m (fun l => hi G m (fun u => f m d l u k) x) x) x
def LoS (K : PySem.W.Frag) (mg : Str → Option Value) (r : V → Option Int → Option Int → Hp → VK → Prop) (f : OS) : Prop := ∀ (Z : Rsc) P R as G m σ H v d l u k Q, Rel K mg Z P R as G m σ H → DRep K mg R P.hd as v d → f m d l u k →
  (∀ z w R' H', k z → Nx P R H R' H' → Rel K mg Z P R' as G m σ H' → DRep K mg R' P.hd as w z → Q w H') → r v l u H Q
theorem LoS.or {K : PySem.W.Frag} {mg : Str → Option Value} {r r' : V → Option Int → Option Int → Hp → VK → Prop} {f f' : OS} (h : LoS K mg r f) (h' : LoS K mg r' f') : LoS K mg (fun x l u H Q => r x l u H Q ∨ r' x l u H Q) (fun m d l u k => f m d l u k ∨ f' m d l u k) :=
  fun Z P R as G m σ H v d l u k Q a b q n => q.elim (fun q => .inl (h Z P R as G m σ H v d l u _ Q a b q n)) fun q => .inr (h' Z P R as G m σ H v d l u _ Q a b q n)
section
variable {X : Cx} {Z : Rsc} {W : WX} {e a b : Expr} {lo hi : Option Expr} {ve ea eb : VE} {vl vh : VO} {pos p2 : Pos}
theorem vo_none : PO X none (LO X.K X.mg Z W voN) := PO.imp po_none fun σ H Q ⟨P, R, as, G, m, k, x, r, hk, n⟩ => n.ok _ R H hk .refl r
theorem vo_some (h : PE X e (LE X.K X.mg Z W ve)) : PO X (some e) (LO X.K X.mg Z W (voS ve)) := PO.imp (po_some h) fun σ H Q ⟨P, R, as, G, m, k, x, r, hk, n⟩ =>
  LE.go r hk (fun d v R1 H1 ⟨i, e1, h1⟩ n1 r1 d1 => ⟨i, r1.vInt d1 e1, n.ok _ R1 H1 h1 n1 r1⟩) n.er
theorem v_sl {r : V → Option Int → Option Int → Hp → VK → Prop} {f : OS} (hr : SlR X r) (lr : LoS X.K X.mg r f) (he : PE X e (LE X.K X.mg Z W ve)) (hl : PO X lo (LO X.K X.mg Z W vl)) (hu : PO X hi (LO X.K X.mg Z W vh)) :
    PE X (.Subscript e (.Slice lo hi none p2) pos) (LE X.K X.mg Z W (vSl f ve vl vh)) :=
  PE.imp (pe_slice hr he hl hu) fun σ H Q ⟨P, R, as, G, m, k, x, r, hk, n⟩ => LE.go r hk (fun d v R1 H1 h1 n1 r1 d1 =>
    ⟨P, R1, as, G, m, _, x, r1, h1, fun l R2 H2 h2 n2 r2 => ⟨P, R2, as, G, m, _, x, r2, h2, fun u R3 H3 h3 n3 r3 => lr Z P R3 as G m σ H3 v d l u k Q r3 (d1.mono (n2.r.trans n3.r)) h3 fun z w R4 H4 h4 n4 r4 d4 => n.ok z w R4 H4 h4 (((n1.trans n2).trans n3).trans n4) r4 d4,
      (n.step (n1.trans n2)).er⟩, (n.step n1).er⟩) n.er
abbrev vRev (e : VE) : VE := fun G m k x => e G m (fun d => ∃ ts, view m d = some (.lst ts) ∧ k (.t (.lst ts.reverse))) x
theorem v_rev {j : Nat} {p1 p3 p4 : Pos} (he : PE X e (LE X.K X.mg Z W ve)) : PE X (.Subscript e (.Slice none none (some (.UnaryOp .USub (.Constant (.int 1) j p1) p3)) p4) pos) (LE X.K X.mg Z W (vRev ve)) :=
  PE.imp (pe_revL he) fun σ H Q ⟨P, R, as, G, m, k, x, r, hk, n⟩ => LE.go r hk (fun d v R1 H1 ⟨ts, e1, h1⟩ n1 r1 d1 => by
    obtain ⟨a, xs, rfl, ha, ra⟩ := r1.vLst d1 e1
    refine ⟨a, xs, rfl, .of ha, fun p hp => ?_⟩
    obtain ⟨r', n'⟩ := r1.laid (o := .lst xs.reverse) hp
    exact n.ok _ _ _ _ h1 (n1.trans n') r' (.t (.lstP upd_same (paired_reverse (Reps.mono n'.r ra))))) n.er
end
section
variable {K : PySem.W.Frag} {mg : Str → Option Value}
def fSlL : OS := fun m d l u k => ∃ ts, view m d = some (.lst ts) ∧ k (.t (.lst (cutG ts l u)))
def fSlR : OS := fun m d l u k => ∃ ns, view m d = some (.scr ns) ∧ k (.t (.lst ((cutG ns l u).map .int)))
def fSlT : OS := fun m d l u k => ∃ ts, view m d = some (.tup ts) ∧ ¬ (HT.sIx ts.length 0 l = 0 ∧ HT.sIx ts.length ts.length u = ts.length) ∧ k (.t (.tup (cutG ts l u)))
def fSlS : OS := fun m d l u k => ∃ z, view m d = some (.str z) ∧ z.length ≤ sizeLine ∧ k (.t (.str (cutS z l u)))
theorem los_L : LoS K mg (rSlL K) fSlL := by
  rintro Z P R as G m σ H v d l u k Q r h1 ⟨ts, e1, q⟩ n
  obtain ⟨a, xs, rfl, ha, ra⟩ := r.vLst h1 e1
  refine ⟨a, xs, rfl, .of ha, fun p hp => ?_⟩
  obtain ⟨r', n'⟩ := r.laid (o := .lst (cutG xs l u)) hp
  exact n _ _ _ _ q n' r' (.t (.lstP upd_same (paired_cut (Reps.mono n'.r ra) l u)))
theorem los_R : LoS K mg (rSlL K) fSlR := by
  rintro Z P R as G m σ H v d l u k Q r h1 ⟨ns, e1, q⟩ n
  obtain ⟨a, rfl, ha⟩ := r.vScr h1 e1
  refine ⟨a, _, rfl, ha, fun p hp => ?_⟩
  obtain ⟨r', n'⟩ := r.laid (o := .lst (cutG (ns.map V.int) l u)) hp
  refine n _ _ _ _ q n' r' (.t (.lstP upd_same ?_))
  rw [cutG_map]
  exact ints_reps _
theorem los_T : LoS K mg (rSlT K) fSlT := by
  rintro Z P R as G m σ H v d l u k Q r h1 ⟨ts, e1, hn, q⟩ n
  obtain ⟨a, xs, rfl, ha, ra⟩ := r.vTup h1 e1
  refine ⟨a, xs, rfl, .of ha, by rw [Paired.length ra]; exact hn, fun p hp => ?_⟩
  obtain ⟨r', n'⟩ := r.laid (o := .tup (cutG xs l u)) hp
  exact n _ _ _ _ q n' r' (.t (.tupP upd_same (paired_cut (Reps.mono n'.r ra) l u)))
theorem los_S : LoS K mg rSlS fSlS := by
  rintro Z P R as G m σ H v d l u k Q r h1 ⟨z, e1, hz, q⟩ n
  rw [r.vStr h1 e1]
  exact ⟨z, rfl, hz, n _ _ R H q .refl r (.t (.str _))⟩
end

/-! ### tests -/
abbrev vtB (e : VE) : VT := fun G m k x => e G m (fun d => ∃ b, view m d = some (.bl b) ∧ k b) x
def truT : Tr → Option Bool
  | .non => some false
  | .bl b => some b
  | .int i => some (i != 0)
  | .lst ts => some (!ts.isEmpty)
  | .tup ts => some (!ts.isEmpty)
  | .scr ts => some (!ts.isEmpty)
  | _ => none
abbrev vtT (e : VE) : VT := fun G m k x => e G m (fun d => ∃ t b, view m d = some t ∧ truT t = some b ∧ k b) x
abbrev vtAnd (a b : VT) : VT := fun G m k x => a G m (fun c => (c = true → b G m k x) ∧ (c = false → k false)) x
abbrev vtOr (a b : VT) : VT := fun G m k x => a G m (fun c => (c = true → k true) ∧ (c = false → b G m k x)) x
abbrev vtNot (a : VT) : VT := fun G m k x => a G m (fun c => k (!c)) x
abbrev vAnd (a b : VE) : VE := fun G m k x => a G m (fun d => ∃ c, view m d = some (.bl c) ∧ (c = true → b G m k x) ∧ (c = false → k (.t (.bl false)))) x
abbrev vOr (a b : VE) : VE := fun G m k x => a G m (fun d => ∃ c, view m d = some (.bl c) ∧ (c = true → k (.t (.bl true))) ∧ (c = false → b G m k x)) x
abbrev vNot (a : VE) : VE := fun G m k x => a G m (fun d => ∃ c, view m d = some (.bl c) ∧ k (.t (.bl (!c)))) x
abbrev vIf (t : VT) (a b : VE) : VE := fun G m k x => t G m (fun c => (c = true → a G m k x) ∧ (c = false → b G m k x)) x
abbrev vNeg (e : VE) : VE := fun G m k x => e G m (fun d => ∃ i, view m d = some (.int i) ∧ k (.t (.int (-i)))) x
abbrev vCh (f g : O2) (a b c : VE) : VE := fun G m k x => a G m (fun d => b G m (fun e => f m d e (fun z => ∃ q, view m z = some (.bl q) ∧ (q = true → c G m (fun e2 => g m e e2 k) x) ∧ (q = false → k (.t (.bl false))))) x) x
theorem lt_B {K : PySem.W.Frag} {mg : Str → Option Value} {Z : Rsc} {W : WX} {e : VE} : ∀ σ H Q, LT K mg Z W (vtB e) σ H Q → tB (LE K mg Z W e) σ H Q := fun σ H Q ⟨P, R, as, G, m, k, x, r, hk, n⟩ =>
  LE.go r hk (fun d v R1 H1 ⟨b, e1, h1⟩ n1 r1 d1 => ⟨b, r1.vBl d1 e1, n.ok _ R1 H1 h1 n1 r1⟩) n.er
theorem le_chain {K : PySem.W.Frag} {mg : Str → Option Value} {Z : Rsc} {W : WX} {r r' : R2} {f g : O2} {a b c : VE} (hr : Lo2 K mg r f) (hr' : Lo2 K mg r' g) : ∀ σ H Q, LE K mg Z W (vCh f g a b c) σ H Q → tChain r r' (LE K mg Z W a) (LE K mg Z W b) (LE K mg Z W c) σ H Q :=
  fun σ H Q ⟨P, R, as, G, m, k, x, r0, hk, n⟩ => LE.go r0 hk (fun d v R1 H1 h1 n1 r1 d1 => LE.go r1 h1 (fun e w R2 H2 h2 n2 r2 d2 =>
    hr Z P R2 as G m σ H2 v w d e _ _ r2 (d1.mono n2.r) d2 h2 fun z u R3 H3 ⟨q, e3, h3, h3'⟩ n3 r3 d3 => ⟨q, r3.vBl d3 e3, by
      cases q with
      | true =>
        rw [if_pos rfl]
        exact LE.go r3 (h3 rfl) (fun e2 w2 R4 H4 h4 n4 r4 d4 => hr' Z P R4 as G m σ H4 w w2 e e2 k Q r4 (d2.mono (n3.r.trans n4.r)) d4 h4 fun z2 u2 R5 H5 h5 n5 r5 d5 => n.ok z2 u2 R5 H5 h5 ((((n1.trans n2).trans n3).trans n4).trans n5) r5 d5) (n.step ((n1.trans n2).trans n3)).er
      | false =>
        rw [if_neg Bool.false_ne_true]
        exact n.ok _ _ R3 H3 (h3' rfl) ((n1.trans n2).trans n3) r3 (.t (.bl false))⟩) (n.step n1).er) n.er
section
variable {X : Cx} {Z : Rsc} {W : WX} {e a b c : Expr} {rest : List Expr} {ve ea eb ec : VE} {ta tb : VT} {pos : Pos}
theorem vt_val (h : PE X e (LE X.K X.mg Z W ve)) (he : ∀ whole, isTrue e X.env whole = (do let v ← whole; standAt e.pos; holding [v] (truthy v)) := by intro _; rfl) : PT X e (LT X.K X.mg Z W (vtB ve)) := PT.imp (pt_val h he) lt_B
theorem vt_cmp {op : CmpOp} {r : R2} {f : O2} (ho : OpR X (compareOp op) r) (hr : Lo2 X.K X.mg r f) (ha : PE X a (LE X.K X.mg Z W ea)) (hb : PE X b (LE X.K X.mg Z W eb)) (hm : behindInMarks op b = false) : PT X (.Compare a [op] [b] pos) (LT X.K X.mg Z W (vtB (vOp f ea eb))) :=
  PT.imp (pt_cmpR ho ha hb hm) fun σ H Q h => lo2 hr σ H _ (lt_B σ H Q h)
theorem v_chain {op op' : CmpOp} {r r' : R2} {f g : O2} (ho : OpR X (compareOp op) r) (ho' : OpR X (compareOp op') r') (hr : Lo2 X.K X.mg r f) (hr' : Lo2 X.K X.mg r' g) (ha : PE X a (LE X.K X.mg Z W ea)) (hb : PE X b (LE X.K X.mg Z W eb)) (hc : PE X c (LE X.K X.mg Z W ec))
    (hm : lastMarks [op, op'] [b, c] = false := by with_unfolding_all rfl) : PE X (.Compare a [op, op'] [b, c] pos) (LE X.K X.mg Z W (vCh f g ea eb ec)) := PE.imp (pe_chain ho ho' ha hb hc hm) (le_chain hr hr')
theorem vt_chain {op op' : CmpOp} {r r' : R2} {f g : O2} (ho : OpR X (compareOp op) r) (ho' : OpR X (compareOp op') r') (hr : Lo2 X.K X.mg r f) (hr' : Lo2 X.K X.mg r' g) (ha : PE X a (LE X.K X.mg Z W ea)) (hb : PE X b (LE X.K X.mg Z W eb)) (hc : PE X c (LE X.K X.mg Z W ec))
    (hm : lastMarks [op, op'] [b, c] = false := by with_unfolding_all rfl) : PT X (.Compare a [op, op'] [b, c] pos) (LT X.K X.mg Z W (vtB (vCh f g ea eb ec))) := PT.imp (pt_chain ho ho' ha hb hc hm) fun σ H Q h => le_chain hr hr' σ H _ (lt_B σ H Q h)
theorem empty_len {α β : Type} {xs : List α} {ts : List β} (h : xs.length = ts.length) : (!xs.isEmpty) = !ts.isEmpty := by
  cases xs <;> cases ts <;> simp_all
theorem truV_of {K : PySem.W.Frag} {mg : Str → Option Value} {H : Hp} {v : V} {t : Tr} {b : Bool} (q : Rep K mg H v t) (e2 : truT t = some b) : TruV K v H b := by
  cases q with
  | non => cases e2; rfl
  | bl b => cases e2; rfl
  | int i => cases e2; rfl
  | str s => cases e2
  | ty n => cases e2
  | cls h => cases e2
  | scr h => cases e2; exact .inl ⟨_, h, by simp⟩
  | lst h l f =>
    cases e2
    refine .inl ⟨_, .of h, ?_⟩
    exact empty_len l.symm
  | tup h l f =>
    cases e2
    refine .inr (.inl ⟨_, .of h, ?_⟩)
    exact empty_len l.symm
  | dic h l f => cases e2
  | ins m h l f => cases e2
  | exc m h => cases e2
theorem vt_truth (h : PE X e (LE X.K X.mg Z W ve)) (he : ∀ whole, isTrue e X.env whole = (do let v ← whole; standAt e.pos; holding [v] (truthy v)) := by intro _; rfl) : PT X e (LT X.K X.mg Z W (vtT ve)) :=
  PT.imp (pt_truth h he) fun σ H Q ⟨P, R, as, G, m, k, x, r, hk, n⟩ => LE.go r hk (fun d v R1 H1 ⟨t, b, e1, e2, h1⟩ n1 r1 d1 => ⟨b, truV_of (r1.repd d1 e1) e2, n.ok _ R1 H1 h1 n1 r1⟩) n.er
theorem PW.imp {X : Cx} {e : Expr} {t t' : TT} (h : PW X e t) (hi : ∀ σ H Q, t' σ H Q → t σ H Q) : PW X e t' := ⟨fun w pins s σ H Q I q => h.run w pins s σ H Q I (hi σ H Q q)⟩
theorem vw_and1 (ha : PT X a (LT X.K X.mg Z W ta)) : PW X (.BoolOp .And [a] pos) (LT X.K X.mg Z W ta) := pw_and1 ha
theorem vw_or1 (ha : PT X a (LT X.K X.mg Z W ta)) : PW X (.BoolOp .Or [a] pos) (LT X.K X.mg Z W ta) := pw_or1 ha
theorem vw_and (ha : PT X a (LT X.K X.mg Z W ta)) (hb : PW X (.BoolOp .And (b :: rest) pos) (LT X.K X.mg Z W tb)) : PW X (.BoolOp .And (a :: b :: rest) pos) (LT X.K X.mg Z W (vtAnd ta tb)) :=
  PW.imp (pw_and ha hb) fun σ H Q ⟨P, R, as, G, m, k, x, r, hk, n⟩ => LT.go r hk (fun c R1 H1 ⟨h1, h2⟩ n1 r1 => by
    cases c with
    | true =>
      rw [if_pos rfl]
      exact ⟨P, R1, as, G, m, k, x, r1, h1 rfl, n.step n1⟩
    | false =>
      rw [if_neg Bool.false_ne_true]
      exact n.ok _ R1 H1 (h2 rfl) n1 r1) n.er
theorem vw_or (ha : PT X a (LT X.K X.mg Z W ta)) (hb : PW X (.BoolOp .Or (b :: rest) pos) (LT X.K X.mg Z W tb)) : PW X (.BoolOp .Or (a :: b :: rest) pos) (LT X.K X.mg Z W (vtOr ta tb)) :=
  PW.imp (pw_or ha hb) fun σ H Q ⟨P, R, as, G, m, k, x, r, hk, n⟩ => LT.go r hk (fun c R1 H1 ⟨h1, h2⟩ n1 r1 => by
    cases c with
    | false =>
      rw [if_neg Bool.false_ne_true]
      exact ⟨P, R1, as, G, m, k, x, r1, h2 rfl, n.step n1⟩
    | true =>
      rw [if_pos rfl]
      exact n.ok _ R1 H1 (h1 rfl) n1 r1) n.er
theorem vt_not (ha : PT X a (LT X.K X.mg Z W ta)) : PT X (.UnaryOp .Not a pos) (LT X.K X.mg Z W (vtNot ta)) :=
  PT.imp (pt_not ha) fun σ H Q ⟨P, R, as, G, m, k, x, r, hk, n⟩ => LT.go r hk (fun c R1 H1 h1 n1 r1 => n.ok _ R1 H1 h1 n1 r1) n.er
theorem v_one {op : BoolOp} (h : PE X a (LE X.K X.mg Z W ea)) : PE X (.BoolOp op [a] pos) (LE X.K X.mg Z W ea) := pe_one h
theorem v_and (ha : PE X a (LE X.K X.mg Z W ea)) (hb : PE X (.BoolOp .And (b :: rest) pos) (LE X.K X.mg Z W eb)) : PE X (.BoolOp .And (a :: b :: rest) pos) (LE X.K X.mg Z W (vAnd ea eb)) :=
  PE.imp (pe_and ha hb) fun σ H Q ⟨P, R, as, G, m, k, x, r, hk, n⟩ => LE.go r hk (fun d v R1 H1 ⟨c, e1, h1, h2⟩ n1 r1 d1 => ⟨c, r1.vBl d1 e1, by
    cases c with
    | true =>
      rw [if_pos rfl]
      exact ⟨P, R1, as, G, m, k, x, r1, h1 rfl, n.step n1⟩
    | false =>
      rw [if_neg Bool.false_ne_true]
      exact n.ok _ _ R1 H1 (h2 rfl) n1 r1 (.t (.bl false))⟩) n.er
theorem v_or (ha : PE X a (LE X.K X.mg Z W ea)) (hb : PE X (.BoolOp .Or (b :: rest) pos) (LE X.K X.mg Z W eb)) : PE X (.BoolOp .Or (a :: b :: rest) pos) (LE X.K X.mg Z W (vOr ea eb)) :=
  PE.imp (pe_or ha hb) fun σ H Q ⟨P, R, as, G, m, k, x, r, hk, n⟩ => LE.go r hk (fun d v R1 H1 ⟨c, e1, h1, h2⟩ n1 r1 d1 => ⟨c, r1.vBl d1 e1, by
    cases c with
    | false =>
      rw [if_neg Bool.false_ne_true]
      exact ⟨P, R1, as, G, m, k, x, r1, h2 rfl, n.step n1⟩
    | true =>
      rw [if_pos rfl]
      exact n.ok _ _ R1 H1 (h1 rfl) n1 r1 (.t (.bl true))⟩) n.er
theorem v_not (ha : PE X a (LE X.K X.mg Z W ea)) : PE X (.UnaryOp .Not a pos) (LE X.K X.mg Z W (vNot ea)) :=
  PE.imp (pe_not ha) fun σ H Q ⟨P, R, as, G, m, k, x, r, hk, n⟩ => LE.go r hk (fun d v R1 H1 ⟨c, e1, h1⟩ n1 r1 d1 => ⟨c, r1.vBl d1 e1, n.ok _ _ R1 H1 h1 n1 r1 (.t (.bl _))⟩) n.er
theorem v_ifExp (hc : PT X c (LT X.K X.mg Z W ta)) (ha : PE X a (LE X.K X.mg Z W ea)) (hb : PE X b (LE X.K X.mg Z W eb)) : PE X (.IfExp c a b pos) (LE X.K X.mg Z W (vIf ta ea eb)) :=
  PE.imp (pe_ifExp hc ha hb) fun σ H Q ⟨P, R, as, G, m, k, x, r, hk, n⟩ => LT.go r hk (fun c R1 H1 ⟨h1, h2⟩ n1 r1 => by
    cases c with
    | true =>
      rw [if_pos rfl]
      exact ⟨P, R1, as, G, m, k, x, r1, h1 rfl, n.step n1⟩
    | false =>
      rw [if_neg Bool.false_ne_true]
      exact ⟨P, R1, as, G, m, k, x, r1, h2 rfl, n.step n1⟩) n.er
theorem v_neg (ha : PE X a (LE X.K X.mg Z W ea)) : PE X (.UnaryOp .USub a pos) (LE X.K X.mg Z W (vNeg ea)) :=
  PE.imp (pe_un un_neg ha) fun σ H Q ⟨P, R, as, G, m, k, x, r, hk, n⟩ => LE.go r hk (fun d v R1 H1 ⟨i, e1, h1⟩ n1 r1 d1 => ⟨i, r1.vInt d1 e1, n.ok _ _ R1 H1 h1 n1 r1 (.t (.int _))⟩) n.er
end
end VL

/-! VL, part F: statements. -/
namespace VL
open PySem L2

abbrev SK := Env → Sto → Prop
abbrev RK := Dv → Sto → Prop
abbrev XS := Str → Env → Sto → Prop
/-- a statement's reading: what is wanted next, of a return, a break, a continue, an exception -/
abbrev VS := SK → RK → SK → SK → XS → Env → Sto → Prop

structure Ke (K : PySem.W.Frag) (mg : Str → Option Value) (Z : Rsc) (W : WX) (P : Pm) (nx : SK) (rt : RK) (bk ct : SK) (ex : XS) (D : Ends) : Prop where
  nx : ∀ G m R as σ H, nx G m → Rel K mg Z P R as G m σ H → D.nx σ H
  rt : ∀ d m v R as G σ H, rt d m → Rel K mg Z P R as G m σ H → DRep K mg R P.hd as v d → D.rt v H
  bk : ∀ G m R as σ H, bk G m → Rel K mg Z P R as G m σ H → D.bk σ H
  ct : ∀ G m R as σ H, ct G m → Rel K mg Z P R as G m σ H → D.ct σ H
  ex : ∀ nm cl m R as G σ H, ex nm G m → mg nm = some cl → Rel K mg Z P R as G m σ H → W cl none σ H
def LS (K : PySem.W.Frag) (mg : Str → Option Value) (Z : Rsc) (W : WX) (u : VS) : TS := fun D σ H => ∃ P R as G m nx rt bk ct ex, Rel K mg Z P R as G m σ H ∧ u nx rt bk ct ex G m ∧ Ke K mg Z W P nx rt bk ct ex D

section
variable {K : PySem.W.Frag} {mg : Str → Option Value} {Z : Rsc} {P : Pm} {R R' H H' : Hp} {as : List Addr} {G : Env} {m : Sto} {σ : L2.St}
/-- a name holds another thing -/
theorem Rel.set (r : Rel K mg Z P R as G m σ H) {i : Nat} {v : V} {d : Dv} (h : DRep K mg R P.hd as v d) : Rel K mg Z P R as (G.set i (some d)) m (σ.set i (some v)) H :=
  { r with
    len := by rw [List.length_set, List.length_set]; exact r.len
    env := fun i' d' e => by
      by_cases hi : i = i'
      · subst hi
        by_cases hl : i < G.length
        · rw [List.getElem?_set_self hl] at e
          cases e
          exact ⟨v, List.getElem?_set_self (by rw [← r.len]; exact hl), h⟩
        · rw [List.getElem?_eq_none (by rw [List.length_set]; omega)] at e
          cases e
      · rw [List.getElem?_set_ne hi] at e
        obtain ⟨x, h1, h2⟩ := r.env i' d' e
        exact ⟨x, by rw [List.getElem?_set_ne hi]; exact h1, h2⟩ }
/-- a name is forgotten -/
theorem Rel.drop (r : Rel K mg Z P R as G m σ H) (G' : Env) (hl : G'.length = G.length) (h : ∀ (i : Nat) d, G'[i]? = some (some d) → G[i]? = some (some d)) : Rel K mg Z P R as G' m σ H :=
  { r with len := hl.trans r.len, env := fun i d e => r.env i d (h i d e) }
theorem Rel.drop1 (r : Rel K mg Z P R as G m σ H) (i : Nat) : Rel K mg Z P R as (G.set i none) m σ H := r.drop _ (by rw [List.length_set]) fun i' d e => by
  by_cases hi : i = i'
  · subst hi
    by_cases hl : i < G.length
    · rw [List.getElem?_set_self hl] at e; cases e
    · rw [List.getElem?_eq_none (by rw [List.length_set]; omega)] at e; cases e
  · rw [List.getElem?_set_ne hi] at e; exact e
/-- an owned object is changed -/
theorem Rel.put (r : Rel K mg Z P R as G m σ H) {j : Nat} {x x' : Tr} {a : Addr} {o : HO} (hj : m[j]? = some (some x)) (ha : as[j]? = some a) (ho : Own K mg R as (upd H a o) a x') : Rel K mg Z P R as G (m.set j (some x')) σ (upd H a o) := by
  obtain ⟨a', h1, h2, h3, h4, h5⟩ := r.sto j x hj
  rw [ha] at h1; cases h1
  have hjl : j < m.length := (List.getElem?_eq_some_iff.mp hj).1
  have live : ∀ (k : Nat) y, (m.set j (some x'))[k]? = some (some y) → ∃ y', m[k]? = some (some y') := fun k y e => by
    by_cases hk : j = k
    · subst hk; exact ⟨x, hj⟩
    · rw [List.getElem?_set_ne hk] at e; exact ⟨y, e⟩
  refine ⟨same_put h3 r.ex, r.len, r.env, fun k y e => ?_, fun k l y z b e1 e2 e3 e4 => ?_, Z.st _ _ _ _ (fun b hb => upd_ne fun z => h4 (by rw [← z]; exact hb)) r.vol, r.rb, fun b u e n1 n2 => ?_, fun b e => ?_, r.fresh, r.r0, by rw [List.length_set]; exact r.la, r.pre⟩
  · by_cases hk : j = k
    · subst hk
      rw [List.getElem?_set_self hjl] at e
      cases e
      exact ⟨a, ha, ho, h3, h4, h5⟩
    · rw [List.getElem?_set_ne hk] at e
      obtain ⟨b, q1, q2, q3, q4, q5⟩ := r.sto k y e
      have hb : b ≠ a := fun z => hk (r.inj j k x y a hj e ha (by rw [← z]; exact q1))
      exact ⟨b, q1, q2.mono (Same.refl R) fun u q => by rw [upd_ne hb]; exact q, q3, q4, q5⟩
  · obtain ⟨y', e1'⟩ := live k y e1
    obtain ⟨z', e2'⟩ := live l z e2
    exact r.inj k l y' z' b e1' e2' e3 e4
  · have hb : b ≠ a := fun z => by
      subst z
      rcases h5 with h5 | h5
      · rw [h5] at e; cases e
      · exact n1 h5.1
    rw [upd_ne hb]
    exact r.frame b u e n1 n2
  · by_cases hb : b = a
    · subst hb; rw [upd_same]; simp
    · rw [upd_ne hb]; exact r.dom b e
/-- no name holds this site -/
def noLoc (j : Nat) : Env → Bool
  | [] => true
  | some (.loc k) :: r => (k != j) && noLoc j r
  | _ :: r => noLoc j r
theorem noLoc_at {j : Nat} : ∀ {G : Env}, noLoc j G = true → ∀ i : Nat, G[i]? ≠ some (some (.loc j))
  | [], _, i => by simp
  | none :: r, h, 0 => by simp
  | none :: r, h, i + 1 => by
    have h' : noLoc j r = true := h
    simpa using noLoc_at h' i
  | some (.t x) :: r, h, 0 => by simp
  | some (.t x) :: r, h, i + 1 => by
    have h' : noLoc j r = true := h
    simpa using noLoc_at h' i
  | some (.hnd x) :: r, h, 0 => by simp
  | some (.hnd x) :: r, h, i + 1 => by
    have h' : noLoc j r = true := h
    simpa using noLoc_at h' i
  | some (.loc k) :: r, h, 0 => by
    have h' : ((k != j) && noLoc j r) = true := h
    rw [Bool.and_eq_true] at h'
    have : k ≠ j := by simpa using h'.1
    simpa using this
  | some (.loc k) :: r, h, i + 1 => by
    have h' : ((k != j) && noLoc j r) = true := h
    rw [Bool.and_eq_true] at h'
    simpa using noLoc_at h'.2 i
/-- neither a name nor another cell holds this site -/
def noAtM (j : Nat) : Sto → Bool
  | [] => true
  | some x :: r => noAt j x && noAtM j r
  | none :: r => noAtM j r
theorem noAtM_at {j k : Nat} {x : Tr} : ∀ {m : Sto}, noAtM j m = true → m[k]? = some (some x) → noAt j x = true
  | m, h, e => by
    induction m generalizing k with
    | nil => simp at e
    | cons o r ih =>
      have h' : noAtM j r = true ∧ ∀ y, o = some y → noAt j y = true := by
        cases o with
        | none => exact ⟨h, fun y q => by cases q⟩
        | some y =>
          have h : (noAt j y && noAtM j r) = true := h
          rw [Bool.and_eq_true] at h
          exact ⟨h.2, fun z q => by cases q; exact h.1⟩
      cases k with
      | zero => exact h'.2 x (by simpa using e)
      | succ k => exact ih h'.1 (by simpa using e)
def noRef (j : Nat) (m : Sto) (G : Env) : Bool := noLoc j G && noAtM j (m.set j none)
/-- a new owned object at a site that nothing holds -/
theorem Rel.new (r : Rel K mg Z P R as G m σ H) {j : Nat} {x : Tr} {p : Addr} {o : HO} (h0 : Z.n0 ≤ j) (hp : H p = none) (hj : j < m.length) (hn : noRef j m G = true) (ho : Own K mg R as (upd H p o) p x) (hx : noAt j x = true) : Rel K mg Z P R (as.set j p) G (m.set j (some x)) σ (upd H p o) := by
  have hja : j < as.length := by rw [r.la]; exact hj
  unfold noRef at hn
  rw [Bool.and_eq_true] at hn
  have old : ∀ (k : Nat) y, j ≠ k → (m.set j (some x))[k]? = some (some y) → m[k]? = some (some y) := fun k y hk e => by rw [List.getElem?_set_ne hk] at e; exact e
  have nas : ∀ (k : Nat) y, j ≠ k → (m.set j (some x))[k]? = some (some y) → (as.set j p)[k]? ≠ some p := fun k y hk e q => by
    rw [List.getElem?_set_ne hk] at q
    exact r.newA hp (old k y hk e) q
  have far : ∀ (y : Tr), noAt j y = true → ∀ (l : Nat) b, noAt l y = false → as[l]? = some b → (as.set j p)[l]? = some b := fun y hy l b hl hb => by
    have : j ≠ l := fun z => by subst z; rw [hy] at hl; cases hl
    rw [List.getElem?_set_ne this]
    exact hb
  refine ⟨same_put (r.newR hp) r.ex, r.len, fun i d e => ?_, fun k y e => ?_, fun k l y z b e1 e2 e3 e4 => ?_, Z.st _ _ _ _ (fun b hb => upd_ne fun z => r.newB hp (by rw [← z]; exact hb)) r.vol, r.rb, fun b u e n1 n2 => ?_, fun b e => ?_, r.fresh, r.r0, by rw [List.length_set, List.length_set]; exact r.la, fun k hk => by rw [List.getElem?_set_ne (by omega)]; exact r.pre k hk⟩
  · obtain ⟨v, h1, h2⟩ := r.env i d e
    refine ⟨v, h1, ?_⟩
    cases h2 with
    | t h => exact .t h
    | hnd i => exact .hnd i
    | @loc k a h =>
      refine .loc ?_
      have hk : j ≠ k := fun z => noLoc_at hn.1 i (by rw [z]; exact e)
      rw [List.getElem?_set_ne hk]
      exact h
  · by_cases hk : j = k
    · subst hk
      rw [List.getElem?_set_self hj] at e
      cases e
      exact ⟨p, List.getElem?_set_self hja, ho.monoA (Same.refl R) (fun _ q => q) (far _ hx), r.newR hp, r.newB hp, .inl (r.new0 hp)⟩
    · obtain ⟨b, q1, q2, q3, q4, q5⟩ := r.sto k y (old k y hk e)
      refine ⟨b, by rw [List.getElem?_set_ne hk]; exact q1, q2.monoA (Same.refl R) (fun u q => ?_) (far _ (noAtM_at hn.2 (by rw [List.getElem?_set_ne hk]; exact old k y hk e))), q3, q4, q5⟩
      rw [upd_ne (ne_of_none q hp)]
      exact q
  · by_cases hk : j = k
    · by_cases hl : j = l
      · rw [← hk, ← hl]
      · subst hk
        rw [List.getElem?_set_self hja] at e3
        cases e3
        exact absurd e4 (nas l z hl e2)
    · by_cases hl : j = l
      · subst hl
        rw [List.getElem?_set_self hja] at e4
        cases e4
        exact absurd e3 (nas k y hk e1)
      · rw [List.getElem?_set_ne hk] at e3
        rw [List.getElem?_set_ne hl] at e4
        exact r.inj k l y z b (old k y hk e1) (old l z hl e2) e3 e4
  · have q := r.frame b u e n1 n2
    rw [upd_ne (ne_of_none q hp)]
    exact q
  · cases q : H b with
    | none => exact absurd q (r.dom b e)
    | some u => rw [upd_ne (ne_of_none q hp), q]; simp
/-- an owned object, with all that hangs on it, becomes known -/
def frzD (j : Nat) (x : Tr) : Option Dv → Option Dv
  | some (.loc k) => if k = j then some (.t x) else some (.loc k)
  | o => o
theorem Rel.frz0 (r : Rel K mg Z P R as G m σ H) {j : Nat} {x : Tr} (hj : see m 12 (.at j) = some x) (hr : ∀ k ∈ reach m 12 (.at j), Z.n0 ≤ k) : ∃ R', Same R R' ∧ (∀ a, R' a ≠ none → R a ≠ none ∨ P.H0 a = none) ∧ Rel K mg Z P R' as (G.map (frzD j x)) (wipeM m (reach m 12 (.at j))) σ H ∧ ∀ a, as[j]? = some a → Rep K mg R' (.ref a) x := by
  generalize hS : reach m 12 (.at j) = S at hr
  let A : Addr → Prop := fun a => ∃ k y, k ∈ S ∧ m[k]? = some (some y) ∧ as[k]? = some a
  let R' : Hp := fun a => open Classical in if A a then H a else R a
  have hA : ∀ {a}, A a → R' a = H a := fun {a} h => if_pos h
  have hN : ∀ {a}, ¬ A a → R' a = R a := fun {a} h => if_neg h
  have aR : ∀ {a}, A a → R a = none ∧ ¬ P.B a ∧ P.H0 a = none := fun {a} ⟨k, y, h1, h2, h3⟩ => by
    obtain ⟨b, q1, q2, q3, q4, q5⟩ := r.sto k y h2
    rw [h3] at q1; cases q1
    refine ⟨q3, q4, ?_⟩
    rcases q5 with q5 | q5
    · exact q5
    · have := hr k h1
      exact absurd q5.2 (by omega)
  have sr : Same R R' := fun a o e => by
    by_cases h : A a
    · rw [(aR h).1] at e; cases e
    · rw [hN h]; exact e
  have hrep : ∀ a, as[j]? = some a → Rep K mg R' (.ref a) x := fun a ha => (see_rep (S := fun k => k ∈ S) (R' := R') sr (fun k y hy hk => by
    obtain ⟨a, h1, h2, _⟩ := r.sto k y hy
    exact ⟨a, h1, h2, fun o q => by rw [hA ⟨k, y, hk, hy, h1⟩]; exact q⟩) 12).1 (.at j) (.ref a) x (.s ha) hj fun k hk => by rw [← hS]; exact hk
  refine ⟨R', sr, fun a e => ?_, ⟨fun b u e => ?_, by rw [List.length_map]; exact r.len, fun i d e => ?_, fun k y e => ?_, fun k l y z b q1 q2 q3 q4 => r.inj k l y z b (wipeM_at q1).2 (wipeM_at q2).2 q3 q4, r.vol, fun b hb => ?_, r.frame, r.dom, fun b e => ?_, r.r0.trans sr, by rw [wipeM_len]; exact r.la, r.pre⟩, hrep⟩
  · by_cases h : A a
    · exact .inr (aR h).2.2
    · rw [hN h] at e; exact .inl e
  · by_cases h : A b
    · rw [hA h] at e; exact e
    · rw [hN h] at e; exact r.ex b u e
  · rw [List.getElem?_map] at e
    cases q : G[i]? with
    | none => rw [q] at e; cases e
    | some g =>
      rw [q] at e
      have e : frzD j x g = some d := Option.some.inj e
      cases g with
      | none => cases e
      | some d0 =>
        obtain ⟨v, q1, q2⟩ := r.env i d0 q
        refine ⟨v, q1, ?_⟩
        cases q2 with
        | t h => cases e; exact .t (h.mono sr)
        | hnd i => cases e; exact .hnd i
        | @loc k b h =>
          by_cases hk : k = j
          · subst hk
            have e : (if k = k then some (Dv.t x) else some (.loc k)) = some d := e
            rw [if_pos rfl] at e
            cases e
            exact .t (hrep b h)
          · have e : (if k = j then some (Dv.t x) else some (.loc k)) = some d := e
            rw [if_neg hk] at e
            cases e
            exact .loc h
  · obtain ⟨hk, e'⟩ := wipeM_at e
    obtain ⟨b, q1, q2, q3, q4, q5⟩ := r.sto k y e'
    have hb : ¬ A b := fun ⟨l, z, h1, h2, h3⟩ => hk (by rw [r.inj k l y z b e' h2 q1 h3]; exact h1)
    exact ⟨b, q1, q2.mono sr fun _ q => q, by rw [hN hb]; exact q3, q4, q5⟩
  · by_cases h : A b
    · exact absurd hb (aR h).2.1
    · rw [hN h]; exact r.rb b hb
  · by_cases h : A b
    · exact .inr (aR h).2.2
    · rw [hN h] at e; exact r.fresh b e
theorem Rel.frz (r : Rel K mg Z P R as G m σ H) {j : Nat} {x : Tr} (hj : see m 12 (.at j) = some x) (h0 : Z.n0 ≤ j) (hr : (reach m 12 (.at j)).all (j ≤ ·) = true) : ∃ R', Same R R' ∧ (∀ a, R' a ≠ none → R a ≠ none ∨ P.H0 a = none) ∧ Rel K mg Z P R' as (G.map (frzD j x)) (wipeM m (reach m 12 (.at j))) σ H ∧ ∀ a, as[j]? = some a → Rep K mg R' (.ref a) x :=
  r.frz0 hj fun k hk => by
    rw [List.all_eq_true] at hr
    have := hr k hk
    have : j ≤ k := by simpa using this
    omega
end

/-! ### blocks -/
abbrev vNext : VS := fun nx _ _ _ _ G m => nx G m
def vSeq (a b : VS) : VS := fun nx rt bk ct ex G m => a (fun G' m' => b nx rt bk ct ex G' m') rt bk ct ex G m
abbrev vDrop (e : VE) : VS := fun nx _ _ _ ex G m => e G m (fun _ => nx G m) (fun n => ex n G m)
abbrev vRet (e : VE) : VS := fun _ rt _ _ ex G m => e G m (fun d => rt d m) (fun n => ex n G m)
abbrev vRetN : VS := fun _ rt _ _ _ _ m => rt (.t .non) m
abbrev vIfS (t : VT) (a b : VS) : VS := fun nx rt bk ct ex G m => t G m (fun c => (c = true → a nx rt bk ct ex G m) ∧ (c = false → b nx rt bk ct ex G m)) (fun n => ex n G m)
abbrev vBrk : VS := fun _ _ bk _ _ G m => bk G m
abbrev vCnt : VS := fun _ _ _ ct _ G m => ct G m
def vNever : VS := fun _ _ _ _ _ _ _ => False
/-- x = e -/
abbrev vSet (i : Nat) (e : VE) : VS := fun nx _ _ _ ex G m => e G m (fun d => nx (G.set i (some d)) m) (fun n => ex n G m)
/-- nothing: an owned object becomes known -/
def vFrz (j : Nat) (u : VS) : VS := fun nx rt bk ct ex G m => ∃ x, see m 12 (.at j) = some x ∧ (reach m 12 (.at j)).all (j ≤ ·) = true ∧ u nx rt bk ct ex (G.map (frzD j x)) (wipeM m (reach m 12 (.at j)))
/-- nothing: names are forgotten -/
abbrev vForget (is : List Nat) (u : VS) : VS := fun nx rt bk ct ex G m => u nx rt bk ct ex (is.foldl (fun g i => g.set i none) G) m
section
variable {X : Cx} {Z : Rsc} {W : WX} {st : Stmt} {rest sa sb : List Stmt} {u w : VS} {e : Expr} {c : Expr} {ve : VE} {vt : VT} {pos : Pos}
theorem vs_nil : PSs X [] (LS X.K X.mg Z W vNext) := PSs.imp pss_nil fun D σ H ⟨P, R, as, G, m, nx, rt, bk, ct, ex, r, h, k⟩ => k.nx G m R as σ H h r
theorem vs_cons (h1 : PS X st (LS X.K X.mg Z W u)) (h2 : PSs X rest (LS X.K X.mg Z W w)) : PSs X (st :: rest) (LS X.K X.mg Z W (vSeq u w)) :=
  PSs.imp (pss_cons h1 h2) fun D σ H ⟨P, R, as, G, m, nx, rt, bk, ct, ex, r, h, k⟩ => ⟨P, R, as, G, m, _, rt, bk, ct, ex, r, h, fun G' m' R' as' σ' H' h' r' => ⟨P, R', as', G', m', nx, rt, bk, ct, ex, r', h', k⟩, k.rt, k.bk, k.ct, k.ex⟩
theorem vs_one (h1 : PS X st (LS X.K X.mg Z W u)) : PSs X [st] (LS X.K X.mg Z W u) := pss_one h1
theorem vs_pass : PS X (.Pass pos) (LS X.K X.mg Z W vNext) := PS.imp ps_pass fun D σ H ⟨P, R, as, G, m, nx, rt, bk, ct, ex, r, h, k⟩ => k.nx G m R as σ H h r
theorem vs_break : PS X (.Break pos) (LS X.K X.mg Z W vBrk) := PS.imp ps_break fun D σ H ⟨P, R, as, G, m, nx, rt, bk, ct, ex, r, h, k⟩ => k.bk G m R as σ H h r
theorem vs_continue : PS X (.Continue pos) (LS X.K X.mg Z W vCnt) := PS.imp ps_continue fun D σ H ⟨P, R, as, G, m, nx, rt, bk, ct, ex, r, h, k⟩ => k.ct G m R as σ H h r
theorem vs_doc {x : Str} {j : Nat} {p1 p2 : Pos} : PS X (.Expr (.Constant (.str x) j p1) p2) (LS X.K X.mg Z W vNext) := PS.imp ps_doc fun D σ H ⟨P, R, as, G, m, nx, rt, bk, ct, ex, r, h, k⟩ => k.nx G m R as σ H h r
theorem vs_never : PS X st (LS X.K X.mg Z W vNever) := PS.imp ps_never fun D σ H ⟨P, R, as, G, m, nx, rt, bk, ct, ex, r, h, k⟩ => h.elim
theorem vss_never : PSs X rest (LS X.K X.mg Z W vNever) := PSs.imp pss_never fun D σ H ⟨P, R, as, G, m, nx, rt, bk, ct, ex, r, h, k⟩ => h.elim
theorem Ke.er {P : Pm} {nx : SK} {rt : RK} {bk ct : SK} {ex : XS} {D : Ends} {m : Sto} {as : List Addr} {G : Env} {σ : L2.St} {R H : Hp} {K : PySem.W.Frag} {mg : Str → Option Value} (k : Ke K mg Z W P nx rt bk ct ex D) : ∀ nm cl R' H', ex nm G m → mg nm = some cl → Nx P R H R' H' → Rel K mg Z P R' as G m σ H' → W cl none σ H' :=
  fun nm cl R' H' a b _ d => k.ex nm cl m R' as G σ H' a b d
theorem vs_expr (he : PE X e (LE X.K X.mg Z W ve)) (hs : swapsWith e none pos.line X.env = pure false := by rfl) : PS X (.Expr e pos) (LS X.K X.mg Z W (vDrop ve)) :=
  PS.imp (ps_expr he hs) fun D σ H ⟨P, R, as, G, m, nx, rt, bk, ct, ex, r, h, k⟩ => LE.go r h (fun d v R1 H1 h1 n1 r1 d1 => k.nx G m R1 as σ H1 h1 r1) k.er
theorem vs_ret (he : PE X e (LE X.K X.mg Z W ve)) : PS X (.Return (some e) pos) (LS X.K X.mg Z W (vRet ve)) :=
  PS.imp (ps_ret he) fun D σ H ⟨P, R, as, G, m, nx, rt, bk, ct, ex, r, h, k⟩ => LE.go r h (fun d v R1 H1 h1 n1 r1 d1 => k.rt d m v R1 as G σ H1 h1 r1 d1) k.er
theorem vs_retN : PS X (.Return none pos) (LS X.K X.mg Z W vRetN) := PS.imp ps_retN fun D σ H ⟨P, R, as, G, m, nx, rt, bk, ct, ex, r, h, k⟩ => k.rt _ m _ R as G σ H h r (.t .non)
theorem vs_if (hc : PT X c (LT X.K X.mg Z W vt)) (ha : PSs X sa (LS X.K X.mg Z W u)) (hb : PSs X sb (LS X.K X.mg Z W w)) : PS X (.If c sa sb pos) (LS X.K X.mg Z W (vIfS vt u w)) :=
  PS.imp (ps_if hc ha hb) fun D σ H ⟨P, R, as, G, m, nx, rt, bk, ct, ex, r, h, k⟩ => LT.go r h (fun c R1 H1 ⟨h1, h2⟩ n1 r1 => by
    cases c with
    | true =>
      rw [if_pos rfl]
      exact ⟨P, R1, as, G, m, nx, rt, bk, ct, ex, r1, h1 rfl, k⟩
    | false =>
      rw [if_neg Bool.false_ne_true]
      exact ⟨P, R1, as, G, m, nx, rt, bk, ct, ex, r1, h2 rfl, k⟩) k.er
theorem vs_set {i : Nat} {x : Str} {pos' : Pos} (hN : X.N.Nodup) (hi : X.N[i]? = some x) (hx : Loc X.env.scope x) (he : PE X e (LE X.K X.mg Z W ve)) (hs : swapsWith e (some (.Name x pos')) pos.line X.env = pure false := by rfl) (hf : X.fn x = true ∨ X.env.scope.names.lookup x = some .local := by first | exact .inl rfl | exact .inr rfl | assumption) :
    PS X (.Assign [.Name x pos'] e pos) (LS X.K X.mg Z W (vSet i ve)) :=
  PS.imp (ps_set hN hi hx he hs hf) fun D σ H ⟨P, R, as, G, m, nx, rt, bk, ct, ex, r, h, k⟩ => LE.go r h (fun d v R1 H1 h1 n1 r1 d1 => k.nx _ m R1 as _ H1 h1 (r1.set d1)) k.er
theorem vs_frz {j : Nat} (h0 : Z.n0 ≤ j) (h : PSs X rest (LS X.K X.mg Z W u)) : PSs X rest (LS X.K X.mg Z W (vFrz j u)) :=
  PSs.imp h fun D σ H ⟨P, R, as, G, m, nx, rt, bk, ct, ex, r, ⟨x, hj, hr, h⟩, k⟩ => by
    obtain ⟨R', _, _, r', _⟩ := r.frz hj h0 hr
    exact ⟨P, R', as, _, _, nx, rt, bk, ct, ex, r', h, k⟩
theorem foldl_drop : ∀ (is : List Nat) (G : Env), (is.foldl (fun g i => g.set i none) G).length = G.length ∧ ∀ (i : Nat) d, (is.foldl (fun g i => g.set i none) G)[i]? = some (some d) → G[i]? = some (some d)
  | [], G => ⟨rfl, fun _ _ e => e⟩
  | i :: is, G => by
    obtain ⟨h1, h2⟩ := foldl_drop is (G.set i none)
    refine ⟨by rw [List.foldl_cons, h1, List.length_set], fun i' d e => ?_⟩
    have q := h2 i' d e
    by_cases hi : i = i'
    · subst hi
      by_cases hl : i < G.length
      · rw [List.getElem?_set_self hl] at q; cases q
      · rw [List.getElem?_eq_none (by rw [List.length_set]; omega)] at q; cases q
    · rw [List.getElem?_set_ne hi] at q; exact q
theorem vs_forget {is : List Nat} (h : PSs X rest (LS X.K X.mg Z W u)) : PSs X rest (LS X.K X.mg Z W (vForget is u)) :=
  PSs.imp h fun D σ H ⟨P, R, as, G, m, nx, rt, bk, ct, ex, r, h, k⟩ => ⟨P, R, as, _, m, nx, rt, bk, ct, ex, r.drop _ (foldl_drop is G).1 (foldl_drop is G).2, h, k⟩
end

/-! ### new owned objects, and changes of them -/
abbrev vaNil : VA := fun _ _ k _ => k []
abbrev vaCons (e : VE) (r : VA) : VA := fun G m k x => e G m (fun d => r G m (fun ds => k (d :: ds)) x) x
/-- data alone -/
def unT : List Dv → Option (List Tr)
  | [] => some []
  | .t x :: r => (unT r).map (x :: ·)
  | _ :: _ => none
theorem unT_eq : ∀ {ds : List Dv} {ts : List Tr}, unT ds = some ts → ds = ts.map .t
  | [], ts, h => by simp [unT] at h; subst h; rfl
  | .t x :: r, ts, h => by
    simp [unT] at h
    obtain ⟨us, h1, rfl⟩ := h
    rw [unT_eq h1]; rfl
  | .loc _ :: _, _, h => by simp [unT] at h
  | .hnd _ :: _, _, h => by simp [unT] at h
theorem drep_ts {K : PySem.W.Frag} {mg : Str → Option Value} {R : Hp} {hd : Nat → Addr} {as : List Addr} : ∀ {ts : List Tr} {vs : List V}, Paired (DRep K mg R hd as) vs (ts.map .t) → Reps K mg R vs ts
  | [], _, .nil => .nil
  | t :: ts, _, .cons r rs => by
    cases r with
    | t h => exact .cons h (drep_ts rs)
section
variable {X : Cx} {Z : Rsc} {W : WX} {e : Expr} {es : List Expr} {ve : VE} {va : VA} {pos : Pos}
theorem va_nil : PA X [] (LA X.K X.mg Z W vaNil) := PA.imp pa_nil fun σ H Q ⟨P, R, as, G, m, k, x, r, h, n⟩ => n.ok [] [] R H h .refl r .nil
theorem va_cons (ha : PE X e (LE X.K X.mg Z W ve)) (hr : PA X es (LA X.K X.mg Z W va)) (hs : starEach (e :: es) X.env = (false, eval e X.env) :: starEach es X.env := by rfl) : PA X (e :: es) (LA X.K X.mg Z W (vaCons ve va)) :=
  PA.imp (pa_cons ha hr hs) fun σ H Q ⟨P, R, as, G, m, k, x, r, h, n⟩ => LE.go r h (fun d v R1 H1 h1 n1 r1 d1 => LA.go r1 h1 (fun ds vs R2 H2 h2 n2 r2 d2 => n.ok _ _ R2 H2 h2 (n1.trans n2) r2 (.cons (d1.mono n2.r) d2)) (n.step n1).er) n.er
/-- [..], (..) as data -/
abbrev vLst (es : VA) : VE := fun G m k x => es G m (fun ds => ∃ ts, unT ds = some ts ∧ ts.length ≤ sizeLine ∧ k (.t (.lst ts))) x
abbrev vTup (es : VA) : VE := fun G m k x => es G m (fun ds => ∃ ts, unT ds = some ts ∧ ts.length ≤ sizeLine ∧ k (.t (.tup ts))) x
theorem v_lst (h : PA X es (LA X.K X.mg Z W va)) : PE X (.List es pos) (LE X.K X.mg Z W (vLst va)) :=
  PE.imp (pe_lst h) fun σ H Q ⟨P, R, as, G, m, k, x, r, h, n⟩ => LA.go r h (fun ds vs R1 H1 ⟨ts, e1, hz, h1⟩ n1 r1 d1 => by
    rw [unT_eq e1] at d1
    have q := drep_ts d1
    refine ⟨by rw [Paired.length q]; exact hz, fun p hp => ?_⟩
    obtain ⟨r', n'⟩ := r1.laid (o := .lst vs) hp
    exact n.ok _ _ _ _ h1 (n1.trans n') r' (.t (.lstP upd_same (Reps.mono n'.r q)))) n.er
theorem v_tup {j : Nat} (h : PA X es (LA X.K X.mg Z W va)) : PE X (.Tuple es j pos) (LE X.K X.mg Z W (vTup va)) :=
  PE.imp (pe_tup h) fun σ H Q ⟨P, R, as, G, m, k, x, r, h, n⟩ => LA.go r h (fun ds vs R1 H1 ⟨ts, e1, hz, h1⟩ n1 r1 d1 => by
    rw [unT_eq e1] at d1
    have q := drep_ts d1
    refine ⟨by rw [Paired.length q]; exact hz, fun p hp => ?_⟩
    obtain ⟨r', n'⟩ := r1.laid (o := .tup vs) hp
    exact n.ok _ _ _ _ h1 (n1.trans n') r' (.t (.tupP upd_same (Reps.mono n'.r q)))) n.er
/-- {} as data -/
theorem v_dic0 : PE X (.Dict [] [] pos) (LE X.K X.mg Z W (vC (.dic []))) :=
  PE.imp pe_dnewK fun σ H Q ⟨P, R, as, G, m, k, x, r, h, n⟩ => fun p hp => by
    obtain ⟨r', n'⟩ := r.laid (o := .dK []) hp
    exact n.ok _ _ _ _ h n' r' (.t (.dicP (.inl upd_same) .nil))
/-- x = [..], an owned list at the site j -/
abbrev vNewL (i j : Nat) (es : VA) : VS := fun nx _ _ _ ex G m => es G m (fun ds => ∃ ts, unT ds = some ts ∧ ts.length ≤ sizeLine ∧ j < m.length ∧ noRef j m (G.set i none) = true ∧ nx (G.set i (some (.loc j))) (m.set j (some (.lst ts)))) (fun n => ex n G m)
/-- x = {} -/
def vNewD (i j : Nat) : VS := fun nx _ _ _ _ G m => j < m.length ∧ noRef j m (G.set i none) = true ∧ nx (G.set i (some (.loc j))) (m.set j (some (.dic [])))
theorem Rel.newAt {K : PySem.W.Frag} {mg : Str → Option Value} {P : Pm} {R H : Hp} {as : List Addr} {G : Env} {m : Sto} {σ : L2.St} (r : Rel K mg Z P R as G m σ H) {i j : Nat} {x : Tr} {p : Addr} {o : HO} (h0 : Z.n0 ≤ j) (hp : H p = none) (hj : j < m.length) (hn : noRef j m (G.set i none) = true) (ho : Own K mg R as (upd H p o) p x) (hx : noAt j x = true) :
    Rel K mg Z P R (as.set j p) (G.set i (some (.loc j))) (m.set j (some x)) (σ.set i (some (.ref p))) (upd H p o) := by
  have q := ((r.drop1 i).new h0 hp hj hn ho hx).set (i := i) (v := .ref p) (d := .loc j) (.loc (List.getElem?_set_self (by rw [r.la]; exact hj)))
  rw [List.set_set] at q
  exact q
theorem vs_newL {i j : Nat} {x : Str} {pos' p2 : Pos} (h0 : Z.n0 ≤ j) (hN : X.N.Nodup) (hi : X.N[i]? = some x) (hx : Loc X.env.scope x) (h : PA X es (LA X.K X.mg Z W va)) (hs : swapsWith (.List es p2) (some (.Name x pos')) pos.line X.env = pure false := by rfl) (hf : X.fn x = true ∨ X.env.scope.names.lookup x = some .local := by first | exact .inl rfl | exact .inr rfl | assumption) :
    PS X (.Assign [.Name x pos'] (.List es p2) pos) (LS X.K X.mg Z W (vNewL i j va)) :=
  PS.imp (ps_set hN hi hx (pe_lst h) hs hf) fun D σ H ⟨P, R, as, G, m, nx, rt, bk, ct, ex, r, h, k⟩ => LA.go r h (fun ds vs R1 H1 ⟨ts, e1, hz, hj, hn, h1⟩ n1 r1 d1 => by
    rw [unT_eq e1] at d1
    have q := drep_ts d1
    refine ⟨by rw [Paired.length q]; exact hz, fun p hp => ?_⟩
    exact k.nx _ _ _ _ _ _ h1 (r1.newAt h0 hp hj hn ⟨vs, upd_same, q⟩ rfl)) k.er
theorem vs_newD {i j : Nat} {x : Str} {pos' p2 : Pos} (h0 : Z.n0 ≤ j) (hN : X.N.Nodup) (hi : X.N[i]? = some x) (hx : Loc X.env.scope x) (hs : swapsWith (.Dict [] [] p2) (some (.Name x pos')) pos.line X.env = pure false := by rfl) (hf : X.fn x = true ∨ X.env.scope.names.lookup x = some .local := by first | exact .inl rfl | exact .inr rfl | assumption) :
    PS X (.Assign [.Name x pos'] (.Dict [] [] p2) pos) (LS X.K X.mg Z W (vNewD i j)) :=
  PS.imp (ps_set hN hi hx pe_dnewK hs hf) fun D σ H ⟨P, R, as, G, m, nx, rt, bk, ct, ex, r, ⟨hj, hn, h⟩, k⟩ => fun p hp =>
    k.nx _ _ _ _ _ _ h (r.newAt h0 hp hj hn ⟨[], upd_same, .nil⟩ rfl)
/-- the list at a site -/
theorem Rel.vLoc {K : PySem.W.Frag} {mg : Str → Option Value} {P : Pm} {R H : Hp} {as : List Addr} {G : Env} {m : Sto} {σ : L2.St} {v : V} {j : Nat} {ts : List Tr} (r : Rel K mg Z P R as G m σ H) (h : DRep K mg R P.hd as v (.loc j)) (e : m[j]? = some (some (.lst ts))) :
    ∃ a xs, v = .ref a ∧ as[j]? = some a ∧ H a = some (.lst xs) ∧ Reps K mg R xs ts := by
  cases h with
  | loc h =>
    obtain ⟨a, h1, h2, _⟩ := r.sto _ _ e
    rw [h1] at h; cases h
    obtain ⟨xs, h3, h4⟩ := h2
    exact ⟨_, xs, rfl, h1, h3, h4⟩
theorem Rel.vLocD {K : PySem.W.Frag} {mg : Str → Option Value} {P : Pm} {R H : Hp} {as : List Addr} {G : Env} {m : Sto} {σ : L2.St} {v : V} {j : Nat} {ts : List (Key × Tr)} (r : Rel K mg Z P R as G m σ H) (h : DRep K mg R P.hd as v (.loc j)) (e : m[j]? = some (some (.dic ts))) :
    ∃ a xs, v = .ref a ∧ as[j]? = some a ∧ H a = some (.dK xs) ∧ RepsP K mg R xs ts := by
  cases h with
  | loc h =>
    obtain ⟨a, h1, h2, _⟩ := r.sto _ _ e
    rw [h1] at h; cases h
    obtain ⟨xs, h3, h4⟩ := h2
    exact ⟨_, xs, rfl, h1, h3, h4⟩
/-- xs.append(e) -/
abbrev vApp (o e : VE) : VS := fun nx _ _ _ ex G m => o G m (fun d => ∃ j ts, d = .loc j ∧ m[j]? = some (some (.lst ts)) ∧ e G m (fun y => ∃ t, y = .t t ∧ ts.length < sizeLine ∧ nx G (m.set j (some (.lst (ts ++ [t]))))) (fun n => ex n G m)) (fun n => ex n G m)
theorem vs_append {o : Expr} {vo : VE} {p1 p2 : Pos} (hp : ∀ {ta te : TE}, PE X o ta → PE X e te → PE X (.Call (.Attribute o "append" p1) [e] [] p2) (tBM X.K "list" rAppend ta (tCons te tNil)))
    (ho : PE X o (LE X.K X.mg Z W vo)) (he : PE X e (LE X.K X.mg Z W ve)) (hs : swapsWith (.Call (.Attribute o "append" p1) [e] [] p2) none pos.line X.env = pure false := by rfl) :
    PS X (.Expr (.Call (.Attribute o "append" p1) [e] [] p2) pos) (LS X.K X.mg Z W (vApp vo ve)) :=
  PS.imp (ps_expr (hp ho he) hs) fun D σ H ⟨P, R, as, G, m, nx, rt, bk, ct, ex, r, h, k⟩ =>
    LE.go r h (fun d v R1 H1 ⟨j, ts, ed, ej, h1⟩ n1 r1 d1 => by
      subst ed
      obtain ⟨a, xs, rfl, ha, hx, rx⟩ := r1.vLoc d1 ej
      refine ⟨.inl ⟨rfl, xs, .of hx⟩, LE.go r1 h1 (fun y w R2 H2 ⟨t, ey, hz, h2⟩ n2 r2 d2 => ?_) k.er⟩
      subst ey
      cases d2 with
      | t rt' =>
        obtain ⟨a', xs', e3, ha', hx', rx'⟩ := r2.vLoc (d1.mono n2.r) ej
        cases e3
        refine ⟨_, xs', w, rfl, rfl, hx', by rw [Paired.length rx']; exact hz, k.nx _ _ _ _ _ _ h2 (r2.put ej ha' ⟨xs' ++ [w], upd_same, paired_append rx' (.cons rt' .nil)⟩)⟩) k.er
end
end VL

/-! VL, part G: targets, loops. -/
namespace VL
open PySem L2

/-! ### targets -/
abbrev VG := Tr → Env → (Env → Prop) → Prop
abbrev VGs := List Tr → Env → (Env → Prop) → Prop
/-- which slots may change: all, or these -/
def Sl : Option (List Nat) → L2.St → L2.St → Prop
  | none, _, _ => True
  | some vs, σ, σ' => wipe σ' vs = wipe σ vs
def inSl (i : Nat) : Option (List Nat) → Bool
  | none => true
  | some vs => vs.contains i
theorem wipe_comm (σ : L2.St) (i : Nat) : ∀ vs : List Nat, wipe (σ.set i none) vs = (wipe σ vs).set i none
  | [] => rfl
  | v :: vs => by
    unfold wipe
    rw [wipe_comm σ i vs]
    by_cases h : i = v
    · subst h; rfl
    · rw [List.set_comm _ _ h]
theorem wipe_set {σ : L2.St} {i : Nat} {x : Option V} : ∀ {vs : List Nat}, i ∈ vs → wipe (σ.set i x) vs = wipe σ vs
  | v :: vs, h => by
    unfold wipe
    by_cases hv : i = v
    · subst hv
      by_cases hi : i ∈ vs
      · rw [wipe_set hi]
      · have q : ∀ (us : List Nat) (y : Option V), i ∉ us → wipe (σ.set i y) us = (wipe σ us).set i y := fun us => by
          induction us with
          | nil => intro y _; rfl
          | cons u us ih =>
            intro y hu
            unfold wipe
            rw [ih y (fun z => hu (List.mem_cons_of_mem _ z)), List.set_comm _ _ (fun z => hu (by rw [z]; exact List.mem_cons_self))]
        rw [q vs x hi, List.set_set]
    · have hi : i ∈ vs := by
        rcases List.mem_cons.mp h with z | z
        · exact absurd z hv
        · exact z
      rw [wipe_set hi]
theorem Sl.set {σ : L2.St} {i : Nat} {x : Option V} {o : Option (List Nat)} (h : inSl i o = true) : Sl o σ (σ.set i x) := by
  cases o with
  | none => exact trivial
  | some vs => exact wipe_set (by simpa [inSl] using h)
theorem Sl.refl {σ : L2.St} {o : Option (List Nat)} : Sl o σ σ := by
  cases o with
  | none => exact trivial
  | some vs => exact rfl
theorem Sl.trans {a b c : L2.St} {o : Option (List Nat)} (h : Sl o a b) (h' : Sl o b c) : Sl o a c := by
  cases o with
  | none => exact trivial
  | some vs => exact Eq.trans h' h
def LG (K : PySem.W.Frag) (mg : Str → Option Value) (Z : Rsc) (o : Option (List Nat)) (vg : VG) : TG := fun v σ H Q => ∃ P R as G m t k, Rel K mg Z P R as G m σ H ∧ Rep K mg R v t ∧ vg t G k ∧ ∀ G' σ', k G' → Sl o σ σ' → Rel K mg Z P R as G' m σ' H → Q σ' H
def LGs (K : PySem.W.Frag) (mg : Str → Option Value) (Z : Rsc) (o : Option (List Nat)) (vg : VGs) : TGs := fun vs σ H Q => ∃ P R as G m ts k, Rel K mg Z P R as G m σ H ∧ Reps K mg R vs ts ∧ vg ts G k ∧ ∀ G' σ', k G' → Sl o σ σ' → Rel K mg Z P R as G' m σ' H → Q σ' H
abbrev vgName (i : Nat) : VG := fun t G k => k (G.set i (some (.t t)))
def vgNil : VGs := fun ts G k => ts = [] ∧ k G
def vgCons (g : VG) (gs : VGs) : VGs := fun ts G k => ∃ t r, ts = t :: r ∧ g t G (fun G' => gs r G' k)
def vgTup (n : Nat) (gs : VGs) : VG := fun t G k => ∃ ts, t = .tup ts ∧ ts.length = n ∧ gs ts G k
theorem PG.imp {X : Cx} {e : Expr} {t t' : TG} (h : PG X e t) (hi : ∀ v σ H Q, t' v σ H Q → t v σ H Q) : PG X e t' := ⟨fun pins s σ H v u Q I r q => h.run pins s σ H v u Q I r (hi v σ H Q q)⟩
theorem PGs.imp {X : Cx} {e : List Expr} {t t' : TGs} (h : PGs X e t) (hi : ∀ v σ H Q, t' v σ H Q → t v σ H Q) : PGs X e t' := ⟨fun pins s σ H v u Q I r q => h.run pins s σ H v u Q I r (hi v σ H Q q)⟩
section
variable {X : Cx} {Z : Rsc} {W : WX} {e : Expr} {es : List Expr} {vg : VG} {vgs : VGs} {pos : Pos}
theorem vg_name {i : Nat} {x : Str} {o : Option (List Nat)} (ho : inSl i o = true) (hN : X.N.Nodup) (hi : X.N[i]? = some x) (hx : Loc X.env.scope x) (hf : X.fn x = true ∨ X.env.scope.names.lookup x = some .local := by first | exact .inl rfl | exact .inr rfl | assumption) : PG X (.Name x pos) (LG X.K X.mg Z o (vgName i)) :=
  PG.imp (pg_name hN hi hx hf) fun v σ H Q ⟨P, R, as, G, m, t, k, r, rv, h, n⟩ => n _ _ h (.set ho) (r.set (.t rv))
theorem vgs_nil {o : Option (List Nat)} : PGs X [] (LGs X.K X.mg Z o vgNil) := PGs.imp pgs_nil fun vs σ H Q ⟨P, R, as, G, m, ts, k, r, rv, ⟨h1, h⟩, n⟩ => by
  subst h1
  cases rv
  exact ⟨rfl, n _ _ h .refl r⟩
theorem vgs_cons {o : Option (List Nat)} (h1 : PG X e (LG X.K X.mg Z o vg)) (h2 : PGs X es (LGs X.K X.mg Z o vgs)) (hs : (assignEach (e :: es) X.env).map (·.2) = assign e X.env :: (assignEach es X.env).map (·.2) := by rfl) : PGs X (e :: es) (LGs X.K X.mg Z o (vgCons vg vgs)) :=
  PGs.imp (pgs_cons h1 h2 hs) fun vs σ H Q ⟨P, R, as, G, m, ts, k, r, rv, ⟨t, rest, h1, h⟩, n⟩ => by
    subst h1
    cases rv with
    | cons r1 rs => exact ⟨_, _, rfl, P, R, as, G, m, t, _, r, r1, h, fun G' σ' h' s' r' => ⟨P, R, as, G', m, rest, k, r', rs, h', fun G2 σ2 h2 s2 r2 => n G2 σ2 h2 (s'.trans s2) r2⟩⟩
theorem vg_tup {j n : Nat} {o : Option (List Nat)} (hc : X.calm = true) (h : PGs X es (LGs X.K X.mg Z o vgs)) (hn : (assignEach es X.env).length = n := by rfl) (hst : (assignEach es X.env).findIdx? (·.1) = none := by rfl) : PG X (.Tuple es j pos) (LG X.K X.mg Z o (vgTup n vgs)) :=
  PG.imp (pg_tup hc h hn hst) fun v σ H Q ⟨P, R, as, G, m, t, k, r, rv, ⟨ts, e1, hl, h⟩, q⟩ => by
    subst e1
    obtain ⟨a, xs, rfl, hx, rx⟩ := rv.tup_inv
    exact ⟨a, xs, rfl, .of (r.ex _ _ hx), by rw [Paired.length rx]; exact hl, P, R, as, G, m, ts, k, r, rx, h, q⟩
/-- target = e -/
abbrev vAsg (e : VE) (g : VG) : VS := fun nx _ _ _ ex G m => e G m (fun d => ∃ t, d = .t t ∧ g t G (fun G' => nx G' m)) (fun n => ex n G m)
theorem vs_asg {tg : Expr} {ve : VE} (he : PE X e (LE X.K X.mg Z W ve)) (hg : PG X tg (LG X.K X.mg Z none vg)) (hs : swapsWithSole [tg] e pos.line X.env = pure false := by rfl) (hw : swappedStores [tg] e X.env = pure none := by rfl)
    (h1 : (assignEach [tg] X.env).map (·.2) = [assign tg X.env] := by rfl) : PS X (.Assign [tg] e pos) (LS X.K X.mg Z W (vAsg ve vg)) :=
  PS.imp (ps_asg he hg hs hw h1) fun D σ H ⟨P, R, as, G, m, nx, rt, bk, ct, ex, r, h, k⟩ => LE.go r h (fun d v R1 H1 ⟨t, ed, h1⟩ n1 r1 d1 => by
    subst ed
    cases d1 with
    | t rv => exact ⟨P, R1, as, G, m, t, _, r1, rv, h1, fun G' σ' h' _ r' => k.nx G' m R1 as σ' H1 h' r'⟩) k.er
/-- a, b = x, y -/
abbrev vPar (i j : Nat) (es : VA) : VS := fun nx _ _ _ ex G m => es G m (fun ds => ∃ d e, ds = [d, e] ∧ nx ((G.set i (some d)).set j (some e)) m) (fun n => ex n G m)
theorem vs_par {i j : Nat} {x y : Str} {a b : Expr} {va : VA} {px py pt : Pos} {kt k2 pt2} (hc : X.calm = true) (hN : X.N.Nodup) (hi : X.N[i]? = some x) (hj : X.N[j]? = some y) (hij : i ≠ j)
    (hx : X.env.scope.names.lookup x = some .local) (hy : X.env.scope.names.lookup y = some .local) (ha : PA X [a, b] (LA X.K X.mg Z W va))
    (hw : swappedStores [.Tuple [.Name x px, .Name y py] kt pt] (.Tuple [a, b] k2 pt2) X.env = pure (some [x, y]))
    (hs : swapsWithSole [.Tuple [.Name x px, .Name y py] kt pt] (.Tuple [a, b] k2 pt2) pos.line X.env = pure false := by rfl) :
    PS X (.Assign [.Tuple [.Name x px, .Name y py] kt pt] (.Tuple [a, b] k2 pt2) pos) (LS X.K X.mg Z W (vPar i j va)) :=
  PS.imp (ps_par hc hN hi hj hij hx hy ha hw hs) fun D σ H ⟨P, R, as, G, m, nx, rt, bk, ct, ex, r, h, k⟩ => LA.go r h (fun ds vs R1 H1 ⟨d, e, ed, h1⟩ n1 r1 d1 => by
    subst ed
    cases d1 with
    | cons q1 q2 => cases q2 with
      | cons q2 q3 =>
        cases q3
        exact ⟨_, _, rfl, k.nx _ m R1 as _ H1 h1 ((r1.set q1).set q2)⟩) k.er
/-- x += e -/
abbrev vAug (i : Nat) (f : O2) (e : VE) : VS := fun nx _ _ _ ex G m => ∃ d0, G[i]? = some (some d0) ∧ e G m (fun d => f m d0 d (fun z => nx (G.set i (some z)) m)) (fun n => ex n G m)
def Lip (K : PySem.W.Frag) (mg : Str → Option Value) (t : TIp) (f : O2) : Prop := Lo2 K mg t f
theorem vs_aug {i : Nat} {x : Str} {op : Operator} {ti : TIp} {f : O2} {ve : VE} {pos' : Pos} (lo : Lip X.K X.mg ti f) (ho : PIp X op ti) (hN : X.N.Nodup) (hi : X.N[i]? = some x) (hx : Loc X.env.scope x) (he : PE X e (LE X.K X.mg Z W ve)) (hf : X.fn x = true ∨ X.env.scope.names.lookup x = some .local := by first | exact .inl rfl | exact .inr rfl | assumption) :
    PS X (.AugAssign (.Name x pos') op e pos) (LS X.K X.mg Z W (vAug i f ve)) :=
  PS.imp (ps_aug hN hi hx he ho hf) fun D σ H ⟨P, R, as, G, m, nx, rt, bk, ct, ex, r, ⟨d0, e0, h⟩, k⟩ => by
    obtain ⟨v, q1, q2⟩ := r.env i d0 e0
    exact ⟨v, q1, LE.go r h (fun d w R1 H1 h1 n1 r1 d1 => lo Z P R1 as G m σ H1 v w d0 d _ _ r1 (q2.mono n1.r) d1 h1 fun z u R2 H2 h2 n2 r2 d2 => k.nx _ m R2 as _ H2 h2 (r2.set d2)) k.er⟩
theorem lip_I {K : PySem.W.Frag} {mg : Str → Option Value} (f : Int → Int → Int) : Lip K mg (ipI f) (fI0 fun i j => .int (f i j)) := by
  rintro Z P R as G m σ H v w d e k Q r h1 h2 ⟨i, j, e1, e2, q⟩ n
  rw [r.vInt h1 e1, r.vInt h2 e2]
  exact ⟨i, j, rfl, rfl, n _ _ R H q .refl r (.t (.int _))⟩
/-- x *= e, by the operator's rule (in place for whole numbers) -/
theorem ip_of {op : Operator} {r : R2} (h : OpR X (inplaceOp op) r) : PIp X op r := fun pins s σ H x y v u Q I rx ry q => h pins s σ H x y v u Q I rx ry q
end

/-! ### the known part as a new beginning -/
section
variable {K : PySem.W.Frag} {mg : Str → Option Value} {Z : Rsc} {P : Pm} {R R' H H' : Hp} {as as' : List Addr} {G G' : Env} {m m' : Sto} {σ σ' : L2.St}
def Pm.at (P : Pm) (R : Hp) : Pm := { P with R0 := R }
theorem Rel.base (r : Rel K mg Z P R as G m σ H) : Rel K mg Z (P.at R) R as G m σ H := { r with fresh := fun a e => .inl e, r0 := Same.refl R }
theorem Rel.unbase (r0 : Rel K mg Z P R as G m σ H) (r : Rel K mg Z (P.at R) R' as' G' m' σ' H') : Rel K mg Z P R' as' G' m' σ' H' :=
  { r with
    fresh := fun a e => (r.fresh a e).elim (fun z => r0.fresh a z) .inr
    r0 := r0.r0.trans r.r0 }
theorem Ke.at {W : WX} {nx : SK} {rt : RK} {bk ct : SK} {ex : XS} {D : Ends} (r0 : Rel K mg Z P R as G m σ H) (k : Ke K mg Z W P nx rt bk ct ex D) : Ke K mg Z W (P.at R) nx rt bk ct ex D :=
  ⟨fun G m R as σ H a b => k.nx G m R as σ H a (r0.unbase b), fun d m v R as G σ H a b c => k.rt d m v R as G σ H a (r0.unbase b) c, fun G m R as σ H a b => k.bk G m R as σ H a (r0.unbase b), fun G m R as σ H a b => k.ct G m R as σ H a (r0.unbase b), fun nm cl m R as G σ H a b c => k.ex nm cl m R as G σ H a b (r0.unbase c)⟩
end

/-! ### what is walked -/
/-- the iterator yields these data, whatever is done meanwhile -/
def ItOk (K : PySem.W.Frag) (mg : Str → Option Value) (Z : Rsc) (P : Pm) (R : Hp) (J : It) (ts : List Tr) : Prop := ∀ R' as' G' m' σ' H', Rel K mg Z P R' as' G' m' σ' H' → Same R R' →
  (∀ (i : Nat) t, ts[i]? = some t → J.go i H' ∧ ∀ x H2, J.yld i H' x H2 → ∃ R2, Same R' R2 ∧ Nx P R' H' R2 H2 ∧ Rel K mg Z P R2 as' G' m' σ' H2 ∧ Rep K mg R2 x t) ∧ J.stop ts.length H'
abbrev VI := Env → Sto → (List Tr → Prop) → XK → Prop
def LI (K : PySem.W.Frag) (mg : Str → Option Value) (Z : Rsc) (W : WX) (e : VI) : TI := fun σ H Q => ∃ P R as G m k x, Rel K mg Z P R as G m σ H ∧ e G m k x ∧
  (∀ ts J R' H', k ts → Nx P R H R' H' → Rel K mg Z P R' as G m σ H' → (∀ P', P'.H0 = P.H0 → P'.mu = P.mu → P'.B = P.B → P'.hd = P.hd → ItOk K mg Z P' R' J ts) → Q J H') ∧
  (∀ nm cl R' H', x nm → mg nm = some cl → Nx P R H R' H' → Rel K mg Z P R' as G m σ H' → W cl none σ H')
theorem PI.imp {X : Cx} {tg e : Expr} {t t' : TI} (h : PI X tg e t) (hi : ∀ σ H Q, t' σ H Q → t σ H Q) : PI X tg e t' := ⟨fun pins s σ H Q I q => h.run pins s σ H Q I (hi σ H Q q)⟩
abbrev viL (e : VE) : VI := fun G m k x => e G m (fun d => ∃ ts, (d = .t (.lst ts) ∨ ∃ ns : List Int, d = .t (.scr ns) ∧ ts = ns.map .int) ∧ k ts) x
abbrev viT (e : VE) : VI := fun G m k x => e G m (fun d => ∃ ts, d = .t (.tup ts) ∧ k ts) x
def rng (lo : Int) (n : Nat) : List Tr := (List.range n).map fun i => .int (lo + (i : Nat))
theorem rng_len (lo : Int) (n : Nat) : (rng lo n).length = n := by unfold rng; rw [List.length_map, List.length_range]
theorem rng_get {lo : Int} {n i : Nat} {t : Tr} (h : (rng lo n)[i]? = some t) : i < n ∧ t = .int (lo + i) := by
  unfold rng at h
  rw [List.getElem?_map] at h
  by_cases hi : i < n
  · rw [List.getElem?_range hi] at h; exact ⟨hi, (Option.some.inj h).symm⟩
  · rw [List.getElem?_eq_none (by rw [List.length_range]; omega)] at h; cases h
abbrev viR1 (e : VE) : VI := fun G m k x => e G m (fun d => ∃ n : Int, view m d = some (.int n) ∧ -(2 ^ 62) ≤ n ∧ n < 2 ^ 62 ∧ k (rng 0 n.toNat)) x
abbrev viR2 (a b : VE) : VI := fun G m k x => a G m (fun d => b G m (fun e => ∃ i n : Int, view m d = some (.int i) ∧ view m e = some (.int n) ∧ (-(2 ^ 62) ≤ i ∧ i < 2 ^ 62 ∧ -(2 ^ 62) ≤ n ∧ n < 2 ^ 62) ∧ k (rng i (n - i).toNat)) x) x
def zipT (xs ys : List Tr) : List Tr := List.zipWith (fun a b => .tup [a, b]) xs ys
def enumT (xs : List Tr) : List Tr := (List.range xs.length).map fun i => .tup [.int (i : Nat), xs.getD i .non]
abbrev viZip (a b : VE) : VI := fun G m k x => a G m (fun d => b G m (fun e => ∃ xs ys, d = .t (.lst xs) ∧ e = .t (.lst ys) ∧ k (zipT xs ys)) x) x
abbrev viEnum (a : VE) : VI := fun G m k x => a G m (fun d => ∃ ts, (d = .t (.lst ts) ∨ ∃ ns : List Int, d = .t (.scr ns) ∧ ts = ns.map .int) ∧ k (enumT ts)) x
abbrev viStr (a : VE) : VI := fun G m k x => a G m (fun d => ∃ z, view m d = some (.str z) ∧ k (z.cps.toList.map fun c => .str ⟨#[c]⟩)) x
section
variable {K : PySem.W.Frag} {mg : Str → Option Value} {Z : Rsc} {P : Pm} {R R' H H' : Hp} {as : List Addr} {G : Env} {m : Sto} {σ : L2.St}
theorem itok_list {a : Addr} {xs : List V} {ts : List Tr} (h : R a = some (.lst xs)) (rx : Reps K mg R xs ts) : ItOk K mg Z P R (Itl K a) ts := fun R' as' G' m' σ' H' r s => by
  have hx : SqL K H' a xs := .of (r.ex _ _ (s _ _ h))
  refine ⟨fun i t e => ?_, ⟨xs, hx, by rw [Paired.length rx]; exact Nat.le_refl _⟩⟩
  obtain ⟨x, e1, r1⟩ := Reps.get rx e
  refine ⟨⟨xs, x, hx, e1⟩, fun y H2 ⟨eH, hy⟩ => ?_⟩
  subst eH
  have q := hy xs hx
  rw [e1] at q
  cases q
  exact ⟨R', Same.refl _, .refl, r, r1.mono s⟩
theorem itok_scr {a : Addr} {ns : List Int} (h : SqL K R a (ns.map V.int)) : ItOk K mg Z P R (Itl K a) (ns.map .int) := fun R' as' G' m' σ' H' r s => by
  have hx : SqL K H' a (ns.map V.int) := Same.seq (s.trans r.ex) h
  refine ⟨fun i t e => ?_, ⟨_, hx, by rw [List.length_map, List.length_map]; exact Nat.le_refl _⟩⟩
  obtain ⟨x, e1, r1⟩ := Reps.get (ints_reps (K := K) (mg := mg) (R := R') ns) e
  refine ⟨⟨_, x, hx, e1⟩, fun y H2 ⟨eH, hy⟩ => ?_⟩
  subst eH
  have q := hy _ hx
  rw [e1] at q
  cases q
  exact ⟨R', Same.refl _, .refl, r, r1⟩
theorem itok_tup {a : Addr} {xs : List V} {ts : List Tr} (h : R a = some (.tup xs)) (rx : Reps K mg R xs ts) : ItOk K mg Z P R (Itt K a) ts := fun R' as' G' m' σ' H' r s => by
  have hx : SqT K H' a xs := .of (r.ex _ _ (s _ _ h))
  refine ⟨fun i t e => ?_, ⟨xs, hx, by rw [Paired.length rx]; exact Nat.le_refl _⟩⟩
  obtain ⟨x, e1, r1⟩ := Reps.get rx e
  refine ⟨⟨xs, x, hx, e1⟩, fun y H2 ⟨eH, hy⟩ => ?_⟩
  subst eH
  have q := hy xs hx
  rw [e1] at q
  cases q
  exact ⟨R', Same.refl _, .refl, r, r1.mono s⟩
theorem itok_rng (lo : Int) (n : Nat) : ItOk K mg Z P R (Itr lo n) (rng lo n) := fun R' as' G' m' σ' H' r s => by
  refine ⟨fun i t e => ?_, by rw [rng_len]; exact Nat.le_refl _⟩
  obtain ⟨hi, rfl⟩ := rng_get e
  exact ⟨hi, fun x H2 ⟨eH, ex⟩ => by subst eH; subst ex; exact ⟨R', Same.refl _, .refl, r, .int _⟩⟩
theorem itok_zip {a b : Addr} {xs ys : List V} {ts us : List Tr} (h : R a = some (.lst xs)) (h' : R b = some (.lst ys)) (rx : Reps K mg R xs ts) (ry : Reps K mg R ys us) : ItOk K mg Z P R (Itz K a b) (zipT ts us) := fun R' as' G' m' σ' H' r s => by
  have hx : SqL K H' a xs := .of (r.ex _ _ (s _ _ h))
  have hy : SqL K H' b ys := .of (r.ex _ _ (s _ _ h'))
  refine ⟨fun i t e => ?_, ⟨xs, ys, hx, hy, ?_⟩⟩
  · unfold zipT at e
    rw [List.getElem?_zipWith] at e
    cases e1 : ts[i]? with
    | none => rw [e1] at e; cases e
    | some x =>
      cases e2 : us[i]? with
      | none => rw [e1, e2] at e; cases e
      | some y =>
        rw [e1, e2] at e
        cases e
        obtain ⟨v, q1, q2⟩ := Reps.get rx e1
        obtain ⟨w, q3, q4⟩ := Reps.get ry e2
        refine ⟨⟨xs, ys, v, w, hx, hy, q1, q3⟩, fun z H2 ⟨T, v', w', ez, hT, eH, hv, hw⟩ => ?_⟩
        subst ez eH
        have z1 := hv xs hx
        have z2 := hw ys hy
        rw [q1] at z1
        rw [q3] at z2
        cases z1
        cases z2
        obtain ⟨r', n'⟩ := r.laid (o := .tup [v, w]) hT
        exact ⟨_, n'.r, n', r', .tupP upd_same (.cons (q2.mono (s.trans n'.r)) (.cons (q4.mono (s.trans n'.r)) .nil))⟩
  · unfold zipT
    rw [List.length_zipWith, Paired.length rx, Paired.length ry]
    omega
theorem enum_get {ts : List Tr} {i : Nat} {t : Tr} (e : (enumT ts)[i]? = some t) : ∃ x, ts[i]? = some x ∧ t = .tup [.int (i : Nat), x] := by
  unfold enumT at e
  rw [List.getElem?_map] at e
  by_cases hi : i < ts.length
  · rw [List.getElem?_range hi] at e
    have e := (Option.some.inj e).symm
    refine ⟨ts[i], List.getElem?_eq_getElem hi, ?_⟩
    rw [e]
    simp [List.getD_eq_getElem?_getD, hi]
  · rw [List.getElem?_eq_none (by rw [List.length_range]; omega)] at e; cases e
theorem enum_len (ts : List Tr) : (enumT ts).length = ts.length := by unfold enumT; rw [List.length_map, List.length_range]
theorem itok_enum {a : Addr} {xs : List V} {ts : List Tr} (h : SqL K R a xs) (rx : Reps K mg R xs ts) : ItOk K mg Z P R (Ite K a) (enumT ts) := fun R' as' G' m' σ' H' r s => by
  have hx : SqL K H' a xs := Same.seq (s.trans r.ex) h
  refine ⟨fun i t e => ?_, ⟨xs, hx, by rw [enum_len, Paired.length rx]; exact Nat.le_refl _⟩⟩
  obtain ⟨x, e1, rfl⟩ := enum_get e
  obtain ⟨v, q1, q2⟩ := Reps.get rx e1
  refine ⟨⟨xs, v, hx, q1⟩, fun z H2 ⟨T, v', ez, hT, eH, hv⟩ => ?_⟩
  subst ez eH
  have z1 := hv xs hx
  rw [q1] at z1
  cases z1
  obtain ⟨r', n'⟩ := r.laid (o := .tup [.int (i : Nat), v]) hT
  exact ⟨_, n'.r, n', r', .tupP upd_same (.cons (.int _) (.cons (q2.mono (s.trans n'.r)) .nil))⟩
theorem itok_str (z : Str) : ItOk K mg Z P R (Its z) (z.cps.toList.map fun c => .str ⟨#[c]⟩) := fun R' as' G' m' σ' H' r s => by
  refine ⟨fun i t e => ?_, by rw [List.length_map, Array.length_toList]; exact Nat.le_refl _⟩
  rw [List.getElem?_map] at e
  cases q : z.cps.toList[i]? with
  | none => rw [q] at e; cases e
  | some c =>
    rw [q] at e
    cases e
    have hi : i < z.cps.size := by have := (List.getElem?_eq_some_iff.mp q).1; rwa [Array.length_toList] at this
    refine ⟨hi, fun x H2 ⟨eH, c', ec, ex⟩ => ?_⟩
    subst eH ex
    have : z.cps[i]? = some c := by rw [← q]; simp
    rw [this] at ec
    cases ec
    exact ⟨R', Same.refl _, .refl, r, .str _⟩
end
section
variable {X : Cx} {Z : Rsc} {W : WX} {tg e e2 : Expr} {ve vf : VE} {vg : VG} {vi : VI} {body : List Stmt} {u : VS} {p pos : Pos}
theorem vi_list (h : PE X e (LE X.K X.mg Z W ve)) : PI X tg e (LI X.K X.mg Z W (viL ve)) :=
  PI.imp (pi_list h) fun σ H Q ⟨P, R, as, G, m, k, x, r, h, n, er⟩ => LE.go r h (fun d v R1 H1 ⟨ts, ed, h1⟩ n1 r1 d1 => by
    rcases ed with ed | ⟨ns, ed, et⟩
    · subst ed
      cases d1 with
      | t rv =>
        obtain ⟨a, xs, rfl, hx, rx⟩ := rv.lst_inv
        exact ⟨a, rfl, ⟨xs, .of (r1.ex _ _ hx)⟩, n ts _ R1 H1 h1 n1 r1 fun P' _ _ _ _ => itok_list hx rx⟩
    · subst ed et
      cases d1 with
      | t rv =>
        cases rv with
        | @scr a _ hx => exact ⟨a, rfl, ⟨_, Same.seq r1.ex hx⟩, n _ _ R1 H1 h1 n1 r1 fun P' _ _ _ _ => itok_scr hx⟩) er
theorem vi_tup (h : PE X e (LE X.K X.mg Z W ve)) : PI X tg e (LI X.K X.mg Z W (viT ve)) :=
  PI.imp (pi_tup h) fun σ H Q ⟨P, R, as, G, m, k, x, r, h, n, er⟩ => LE.go r h (fun d v R1 H1 ⟨ts, ed, h1⟩ n1 r1 d1 => by
    subst ed
    cases d1 with
    | t rv =>
      obtain ⟨a, xs, rfl, hx, rx⟩ := rv.tup_inv
      exact ⟨a, rfl, ⟨xs, .of (r1.ex _ _ hx)⟩, n ts _ R1 H1 h1 n1 r1 fun P' _ _ _ _ => itok_tup hx rx⟩) er
theorem vi_range1 (hg : Gl X "range") (hm : X.mg "range" = none) (h : PE X e (LE X.K X.mg Z W ve)) (hs : starEach [e] X.env = [(false, eval e X.env)] := by rfl) : PI X tg (.Call (.Name "range" p) [e] [] pos) (LI X.K X.mg Z W (viR1 ve)) :=
  PI.imp (pi_range1 hg hm (pa_cons h pa_nil hs) hs) fun σ H Q ⟨P, R, as, G, m, k, x, r, h, n, er⟩ => LE.go r h (fun d v R1 H1 ⟨j, e1, a1, a2, h1⟩ n1 r1 d1 => ⟨j, by rw [r1.vInt d1 e1], a1, a2, n _ _ R1 H1 h1 n1 r1 fun P' _ _ _ _ => itok_rng _ _⟩) er
theorem vi_range2 (hg : Gl X "range") (hm : X.mg "range" = none) (h : PE X e (LE X.K X.mg Z W ve)) (h' : PE X e2 (LE X.K X.mg Z W vf)) (hs : starEach [e, e2] X.env = [(false, eval e X.env), (false, eval e2 X.env)] := by rfl) (hs2 : starEach [e2] X.env = [(false, eval e2 X.env)] := by rfl) (hs3 : starEach [e, e2] X.env = (false, eval e X.env) :: starEach [e2] X.env := by rfl) :
    PI X tg (.Call (.Name "range" p) [e, e2] [] pos) (LI X.K X.mg Z W (viR2 ve vf)) :=
  PI.imp (pi_range2 hg hm (pa_cons h (pa_cons h' pa_nil hs2) hs3) hs hs2) fun σ H Q ⟨P, R, as, G, m, k, x, r, h, n, er⟩ => LE.go r h (fun d v R1 H1 h1 n1 r1 d1 => LE.go r1 h1 (fun d2 v2 R2 H2 ⟨i, j, e1, e2, a, h2⟩ n2 r2 d2' =>
    ⟨i, j, by rw [r1.vInt d1 e1, r2.vInt d2' e2], a, n _ _ R2 H2 h2 (n1.trans n2) r2 fun P' _ _ _ _ => itok_rng _ _⟩) fun nm cl R' H' a b c d => er nm cl R' H' a b (n1.trans c) d) er
theorem vi_zip {tpos : Pos} {elts : List Expr} {kk : Nat} (hp : ∀ {ta : TA}, PA X [e, e2] ta → PI X (.Tuple elts kk tpos) (.Call (.Name "zip" p) [e, e2] [] pos) (iZip X.K ta)) (h : PE X e (LE X.K X.mg Z W ve)) (h' : PE X e2 (LE X.K X.mg Z W vf)) (hs2 : starEach [e2] X.env = (false, eval e2 X.env) :: starEach [] X.env := by rfl) (hs3 : starEach [e, e2] X.env = (false, eval e X.env) :: starEach [e2] X.env := by rfl) :
    PI X (.Tuple elts kk tpos) (.Call (.Name "zip" p) [e, e2] [] pos) (LI X.K X.mg Z W (viZip ve vf)) :=
  PI.imp (hp (pa_cons h (pa_cons h' pa_nil hs2) hs3)) fun σ H Q ⟨P, R, as, G, m, k, x, r, h, n, er⟩ => LE.go r h (fun d v R1 H1 h1 n1 r1 d1 => LE.go r1 h1 (fun d2 v2 R2 H2 ⟨ts, us, e1, e2, h2⟩ n2 r2 d2' => by
    subst e1 e2
    have d1 := d1.mono n2.r
    cases d1 with
    | t rv => cases d2' with
      | t rw' =>
        obtain ⟨a, xs, rfl, hx, rx⟩ := rv.lst_inv
        obtain ⟨b, ys, rfl, hy, ry⟩ := rw'.lst_inv
        exact ⟨a, b, xs, ys, rfl, .of (r2.ex _ _ hx), .of (r2.ex _ _ hy), n _ _ R2 H2 h2 (n1.trans n2) r2 fun P' _ _ _ _ => itok_zip hx hy rx ry⟩) fun nm cl R' H' a b c d => er nm cl R' H' a b (n1.trans c) d) er
theorem vi_enum {tpos : Pos} {elts : List Expr} {kk : Nat} (hg : Gl X "enumerate") (hm : X.mg "enumerate" = none) (h : PE X e (LE X.K X.mg Z W ve)) (hs : starEach [e] X.env = [(false, eval e X.env)] := by rfl) :
    PI X (.Tuple elts kk tpos) (.Call (.Name "enumerate" p) [e] [] pos) (LI X.K X.mg Z W (viEnum ve)) :=
  PI.imp (pi_enum hg hm (pa_cons h pa_nil hs) hs) fun σ H Q ⟨P, R, as, G, m, k, x, r, h, n, er⟩ => LE.go r h (fun d v R1 H1 ⟨ts, ed, h1⟩ n1 r1 d1 => by
    rcases ed with ed | ⟨ns, ed, et⟩
    · subst ed
      cases d1 with
      | t rv =>
        obtain ⟨a, xs, rfl, hx, rx⟩ := rv.lst_inv
        exact ⟨a, xs, rfl, .of (r1.ex _ _ hx), n _ _ R1 H1 h1 n1 r1 fun P' _ _ _ _ => itok_enum (.of hx) rx⟩
    · subst ed et
      cases d1 with
      | t rv =>
        cases rv with
        | @scr a _ hx => exact ⟨a, _, rfl, Same.seq r1.ex hx, n _ _ R1 H1 h1 n1 r1 fun P' _ _ _ _ => itok_enum hx (ints_reps ns)⟩) er
theorem vi_str (h : PE X e (LE X.K X.mg Z W ve)) : PI X tg e (LI X.K X.mg Z W (viStr ve)) :=
  PI.imp (pi_str h) fun σ H Q ⟨P, R, as, G, m, k, x, r, h, n, er⟩ => LE.go r h (fun d v R1 H1 ⟨z, e1, h1⟩ n1 r1 d1 => ⟨z, r1.vStr d1 e1, n _ _ R1 H1 h1 n1 r1 fun P' _ _ _ _ => itok_str z⟩) er

/-- for target in walked: body -/
abbrev vFor (it : VI) (tg : VG) (body : VS) : VS := fun nx rt bk ct ex G m => it G m (fun ts => ∃ I : Nat → Env → Sto → Prop, I 0 G m ∧
  (∀ (i : Nat) t G' m', ts[i]? = some t → I i G' m' → tg t G' (fun G2 => body (I (i + 1)) rt nx (I (i + 1)) ex G2 m')) ∧ ∀ G' m', I ts.length G' m' → nx G' m') (fun n => ex n G m)
theorem vs_for (hp : PassesOwn (model X.prog X.w) X.A X.env X.xe) (hc : X.calm = true) (hi : PI X tg e (LI X.K X.mg Z W vi)) (hg : PG X tg (LG X.K X.mg Z none vg)) (hb : PSs X body (LS X.K X.mg Z W u))
    (hs : ∀ x, foldedSetIterable e X.env x = pure x := by intro _; rfl) : PS X (.For tg e body [] pos) (LS X.K X.mg Z W (vFor vi vg u)) :=
  PS.imp (ps_for hp hc hi hg hb hs) fun D σ H ⟨P, R, as, G, m, nx, rt, bk, ct, ex, r, h, k⟩ => ⟨P, R, as, G, m, _, _, r, h, fun ts J R1 H1 ⟨I, h0, hs, hd⟩ n1 r1 ok => by
    have okP := ok (P.at R1) rfl rfl rfl rfl
    refine ⟨fun i q σ' H' => q = ts.length - i ∧ i ≤ ts.length ∧ ∃ R' as' G' m', Rel X.K X.mg Z (P.at R1) R' as' G' m' σ' H' ∧ I i G' m', ⟨ts.length, by simp, Nat.zero_le _, R1, as, G, m, r1.base, h0⟩, ?_⟩
    rintro i q σ' H' ⟨rfl, hi, R', as', G', m', r', hI⟩
    obtain ⟨ok1, ok2⟩ := okP R' as' G' m' σ' H' r' r'.r0
    by_cases hlt : i < ts.length
    · have ht : ts[i]? = some ts[i] := List.getElem?_eq_getElem hlt
      obtain ⟨hgo, hy⟩ := ok1 i _ ht
      refine .inr ⟨hgo, fun σ2 H2 => i + 1 ≤ ts.length ∧ ∃ R2 as2 G2 m2, Rel X.K X.mg Z (P.at R1) R2 as2 G2 m2 σ2 H2 ∧ I (i + 1) G2 m2, fun σ2 H2 ⟨a, b⟩ => ⟨ts.length - (i + 1), by omega, rfl, a, b⟩, fun x H2 hx => ?_⟩
      obtain ⟨R2, _, _, r2, rv⟩ := hy x H2 hx
      refine ⟨P.at R1, R2, as', G', m', _, _, r2, rv, hs i _ G' m' ht hI, fun G3 σ3 h3 _ r3 => ⟨P.at R1, R2, as', G3, m', _, _, _, _, _, r3, h3, ?_⟩⟩
      have kk := k.at r1
      exact ⟨fun G m R as σ H a b => ⟨hlt, R, as, G, m, b, a⟩, kk.rt, kk.nx, fun G m R as σ H a b => ⟨hlt, R, as, G, m, b, a⟩, kk.ex⟩
    · have e : i = ts.length := by omega
      subst e
      exact .inl ⟨ok2, k.nx G' m' R' as' σ' H' (hd G' m' hI) (r1.unbase r')⟩, k.er⟩
end
end VL

/-! VL, part H: comprehensions, while, calls, promises. -/
namespace VL
open PySem L2

section
variable {K : PySem.W.Frag} {mg : Str → Option Value} {Z : Rsc} {P : Pm} {R R' H H' : Hp} {as : List Addr} {G : Env} {m : Sto} {σ : L2.St}
/-- an object that nobody knows changes -/
theorem Rel.poke (r : Rel K mg Z P R as G m σ H) {a : Addr} {o : HO} (hR : R a = none) (hB : ¬ P.B a) (h0 : P.H0 a = none) (hA : ∀ (j : Nat) x, m[j]? = some (some x) → as[j]? ≠ some a) : Rel K mg Z P R as G m σ (upd H a o) :=
  { r with
    ex := same_put hR r.ex
    sto := fun j x e => by
      obtain ⟨b, q1, q2, q3, q4, q5⟩ := r.sto j x e
      have hb : b ≠ a := fun z => hA j x e (by rw [← z]; exact q1)
      exact ⟨b, q1, q2.mono (Same.refl R) fun u q => by rw [upd_ne hb]; exact q, q3, q4, q5⟩
    vol := Z.st _ _ _ _ (fun b hb => upd_ne fun z => hB (by rw [← z]; exact hb)) r.vol
    frame := fun b u e n1 n2 => by
      have hb : b ≠ a := fun z => by rw [z, h0] at e; cases e
      rw [upd_ne hb]
      exact r.frame b u e n1 n2
    dom := fun b e => by
      by_cases hb : b = a
      · subst hb; rw [upd_same]; simp
      · rw [upd_ne hb]; exact r.dom b e }
/-- such an object becomes known -/
theorem Rel.know (r : Rel K mg Z P R as G m σ H) {a : Addr} {o : HO} (ha : H a = some o) (hR : R a = none) (hB : ¬ P.B a) (h0 : P.H0 a = none) (hA : ∀ (j : Nat) x, m[j]? = some (some x) → as[j]? ≠ some a) : Same R (upd R a o) ∧ Rel K mg Z P (upd R a o) as G m σ H := by
  have sr : Same R (upd R a o) := same_new hR
  refine ⟨sr, { r with ex := fun b u e => ?_, env := fun i d e => ?_, sto := fun j x e => ?_, rb := fun b hb => ?_, fresh := fun b e => ?_, r0 := r.r0.trans sr }⟩
  · by_cases hb : b = a
    · subst hb; rw [upd_same] at e; cases e; exact ha
    · rw [upd_ne hb] at e; exact r.ex b u e
  · obtain ⟨x, h1, h2⟩ := r.env i d e
    exact ⟨x, h1, h2.mono sr⟩
  · obtain ⟨b, q1, q2, q3, q4, q5⟩ := r.sto j x e
    have hb : b ≠ a := fun z => hA j x e (by rw [← z]; exact q1)
    exact ⟨b, q1, q2.mono sr fun _ q => q, by rw [upd_ne hb]; exact q3, q4, q5⟩
  · rw [upd_ne fun z => hB (by rw [← z]; exact hb)]
    exact r.rb b hb
  · by_cases hb : b = a
    · subst hb; exact .inr h0
    · rw [upd_ne hb] at e; exact r.fresh b e
def wipeG (G : Env) : List Nat → Env
  | [] => G
  | v :: vs => (wipeG G vs).set v none
theorem wipeG_len (G : Env) : ∀ vs : List Nat, (wipeG G vs).length = G.length
  | [] => rfl
  | v :: vs => by unfold wipeG; rw [List.length_set, wipeG_len G vs]
theorem wipeG_at {G : Env} {i : Nat} {d : Dv} : ∀ {vs : List Nat}, (wipeG G vs)[i]? = some (some d) → G[i]? = some (some d) ∧ i ∉ vs
  | [], h => ⟨h, by simp⟩
  | v :: vs, h => by
    unfold wipeG at h
    by_cases hi : v = i
    · subst hi
      by_cases hv : v < (wipeG G vs).length
      · rw [List.getElem?_set_self hv] at h; cases h
      · rw [List.getElem?_eq_none (by simpa using hv)] at h; cases h
    · rw [List.getElem?_set_ne hi] at h
      obtain ⟨h1, h2⟩ := wipeG_at h
      exact ⟨h1, by simp only [List.mem_cons, not_or]; exact ⟨fun e => hi e.symm, h2⟩⟩
theorem wipe_keep {i : Nat} {x : V} : ∀ {σ : L2.St} {vs : List Nat}, σ[i]? = some (some x) → i ∉ vs → (wipe σ vs)[i]? = some (some x)
  | σ, [], h, _ => h
  | σ, v :: vs, h, n => by
    unfold wipe
    have hi : v ≠ i := fun z => n (by rw [z]; exact List.mem_cons_self)
    rw [List.getElem?_set_ne hi]
    exact wipe_keep h fun z => n (List.mem_cons_of_mem _ z)
theorem Rel.wipe (r : Rel K mg Z P R as G m σ H) (vs : List Nat) : Rel K mg Z P R as (wipeG G vs) m (L2.wipe σ vs) H :=
  { r with
    len := by rw [wipeG_len, wipe_length]; exact r.len
    env := fun i d e => by
      obtain ⟨h1, h2⟩ := wipeG_at e
      obtain ⟨x, q1, q2⟩ := r.env i d h1
      exact ⟨x, wipe_keep q1 h2, q2⟩ }
/-- the same state for other names -/
theorem Rel.names (r : Rel K mg Z P R as G m σ H) {G' : Env} {σ' : L2.St} {R0' : Hp} {H0' : Hp} (r0 : Rel K mg Z P R0' as G' m σ' H0') (s : Same R0' R) : Rel K mg Z P R as G' m σ' H :=
  { r with len := r0.len, env := fun i d e => let ⟨x, h1, h2⟩ := r0.env i d e; ⟨x, h1, h2.mono s⟩ }
end

/-! ### comprehensions -/
def noX : XK := fun _ => False
abbrev vLc (it : VI) (tg : VG) (ts : VT) (el : VE) (vs : List Nat) : VE := fun G m k x => it G m (fun us => ∃ I : Nat → List Tr → Prop, I 0 [] ∧
  (∀ (i : Nat) t acc, us[i]? = some t → I i acc → tg t (wipeG G vs) (fun G2 => ts G2 m (fun b => (b = true → el G2 m (fun d => ∃ y, d = .t y ∧ acc.length < sizeLine ∧ I (i + 1) (acc ++ [y])) noX) ∧ (b = false → I (i + 1) acc)) noX)) ∧
  ∀ acc, I us.length acc → k (.t (.lst acc))) x
abbrev vtYes : VT := fun _ _ k _ => k true
section
variable {X : Cx} {Z : Rsc} {W W' : WX}
structure PTv (X : Cx) (Z : Rsc) (W : WX) (ifs : List Expr) (t : VT) : Prop where
  p : PTs X ifs (LT X.K X.mg Z W t)
theorem vts_nil : PTs X [] (LT X.K X.mg Z W vtYes) := ⟨fun pins s σ H Q I ⟨P, R, as, G, m, k, x, r, h, n⟩ => pts_nil.run pins s σ H Q I (n.ok _ R H h .refl r)⟩
theorem vts_one {c : Expr} {t : VT} (h : PT X c (LT X.K X.mg Z W t)) : PTs X [c] (LT X.K X.mg Z W t) := pts_one h
theorem lc_of {K : PySem.W.Frag} {mg : Str → Option Value} {it : VI} {tg : VG} {ts : VT} {el : VE} {vs : List Nat} : ∀ σ H Q, LE K mg Z W (vLc it tg ts el vs) σ H Q → tLc (LI K mg Z W it) (LG K mg Z (some vs) tg) (LT K mg Z W' ts) (LE K mg Z W' el) vs σ H Q :=
  fun σ H Q ⟨P, R, as, G, m, k, x, r, h, n⟩ => ⟨P, R, as, G, m, _, x, r, h, fun us J R1 H1 ⟨I, h0, hs, hd⟩ n1 r1 ok D hD => by
    have okP := ok (P.at R1) rfl rfl rfl rfl
    have b1 := r1.base
    have hR := b1.newR hD
    have hB := b1.newB hD
    have h0D : (P.at R1).H0 D = none := b1.new0 hD
    have hA : ∀ (j : Nat) x, m[j]? = some (some x) → as[j]? ≠ some D := fun j x e => b1.newA hD e
    -- what holds between the turns
    have W0 : Rel K mg Z (P.at R1) R1 as G m σ (upd H1 D (.lst [])) := b1.poke hR hB h0D hA
    refine ⟨fun i q H' => q = us.length - i ∧ i ≤ us.length ∧ ∃ R' acc xs, Rel K mg Z (P.at R1) R' as G m σ H' ∧ R' D = none ∧ H' D = some (.lst xs) ∧ Reps K mg R' xs acc ∧ I i acc ∧ Nx P R1 H1 R' H', ⟨us.length, by simp, Nat.zero_le _, R1, [], [], W0, hR, upd_same, .nil, h0, ⟨Same.refl _, fun a o ha e => by rw [upd_ne (ne_of_none e hD)]; exact e, fun a e => .inl e, fun a e => by
        by_cases hb : a = D
        · subst hb; rw [upd_same]; simp
        · rw [upd_ne hb]; exact e⟩⟩, ?_⟩
    rintro i q H' ⟨rfl, hi, R', acc, xs, r', hR', hx, rx, hI, nn⟩
    obtain ⟨ok1, ok2⟩ := okP R' as G m σ H' r' r'.r0
    by_cases hlt : i < us.length
    · have ht : us[i]? = some us[i] := List.getElem?_eq_getElem hlt
      obtain ⟨hgo, hy⟩ := ok1 i _ ht
      refine .inr ⟨hgo, fun H2 => i + 1 ≤ us.length ∧ ∃ R2 acc2 xs2, Rel K mg Z (P.at R1) R2 as G m σ H2 ∧ R2 D = none ∧ H2 D = some (.lst xs2) ∧ Reps K mg R2 xs2 acc2 ∧ I (i + 1) acc2 ∧ Nx P R1 H1 R2 H2, fun H2 ⟨a, b⟩ => ⟨us.length - (i + 1), by omega, rfl, a, b⟩, fun v H2 hv => ?_⟩
      obtain ⟨R2, s2, n2, r2, rv⟩ := hy v H2 hv
      refine ⟨P.at R1, R2, as, _, m, _, _, r2.wipe vs, rv, hs i _ acc ht hI, fun G3 σ3 h3 s3 r3 => ⟨?_, ?_⟩⟩
      · have e : ∀ (σ : L2.St) (vs : List Nat), L2.wipe (L2.wipe σ vs) vs = L2.wipe σ vs := fun σ vs => by
          have gen : ∀ us : List Nat, (∀ u ∈ us, u ∈ vs) → L2.wipe (L2.wipe σ vs) us = L2.wipe σ vs := fun us => by
            induction us with
            | nil => intro _; rfl
            | cons u us ih =>
              intro hu
              rw [L2.wipe, ih fun z hz => hu z (List.mem_cons_of_mem _ hz)]
              refine List.ext_getElem? fun j => ?_
              have hz : ∀ (ws : List Nat), u ∈ ws → u < σ.length → (L2.wipe σ ws)[u]? = some none := fun ws => by
                induction ws with
                | nil => intro h _; exact absurd h (by simp)
                | cons w ws ihw =>
                  intro h hl
                  rw [L2.wipe]
                  by_cases hw : w = u
                  · subst hw; rw [List.getElem?_set_self (by rw [wipe_length]; exact hl)]
                  · rw [List.getElem?_set_ne hw]
                    rcases List.mem_cons.mp h with z | z
                    · exact absurd z.symm hw
                    · exact ihw z hl
              by_cases hj : u = j
              · subst hj
                by_cases hl : u < σ.length
                · rw [List.getElem?_set_self (by rw [wipe_length]; exact hl), hz vs (hu u List.mem_cons_self) hl]
                · rw [List.getElem?_eq_none (by rw [List.length_set, wipe_length]; omega), List.getElem?_eq_none (by rw [wipe_length]; omega)]
              · rw [List.getElem?_set_ne hj]
          exact gen vs fun _ h => h
        exact Eq.trans s3 (e σ vs)
      · have clear : ∀ {Ra Ha Rb Hb : Hp}, Nx (P.at R1) Ra Ha Rb Hb → Ra D = none → Ha D = some (.lst xs) → Rb D = none ∧ Hb D = some (.lst xs) := fun {Ra Ha Rb Hb} n0 h1 h2 => by
          refine ⟨?_, n0.h D _ hB h2⟩
          cases q : Rb D with
          | none => rfl
          | some u =>
            rcases n0.n D (by rw [q]; simp) with z | z
            · exact absurd h1 z
            · rw [h2] at z; cases z
        have n2' : Nx (P.at R1) R' H' R2 H2 := ⟨n2.r, n2.h, n2.n, n2.d⟩
        obtain ⟨c1, c2⟩ := clear n2' hR' hx
        refine LT.go r3 h3 (fun b R4 H4 ⟨hb1, hb2⟩ n4 r4 => ?_) fun nm cl R4 H4 z => z.elim
        obtain ⟨c3, c4⟩ := clear n4 c1 c2
        have nn4 : Nx P R1 H1 R4 H4 := (nn.trans ⟨n2'.r, n2'.h, n2'.n, n2'.d⟩).trans ⟨n4.r, n4.h, n4.n, n4.d⟩
        cases b with
        | false =>
          rw [if_neg Bool.false_ne_true]
          exact ⟨hlt, R4, acc, xs, r4.names r' (s2.trans n4.r), c3, c4, Reps.mono (s2.trans n4.r) rx, hb2 rfl, nn4⟩
        | true =>
          rw [if_pos rfl]
          refine LE.go r4 (hb1 rfl) (fun d w R5 H5 ⟨y, ey, hz, hI5⟩ n5 r5 d5 => ?_) fun nm cl R4 H4 z => z.elim
          subst ey
          obtain ⟨c5, c6⟩ := clear n5 c3 c4
          have s5 : Same R' R5 := (s2.trans n4.r).trans n5.r
          have nn5 : Nx P R1 H1 R5 H5 := nn4.trans ⟨n5.r, n5.h, n5.n, n5.d⟩
          cases d5 with
          | t rw' =>
            refine ⟨xs, c6, by rw [Paired.length rx]; exact hz, hlt, R5, acc ++ [y], xs ++ [w], (r5.names r' s5).poke c5 hB h0D hA, c5, upd_same, paired_append (Reps.mono s5 rx) (.cons rw' .nil), hI5, nn5.r, fun a o ha e => ?_, nn5.n, fun a e => ?_⟩
            · have ha' : a ≠ D := fun z => by rw [z, hD] at e; cases e
              rw [upd_ne ha']
              exact nn5.h a o ha e
            · by_cases hb : a = D
              · subst hb; rw [upd_same]; simp
              · rw [upd_ne hb]; exact nn5.d a e
    · have e : i = us.length := by omega
      subst e
      obtain ⟨sr, rk⟩ := r'.know hx hR' hB h0D hA
      have nf : Nx P R1 H1 (upd R' D (.lst xs)) H' := ⟨nn.r.trans sr, nn.h, fun a e => by
        by_cases hb : a = D
        · subst hb; exact .inr hD
        · rw [upd_ne hb] at e; exact nn.n a e, nn.d⟩
      exact .inl ⟨ok2, n.ok (.t (.lst acc)) (.ref D) _ _ (hd acc hI) (n1.trans nf) (r1.unbase rk) (.t (.lstP upd_same (Reps.mono sr rx)))⟩, n.er⟩
end
end VL

/-! VL, part I: comprehensions as rules, while, stores to items, built-in calls. -/
namespace VL
open PySem L2

section
variable {X : Cx} {Z : Rsc} {W W' : WX} {e tg iter elt c : Expr} {ifs : List Expr} {vi : VI} {vg : VG} {vt : VT} {ve : VE} {body : List Stmt} {u : VS} {pos spos : Pos}
theorem v_lc {scope : Scope} {own : List (Str × Nat)} (hc : X.calm = true) (hN : X.N.Nodup) (hi : PI X tg iter (LI X.K X.mg Z W vi)) (ok : BlkOk X.N X.env.scope scope own)
    (hg : ∀ (s : Shared) (H : Hp) (C : Addr) (cl : List (Str × Addr)) (fp : List Addr), PG (X.blk s H scope (compEnvC scope cl C X.env) fp) tg (LG X.K X.mg Z (some (own.map (·.2))) vg))
    (ht : ∀ (s : Shared) (H : Hp) (C : Addr) (cl : List (Str × Addr)) (fp : List Addr), PTs (X.blk s H scope (compEnvC scope cl C X.env) fp) ifs (LT X.K X.mg Z W' vt))
    (he : ∀ (s : Shared) (H : Hp) (C : Addr) (cl : List (Str × Addr)) (fp : List Addr), PE (X.blk s H scope (compEnvC scope cl C X.env) fp) elt (LE X.K X.mg Z W' ve)) (hs : ∀ x, foldedSetIterable iter X.env x = pure x := by intro _; rfl) :
    PE X (.ListComp elt [⟨tg, iter, ifs, 0⟩] scope pos) (LE X.K X.mg Z W (vLc vi vg vt ve (own.map (·.2)))) := PE.imp (pe_lc hc hN hi ok hg ht he hs) lc_of
theorem vs_setLc {i : Nat} {y : Str} {py : Pos} {scope : Scope} {own : List (Str × Nat)} (hc : X.calm = true) (hN : X.N.Nodup) (hy : X.N[i]? = some y) (hyl : X.env.scope.names.lookup y = some .local)
    (hsw : swapsWith (.ListComp elt [⟨tg, iter, ifs, 0⟩] scope pos) (some (.Name y py)) spos.line X.env = pure true) (hi : PI X tg iter (LI X.K X.mg Z W vi)) (ok : BlkOk X.N X.env.scope scope own)
    (hg : ∀ (s : Shared) (H : Hp) (C : Addr) (cl : List (Str × Addr)) (fp : List Addr), PG (X.blk s H scope (compEnvC scope cl C X.env) fp) tg (LG X.K X.mg Z (some (own.map (·.2))) vg))
    (ht : ∀ (s : Shared) (H : Hp) (C : Addr) (cl : List (Str × Addr)) (fp : List Addr), PTs (X.blk s H scope (compEnvC scope cl C X.env) fp) ifs (LT X.K X.mg Z W' vt))
    (he : ∀ (s : Shared) (H : Hp) (C : Addr) (cl : List (Str × Addr)) (fp : List Addr), PE (X.blk s H scope (compEnvC scope cl C X.env) fp) elt (LE X.K X.mg Z W' ve)) (hs : ∀ x, foldedSetIterable iter X.env x = pure x := by intro _; rfl) :
    PS X (.Assign [.Name y py] (.ListComp elt [⟨tg, iter, ifs, 0⟩] scope pos) spos) (LS X.K X.mg Z W (vSet i (vLc vi vg vt ve (own.map (·.2))))) :=
  PS.imp (ps_setLc hc hN hy hyl hsw hi ok hg ht he hs) fun D σ H ⟨P, R, as, G, m, nx, rt, bk, ct, ex, r, h, k⟩ => by
    refine lc_of (W := W) σ H _ ?_
    exact LE.go r h (fun d v R1 H1 h1 n1 r1 d1 => k.nx _ m R1 as _ H1 h1 (r1.set d1)) k.er

/-- while test: body -/
def vWh (t : VT) (body : VS) : VS := fun nx rt bk ct ex G m => ∃ I : Nat → Env → Sto → Prop, (∃ q, I q G m) ∧ ∀ q G' m', I q G' m' →
  t G' m' (fun c => (c = true → body (fun G2 m2 => ∃ q', q' < q ∧ I q' G2 m2) rt nx (fun G2 m2 => ∃ q', q' < q ∧ I q' G2 m2) ex G' m') ∧ (c = false → nx G' m')) (fun n => ex n G' m')
theorem vs_while (hp : PassesOwn (model X.prog X.w) X.A X.env X.xe) (hc : PT X c (LT X.K X.mg Z W vt)) (hb : PSs X body (LS X.K X.mg Z W u)) : PS X (.While c body [] pos) (LS X.K X.mg Z W (vWh vt u)) :=
  PS.imp (ps_while hp hc hb) fun D σ H ⟨P, R, as, G, m, nx, rt, bk, ct, ex, r, ⟨I, ⟨q0, h0⟩, hs⟩, k⟩ => by
    refine ⟨fun q σ H => ∃ R as G m, Rel X.K X.mg Z P R as G m σ H ∧ I q G m, ⟨q0, R, as, G, m, r, h0⟩, ?_⟩
    rintro q σ' H' ⟨R', as', G', m', r', hI⟩
    refine LT.go r' (hs q G' m' hI) (fun c R1 H1 ⟨h1, h2⟩ n1 r1 => ?_) k.er
    cases c with
    | true =>
      rw [if_pos rfl]
      refine ⟨fun σ2 H2 => ∃ q', q' < q ∧ ∃ R as G m, Rel X.K X.mg Z P R as G m σ2 H2 ∧ I q' G m, fun σ2 H2 ⟨q', a, b⟩ => ⟨q', a, b⟩, P, R1, as', G', m', _, _, _, _, _, r1, h1 rfl, ?_⟩
      exact ⟨fun G m R as σ H ⟨q', a, b⟩ c => ⟨q', a, R, as, G, m, c, b⟩, k.rt, k.nx, fun G m R as σ H ⟨q', a, b⟩ c => ⟨q', a, R, as, G, m, c, b⟩, k.ex⟩
    | false =>
      rw [if_neg Bool.false_ne_true]
      exact k.nx _ _ _ _ _ _ (h2 rfl) r1

/-! ### o[i] = e -/
def rSetI : TSet := fun o i v H Q => rSetL o i v H Q ∨ rSetD o i v H Q
theorem set_item (hu : X.A.units + 1 < cLine) : PSet X rSetI := fun pins s σ H o i v ov iv u Q I r1 r2 r3 q => q.elim (set_list pins s σ H o i v ov iv u Q I r1 r2 r3) (set_dict hu pins s σ H o i v ov iv u Q I r1 r2 r3)
/-- a dict with one more entry, or another value at a key -/
def putT (ts : List (Key × Tr)) (k : Key) (v : Tr) : List (Key × Tr) := if (ts.any fun kv => decide (kv.1 = k)) = true then ts.map fun kv => if kv.1 = k then (kv.1, v) else kv else ts ++ [(k, v)]
def fSetI (nx : Sto → Prop) : Sto → Dv → Dv → Tr → Prop := fun m o i t => ∃ j, o = .loc j ∧
  ((∃ ts n q, m[j]? = some (some (.lst ts)) ∧ view m i = some (.int n) ∧ ixN ts.length n = some q ∧ nx (m.set j (some (.lst (ts.set q t))))) ∨
   ∃ ts ky, m[j]? = some (some (.dic ts)) ∧ view m i = some (kT ky) ∧ ts.length < sizeLine ∧ nx (m.set j (some (.dic (putT ts ky t)))))
abbrev vSetI (o i e : VE) : VS := fun nx _ _ _ ex G m => e G m (fun y => ∃ t, y = .t t ∧ o G m (fun d => i G m (fun d2 => fSetI (fun m' => nx G m') m d d2 t) (fun n => ex n G m)) (fun n => ex n G m)) (fun n => ex n G m)
theorem put_any {K : PySem.W.Frag} {mg : Str → Option Value} {R : Hp} (ky : Key) {xs : List (Key × V)} {ts : List (Key × Tr)} (h : RepsP K mg R xs ts) : (xs.any fun kv => decide (kv.1 = ky)) = (ts.any fun kv => decide (kv.1 = ky)) := by
  induction h with
  | nil => rfl
  | cons r _ ih => rw [List.any_cons, List.any_cons, ih, r.1]
theorem put_pair {K : PySem.W.Frag} {mg : Str → Option Value} {R : Hp} {v : V} {t : Tr} (rv : Rep K mg R v t) (ky : Key) {xs : List (Key × V)} {ts : List (Key × Tr)} (h : RepsP K mg R xs ts) : RepsP K mg R (putK xs ky v) (putT ts ky t) := by
  unfold putK putT
  rw [put_any ky h]
  split
  · induction h with
    | nil => exact .nil
    | cons r rs ih =>
      rename_i a b l l' hh
      rw [List.map_cons, List.map_cons]
      have ih' : RepsP K mg R (l.map fun kv => if kv.1 = ky then (kv.1, v) else kv) (l'.map fun kv => if kv.1 = ky then (kv.1, t) else kv) := by
        clear ih hh
        induction rs with
        | nil => exact .nil
        | cons r2 rs2 ih2 =>
          rw [List.map_cons, List.map_cons]
          refine .cons ?_ ih2
          rw [r2.1]
          split
          · exact ⟨rfl, rv⟩
          · exact r2
      refine .cons ?_ ih'
      rw [r.1]
      split
      · exact ⟨rfl, rv⟩
      · exact r
  · exact paired_append h (.cons ⟨rfl, rv⟩ .nil)
theorem paired_set {α β : Type} {F : α → β → Prop} {a : α} {b : β} (h : F a b) : ∀ {l : List α} {l' : List β} (i : Nat), Paired F l l' → Paired F (l.set i a) (l'.set i b)
  | _, _, _, .nil => .nil
  | _, _, 0, .cons _ t => .cons h t
  | _, _, i + 1, .cons r t => .cons r (paired_set h i t)
theorem vs_setI {o i value : Expr} {vo vx : VE} {pos' : Pos} (hu : X.A.units + 1 < cLine) (ho : PE X o (LE X.K X.mg Z W vo)) (hi : PE X i (LE X.K X.mg Z W vx)) (hv : PE X value (LE X.K X.mg Z W ve))
    (hp : ∀ {g : TG}, PG X (.Subscript o i pos') g → PS X (.Assign [.Subscript o i pos'] value pos) (tAsg (LE X.K X.mg Z W ve) g))
    (ha : ∀ v, assign (.Subscript o i pos') X.env v = (do
      let ov ← holding [v] (eval o X.env)
      let iv ← holding [v, ov] (eval i X.env)
      standAt pos'
      holding [v, ov, iv] (setItem ov iv v)
      release [v, ov, iv] []) := by intro _; rfl) : PS X (.Assign [.Subscript o i pos'] value pos) (LS X.K X.mg Z W (vSetI vo vx ve)) :=
  PS.imp (hp (pg_sub ho hi (set_item hu) ha)) fun D σ H ⟨P, R, as, G, m, nx, rt, bk, ct, ex, r, h, k⟩ =>
    LE.go r h (fun y w R1 H1 ⟨t, ey, h1⟩ n1 r1 d1 => LE.go r1 h1 (fun d v R2 H2 h2 n2 r2 d2 => LE.go r2 h2 (fun d' v' R3 H3 ⟨j, ej, h3⟩ n3 r3 d3 => by
      subst ey ej
      have d1' := (d1.mono n2.r).mono n3.r
      have d2' := d2.mono n3.r
      cases d1' with
      | t rv =>
        rcases h3 with ⟨ts, n, q, e1, e2, e3, h3⟩ | ⟨ts, ky, e1, e2, hz, h3⟩
        · obtain ⟨a, xs, rfl, ha', hx, rx⟩ := r3.vLoc d2' e1
          refine .inl ⟨a, xs, n, q, rfl, r3.vInt d3 e2, hx, by rw [Paired.length rx]; exact e3, k.nx _ _ _ _ _ _ h3 (r3.put e1 ha' ⟨xs.set q w, upd_same, paired_set rv q rx⟩)⟩
        · obtain ⟨a, xs, rfl, ha', hx, rx⟩ := r3.vLocD d2' e1
          refine .inr ⟨a, _, rfl, .inl ⟨xs, ky, hx, r3.vKey d3 e2, by rw [Paired.length rx]; exact hz, rfl⟩, k.nx _ _ _ _ _ _ h3 (r3.put e1 ha' ⟨putK xs ky w, upd_same, put_pair rv ky rx⟩)⟩) k.er) k.er) k.er
end

/-! ### built-in calls -/
abbrev OC := Sto → List Dv → DK → Prop
def LoC (K : PySem.W.Frag) (mg : Str → Option Value) (r : List V → Hp → VK → Prop) (f : OC) : Prop := ∀ (Z : Rsc) P R as G m σ H vs ds k Q, Rel K mg Z P R as G m σ H → Paired (DRep K mg R P.hd as) vs ds → f m ds k →
  (∀ z u R' H', k z → Nx P R H R' H' → Rel K mg Z P R' as G m σ H' → DRep K mg R' P.hd as u z → Q u H') → r vs H Q
abbrev vCB (f : OC) (es : VA) : VE := fun G m k x => es G m (fun ds => f m ds k) x
theorem LoC.or {K : PySem.W.Frag} {mg : Str → Option Value} {r r' : List V → Hp → VK → Prop} {f f' : OC} (h : LoC K mg r f) (h' : LoC K mg r' f') : LoC K mg (fun xs H Q => r xs H Q ∨ r' xs H Q) (fun m ds k => f m ds k ∨ f' m ds k) :=
  fun Z P R as G m σ H vs ds k Q a b q n => q.elim (fun q => .inl (h Z P R as G m σ H vs ds _ Q a b q n)) fun q => .inr (h' Z P R as G m σ H vs ds _ Q a b q n)
theorem callR_or {X : Cx} {f : Value} {r r' : List V → Hp → VK → Prop} (h : CallR X f r) (h' : CallR X f r') : CallR X f (fun xs H Q => r xs H Q ∨ r' xs H Q) := CallR.or h h'
theorem loC {K : PySem.W.Frag} {mg : Str → Option Value} {Z : Rsc} {W : WX} {r : List V → Hp → VK → Prop} {f : OC} {es : VA} (lo : LoC K mg r f) : ∀ σ H Q, LE K mg Z W (vCB f es) σ H Q → tCB r (LA K mg Z W es) σ H Q :=
  fun σ H Q ⟨P, R, as, G, m, k, x, r0, h, n⟩ => LA.go r0 h (fun ds vs R1 H1 h1 n1 r1 d1 => lo Z P R1 as G m σ H1 vs ds k Q r1 d1 h1 fun z u R2 H2 h2 n2 r2 d2 => n.ok z u R2 H2 h2 (n1.trans n2) r2 d2) n.er
section
variable {X : Cx} {Z : Rsc} {W : WX} {x : Str} {p pos : Pos} {e : Expr} {es : List Expr} {va : VA} {id T : String} {r : List V → Hp → VK → Prop} {f : OC}
theorem v_callB (hc : CallR X (.builtin id) r) (lo : LoC X.K X.mg r f) (hg : Gl X x) (hm : X.mg x = none) (hv : bootBuiltins x = some (.builtin id)) (ha : PA X (e :: es) (LA X.K X.mg Z W va)) (hn : x ≠ "__name__" := by decide) (hdb : (x == ("__debug__" : Str)) = false := by decide)
    (he : starEach (e :: es) X.env = (false, eval e X.env) :: starEach es X.env := by rfl) (hpl : (backTo pos (starEach es X.env)).any (·.1) = false := by rfl) : PE X (.Call (.Name x p) (e :: es) [] pos) (LE X.K X.mg Z W (vCB f va)) :=
  PE.imp (pe_callB hc hg hm hv ha hn hdb he hpl) (loC lo)
theorem v_callTy (hc : CallR X (.type T) r) (lo : LoC X.K X.mg r f) (hg : Gl X x) (hm : X.mg x = none) (hv : bootBuiltins x = some (.type T)) (ha : PA X (e :: es) (LA X.K X.mg Z W va)) (hn : x ≠ "__name__" := by decide) (hdb : (x == ("__debug__" : Str)) = false := by decide)
    (he : starEach (e :: es) X.env = (false, eval e X.env) :: starEach es X.env := by rfl) (hpl : (backTo pos (starEach es X.env)).any (·.1) = false := by rfl) : PE X (.Call (.Name x p) (e :: es) [] pos) (LE X.K X.mg Z W (vCB f va)) :=
  PE.imp (pe_callTy hc hg hm hv ha hn hdb he hpl) (loC lo)
end
section
variable {K : PySem.W.Frag} {mg : Str → Option Value}
theorem pone {R : Hp} {hd : Nat → Addr} {as : List Addr} {vs : List V} {d : Dv} (h : Paired (DRep K mg R hd as) vs [d]) : ∃ v, vs = [v] ∧ DRep K mg R hd as v d := by
  cases h with
  | cons r t => cases t; exact ⟨_, rfl, r⟩
theorem ptwo {R : Hp} {hd : Nat → Addr} {as : List Addr} {vs : List V} {d e : Dv} (h : Paired (DRep K mg R hd as) vs [d, e]) : ∃ v w, vs = [v, w] ∧ DRep K mg R hd as v d ∧ DRep K mg R hd as w e := by
  cases h with
  | cons r t => cases t with
    | cons r2 t2 => cases t2; exact ⟨_, _, rfl, r, r2⟩
def lenT : Tr → Option Nat
  | .lst ts => some ts.length
  | .tup ts => some ts.length
  | .scr ts => some ts.length
  | .str z => some z.length
  | _ => none
def fLen : OC := fun m ds k => ∃ d x n, ds = [d] ∧ view m d = some x ∧ lenT x = some n ∧ (∀ z, x = .str z → z.length ≤ sizeLine) ∧ k (.t (.int n))
theorem lo_len : LoC K mg (fun xs H Q => ∃ x n, xs = [x] ∧ LenV K x H n ∧ Q (.int n) H) fLen := by
  rintro Z P R as G m σ H vs ds k Q r h0 ⟨d, x, n, rfl, e1, e2, hz, q⟩ nn
  obtain ⟨v, rfl, dv⟩ := pone h0
  refine ⟨v, n, rfl, ?_, nn _ _ R H q .refl r (.t (.int _))⟩
  have q := r.repd dv e1
  cases q with
  | non => cases e2
  | bl b => cases e2
  | int i => cases e2
  | str s => cases e2; exact ⟨hz _ rfl, rfl⟩
  | ty n => cases e2
  | cls h => cases e2
  | scr h => cases e2; exact .inl ⟨_, h, by rw [List.length_map]⟩
  | lst h l f => cases e2; exact .inl ⟨_, .of h, l.symm⟩
  | tup h l f => cases e2; exact .inr ⟨_, .of h, l.symm⟩
  | dic h l f => cases e2
  | ins m h l f => cases e2
  | exc m h => cases e2
def fLenD : OC := fun m ds k => ∃ d ts, ds = [d] ∧ view m d = some (.dic ts) ∧ k (.t (.int ts.length))
def fAbs : OC := fun m ds k => ∃ d i, ds = [d] ∧ view m d = some (.int i) ∧ k (.t (.int (if i < 0 then -i else i)))
theorem lo_abs : LoC K mg (fun xs H Q => ∃ i, xs = [.int i] ∧ Q (.int (if i < 0 then -i else i)) H) fAbs := by
  rintro Z P R as G m σ H vs ds k Q r h ⟨d, i, rfl, e1, q⟩ nn
  obtain ⟨v, rfl, dv⟩ := pone h
  rw [r.vInt dv e1]
  exact ⟨i, rfl, nn _ _ R H q .refl r (.t (.int _))⟩
def fMax2 : OC := fun m ds k => ∃ d e i j, ds = [d, e] ∧ view m d = some (.int i) ∧ view m e = some (.int j) ∧ k (.t (.int (max i j)))
def fMin2 : OC := fun m ds k => ∃ d e i j, ds = [d, e] ∧ view m d = some (.int i) ∧ view m e = some (.int j) ∧ k (.t (.int (min i j)))
theorem lo_max2 : LoC K mg (fun xs H Q => ∃ i j, xs = [.int i, .int j] ∧ Q (.int (if j > i then j else i)) H) fMax2 := by
  rintro Z P R as G m σ H vs ds k Q r h ⟨d, e, i, j, rfl, e1, e2, q⟩ nn
  obtain ⟨v, w, rfl, dv, dw⟩ := ptwo h
  rw [r.vInt dv e1, r.vInt dw e2]
  refine ⟨i, j, rfl, nn (.t (.int (max i j))) _ R H q .refl r (.t ?_)⟩
  have e : (if j > i then j else i) = max i j := by split <;> omega
  rw [e]
  exact .int _
theorem lo_min2 : LoC K mg (fun xs H Q => ∃ i j, xs = [.int i, .int j] ∧ Q (.int (if j < i then j else i)) H) fMin2 := by
  rintro Z P R as G m σ H vs ds k Q r h ⟨d, e, i, j, rfl, e1, e2, q⟩ nn
  obtain ⟨v, w, rfl, dv, dw⟩ := ptwo h
  rw [r.vInt dv e1, r.vInt dw e2]
  refine ⟨i, j, rfl, nn (.t (.int (min i j))) _ R H q .refl r (.t ?_)⟩
  have e : (if j < i then j else i) = min i j := by split <;> omega
  rw [e]
  exact .int _
def mxI : List Int → Int
  | [] => 0
  | [a] => a
  | a :: b :: r => max a (mxI (b :: r))
def mnI : List Int → Int
  | [] => 0
  | [a] => a
  | a :: b :: r => min a (mnI (b :: r))
theorem mxI_ok : ∀ {ns : List Int}, 0 < ns.length → mxI ns ∈ ns ∧ ∀ y ∈ ns, y ≤ mxI ns
  | [a], _ => ⟨by simp [mxI], by simp [mxI]⟩
  | a :: b :: r, _ => by
    obtain ⟨h1, h2⟩ := mxI_ok (ns := b :: r) (by simp)
    rw [mxI]
    refine ⟨?_, fun y hy => ?_⟩
    · by_cases h : a ≤ mxI (b :: r)
      · rw [Int.max_eq_right h]; exact List.mem_cons_of_mem _ h1
      · rw [Int.max_eq_left (by omega)]; exact List.mem_cons_self
    · rcases List.mem_cons.mp hy with z | z
      · subst z; omega
      · have := h2 y z; omega
theorem mnI_ok : ∀ {ns : List Int}, 0 < ns.length → mnI ns ∈ ns ∧ ∀ y ∈ ns, mnI ns ≤ y
  | [a], _ => ⟨by simp [mnI], by simp [mnI]⟩
  | a :: b :: r, _ => by
    obtain ⟨h1, h2⟩ := mnI_ok (ns := b :: r) (by simp)
    rw [mnI]
    refine ⟨?_, fun y hy => ?_⟩
    · by_cases h : a ≤ mnI (b :: r)
      · rw [Int.min_eq_left h]; exact List.mem_cons_self
      · rw [Int.min_eq_right (by omega)]; exact List.mem_cons_of_mem _ h1
    · rcases List.mem_cons.mp hy with z | z
      · subst z; omega
      · have := h2 y z; omega
theorem Rel.vInts {Z : Rsc} {P : Pm} {R H : Hp} {as : List Addr} {G : Env} {m : Sto} {σ : L2.St} {v : V} {d : Dv} {ts : List Tr} {ns : List Int} (r : Rel K mg Z P R as G m σ H) (h : DRep K mg R P.hd as v d) (e : view m d = some (.lst ts)) (e2 : intsOf ts = some ns) :
    ∃ a, v = .ref a ∧ SqL K H a (ns.map V.int) := by
  obtain ⟨a, xs, rfl, hx, rx⟩ := r.vLst h e
  rw [intsOf_eq e2] at rx
  rw [reps_ints rx] at hx
  exact ⟨a, rfl, .of hx⟩
def fSum : OC := fun m ds k => ∃ d ts ns, ds = [d] ∧ view m d = some (.lst ts) ∧ intsOf ts = some ns ∧ k (.t (.int ns.sum))
def fMaxL : OC := fun m ds k => ∃ d ts ns, ds = [d] ∧ view m d = some (.lst ts) ∧ intsOf ts = some ns ∧ 0 < ns.length ∧ k (.t (.int (mxI ns)))
def fMinL : OC := fun m ds k => ∃ d ts ns, ds = [d] ∧ view m d = some (.lst ts) ∧ intsOf ts = some ns ∧ 0 < ns.length ∧ k (.t (.int (mnI ns)))
theorem lo_sum : LoC K mg (rSum K) fSum := by
  rintro Z P R as G m σ H vs ds k Q r h ⟨d, ts, ns, rfl, e1, e2, q⟩ nn
  obtain ⟨v, rfl, dv⟩ := pone h
  obtain ⟨a, rfl, hx⟩ := r.vInts dv e1 e2
  exact ⟨a, ns, rfl, hx, nn _ _ R H q .refl r (.t (.int _))⟩
theorem lo_maxL : LoC K mg (rMax K) fMaxL := by
  rintro Z P R as G m σ H vs ds k Q r h ⟨d, ts, ns, rfl, e1, e2, hz, q⟩ nn
  obtain ⟨v, rfl, dv⟩ := pone h
  obtain ⟨a, rfl, hx⟩ := r.vInts dv e1 e2
  refine ⟨a, ns, rfl, hx, hz, fun y h1 h2 => nn (.t (.int (mxI ns))) _ R H q .refl r (.t ?_)⟩
  obtain ⟨g1, g2⟩ := mxI_ok hz
  have e : y = mxI ns := Int.le_antisymm (g2 y h1) (h2 _ g1)
  rw [e]
  exact .int _
theorem lo_minL : LoC K mg (rMin K) fMinL := by
  rintro Z P R as G m σ H vs ds k Q r h ⟨d, ts, ns, rfl, e1, e2, hz, q⟩ nn
  obtain ⟨v, rfl, dv⟩ := pone h
  obtain ⟨a, rfl, hx⟩ := r.vInts dv e1 e2
  refine ⟨a, ns, rfl, hx, hz, fun y h1 h2 => nn (.t (.int (mnI ns))) _ R H q .refl r (.t ?_)⟩
  obtain ⟨g1, g2⟩ := mnI_ok hz
  have e : y = mnI ns := Int.le_antisymm (h2 _ g1) (g2 y h1)
  rw [e]
  exact .int _
/-- int(n), int(flag) -/
def fInt : OC := fun m ds k => ∃ d, ds = [d] ∧ ((∃ i, view m d = some (.int i) ∧ k (.t (.int i))) ∨ ∃ b, view m d = some (.bl b) ∧ k (.t (.int (if b then 1 else 0))))
theorem lo_int : LoC K mg (fun xs H Q => (∃ i, xs = [.int i] ∧ Q (.int i) H) ∨ ∃ k, xs = [.bl k] ∧ Q (.int (if k then 1 else 0)) H) fInt := by
  rintro Z P R as G m σ H vs ds k Q r h ⟨d, rfl, ⟨i, e1, q⟩ | ⟨b, e1, q⟩⟩ nn
  · obtain ⟨v, rfl, dv⟩ := pone h
    rw [r.vInt dv e1]
    exact .inl ⟨i, rfl, nn _ _ R H q .refl r (.t (.int _))⟩
  · obtain ⟨v, rfl, dv⟩ := pone h
    rw [r.vBl dv e1]
    exact .inr ⟨b, rfl, nn _ _ R H q .refl r (.t (.int _))⟩
/-- list(xs), tuple(xs): new known ones -/
def fList : OC := fun m ds k => ∃ d ts, ds = [d] ∧ (view m d = some (.lst ts) ∨ view m d = some (.tup ts)) ∧ k (.t (.lst ts))
theorem lo_list : LoC K mg (fun xs H Q => ∃ p ys, xs = [.ref p] ∧ (SqL K H p ys ∨ SqT K H p ys) ∧ ∀ l, H l = none → Q (.ref l) (upd H l (.lst ys))) fList := by
  rintro Z P R as G m σ H vs ds k Q r h ⟨d, ts, rfl, e1, q⟩ nn
  obtain ⟨v, rfl, dv⟩ := pone h
  rcases e1 with e1 | e1
  · obtain ⟨a, xs, rfl, hx, rx⟩ := r.vLst dv e1
    refine ⟨a, xs, rfl, .inl (.of hx), fun p hp => ?_⟩
    obtain ⟨r', n'⟩ := r.laid (o := .lst xs) hp
    exact nn _ _ _ _ q n' r' (.t (.lstP upd_same (Reps.mono n'.r rx)))
  · obtain ⟨a, xs, rfl, hx, rx⟩ := r.vTup dv e1
    refine ⟨a, xs, rfl, .inr (.of hx), fun p hp => ?_⟩
    obtain ⟨r', n'⟩ := r.laid (o := .lst xs) hp
    exact nn _ _ _ _ q n' r' (.t (.lstP upd_same (Reps.mono n'.r rx)))
def fTuple : OC := fun m ds k => ∃ d ts, ds = [d] ∧ view m d = some (.lst ts) ∧ k (.t (.tup ts))
theorem lo_tuple : LoC K mg (fun xs H Q => ∃ p ys, xs = [.ref p] ∧ ((SqL K H p ys ∧ ∀ l, H l = none → Q (.ref l) (upd H l (.tup ys))) ∨ (SqT K H p ys ∧ Q (.ref p) H))) fTuple := by
  rintro Z P R as G m σ H vs ds k Q r h ⟨d, ts, rfl, e1, q⟩ nn
  obtain ⟨v, rfl, dv⟩ := pone h
  obtain ⟨a, xs, rfl, hx, rx⟩ := r.vLst dv e1
  refine ⟨a, xs, rfl, .inl ⟨.of hx, fun p hp => ?_⟩⟩
  obtain ⟨r', n'⟩ := r.laid (o := .tup xs) hp
  exact nn _ _ _ _ q n' r' (.t (.tupP upd_same (Reps.mono n'.r rx)))
def fStrI : OC := fun m ds k => ∃ d i, ds = [d] ∧ view m d = some (.int i) ∧ i.natAbs.log2 < 1920 ∧ k (.t (.str (toString i)))
theorem lo_strI : LoC K mg (fun xs H Q => ∃ i, xs = [.int i] ∧ i.natAbs.log2 < 1920 ∧ Q (.str (toString i)) H) fStrI := by
  rintro Z P R as G m σ H vs ds k Q r h ⟨d, i, rfl, e1, hz, q⟩ nn
  obtain ⟨v, rfl, dv⟩ := pone h
  rw [r.vInt dv e1]
  exact ⟨i, rfl, hz, nn _ _ R H q .refl r (.t (.str _))⟩
/-- the built-in class of data -/
def kindT : Tr → Option String
  | .non => some "NoneType" | .bl _ => some "bool" | .int _ => some "int" | .str _ => some "str"
  | .lst _ => some "list" | .tup _ => some "tuple" | .dic _ => some "dict"
  | _ => none
/-- isinstance(x, T), T a built-in class -/
def fIsi (T : String) : OC := fun m ds k => ∃ d x kd b, ds = [d, .t (.ty T)] ∧ view m d = some x ∧ kindT x = some kd ∧ kitB kd T = some b ∧ k (.t (.bl b))
theorem lo_isi (T : String) : LoC K mg (rIsi K) (fIsi T) := by
  rintro Z P R as G m σ H vs ds k Q r h0 ⟨d, x, kd, b, rfl, e1, e2, e3, q⟩ nn
  obtain ⟨v, w, rfl, dv, dw⟩ := ptwo h0
  cases dw with
  | t rw' =>
    cases rw' with
    | ty n =>
      have q0 := r.repd dv e1
      have ty : TyX K H v (.type kd) := by
        cases q0 with
        | non => cases e2; exact .base .non
        | bl b => cases e2; exact .base (.bl b)
        | int i => cases e2; exact .base (.int i)
        | str s => cases e2; exact .base (.str s)
        | ty n => cases e2
        | cls h => cases e2
        | scr h => cases e2
        | lst h l f => cases e2; exact .base (.lst h)
        | tup h l f => cases e2; exact .base (.tup h)
        | dic h l f =>
          cases e2
          rcases h with h | ⟨o, h⟩
          · exact .base (.dK h)
          · exact .fDict h
        | ins m h l f => cases e2
        | exc m h => cases e2
      exact ⟨v, .ty T, _, _, b, rfl, .ty T, ty, kit_ty e3, nn _ _ R H q .refl r (.t (.bl _))⟩
end
end VL

/-! VL, part J: promises of defs, calls of them. -/
namespace VL
open PySem L2

/-- a def's promise by values: from its arguments, what is wanted of the answer, of an exception -/
abbrev VSp := List Dv → (Tr → Prop) → XK → Prop
def liftS (K : PySem.W.Frag) (mg : Str → Option Value) (Z : Rsc) (n : Nat) (sp : VSp) : Sp := fun vs H Q E => vs.length = n ∧ ∃ P R ds k x, P.H0 = H ∧ P.R0 = R ∧ (∀ a, ¬ P.mu a) ∧ Rel K mg Z P R [] [] [] [] H ∧ Paired (DRep K mg R P.hd []) vs ds ∧ sp ds k x ∧
  (∀ y v R' H', k y → Rel K mg Z P R' [] [] [] [] H' → Rep K mg R' v y → Q v H') ∧ ∀ nm cl R' H', x nm → mg nm = some cl → Rel K mg Z P R' [] [] [] [] H' → E cl none H'

def blank (n : Nat) : Sto := List.replicate n none
def startG (N : List Str) (ds : List Dv) : Env := ds.map some ++ List.replicate (N.length - ds.length) none

section
variable {K : PySem.W.Frag} {mg : Str → Option Value} {Z : Rsc} {P : Pm} {R R' H H' : Hp} {as : List Addr} {G : Env} {m : Sto} {σ : L2.St}
theorem rep_as {hd : Nat → Addr} {v : V} {d : Dv} (h : DRep K mg R hd [] v d) (as : List Addr) : DRep K mg R hd as v d := by
  cases h with
  | t h => exact .t h
  | loc h => simp at h
  | hnd i => exact .hnd i
/-- the state at a def's beginning -/
theorem Rel.begin {N : List Str} {vs : List V} {ds : List Dv} (n : Nat) (hz : Z.n0 = 0) (r : Rel K mg Z P R [] [] [] [] H) (h : Paired (DRep K mg R P.hd []) vs ds) (hl : vs.length ≤ N.length) : Rel K mg Z P R (List.replicate n 0) (startG N ds) (blank n) (L2.start N vs) H :=
  { r with
    len := by
      have e := Paired.length h
      unfold startG L2.start
      simp only [List.length_append, List.length_map, List.length_replicate]
      omega
    env := fun i d e => by
      have el := Paired.length h
      unfold startG at e
      by_cases hi : i < ds.length
      · rw [List.getElem?_append_left (by simpa using hi), List.getElem?_map] at e
        cases q : ds[i]? with
        | none => rw [q] at e; cases e
        | some d' =>
          rw [q] at e
          cases e
          have hv : i < vs.length := by omega
          refine ⟨vs[i], ?_, rep_as (paired_at h i _ _ (List.getElem?_eq_getElem hv) q) _⟩
          unfold L2.start
          rw [List.getElem?_append_left (by simpa using hv), List.getElem?_map, List.getElem?_eq_getElem hv]
          rfl
      · rw [List.getElem?_append_right (by simpa using hi), List.getElem?_replicate] at e
        split at e <;> cases e
    sto := fun j x e => by
      unfold blank at e
      rw [List.getElem?_replicate] at e
      split at e <;> cases e
    inj := fun j k x y a e => by
      unfold blank at e
      rw [List.getElem?_replicate] at e
      split at e <;> cases e
    la := by unfold blank; rw [List.length_replicate, List.length_replicate]
    pre := fun j hj => by omega }
/-- nothing but the heap -/
theorem Rel.bare (hz : Z.n0 = 0) (r : Rel K mg Z P R as G m σ H) : Rel K mg Z P R [] [] [] [] H :=
  { r with len := rfl, env := fun i d e => by simp at e, sto := fun j x e => by simp at e, inj := fun j k x y a e => by simp at e, la := rfl, pre := fun j hj => by omega }
end

def W0 : WX := fun _ _ _ _ => False
section
variable {Pg : Program} {w : World} {K : PySem.W.Frag} {mg : Str → Option Value} {base : Heap}
/-- a def that raises nothing, by its body's reading -/
theorem fun_S {x qual : Str} {st : Stmt} {f : Addr} {fd : FuncData} {N ps : List Str} {k : Nat} (Z : Rsc) (hz : Z.n0 = 0) {sp : VSp} {u : VS} (nst : Nat) (F : Fun K x qual st f fd) (S : FnScope N ps (defScope st))
    (body : ∀ (cdv : Value) (A : Around) (outer : List PySem.Env) (s : Shared) (H : Hp) (E : L2.XK), Room k (A.deeper (PyProof.Rows.envOfC qual (defScope st) s.heap.objs.size f cdv)) →
      PSs (cxOf CX0 Pg w K mg base N qual (defScope st) f cdv A outer s H E).nox (defBody st) (LS K mg Z W0 u))
    (hu : ∀ ds k x, ds.length = ps.length → sp ds k x → u (fun _ _ => k .non) (fun d _ => ∃ y, d = .t y ∧ k y) (fun _ _ => False) (fun _ _ => False) (fun _ _ _ => False) (startG N ds) (blank nst)) :
    FnOk Pg w K mg base CX0 (k + 1) f fd ps (liftS K mg Z ps.length sp) := by
  have hpl : ps.length ≤ N.length := by have := congrArg List.length S.pre; rw [List.length_take] at this; omega
  refine F.ok S (fun vs H Q E h => h.1) (fun cdv A outer s H vs Q E hr h => ⟨_, body cdv A outer s H E hr, ?_⟩)
  obtain ⟨hl, P, R, ds, k, x, e0, e1, e2, r, rv, hs, hq, he⟩ := h
  refine ⟨P, R, _, startG N ds, blank nst, _, _, _, _, _, r.begin nst hz rv (by omega), hu ds k x (by rw [← Paired.length rv]; exact hl) hs, ?_⟩
  exact ⟨fun G m R as σ H' a b => hq .non .non R H' a (b.bare hz) .non, fun d m v R as G σ H' ⟨y, ed, a⟩ b c => by
    subst ed
    cases c with
    | t c => exact hq y v R H' a (b.bare hz) c, fun _ _ _ _ _ _ a _ => a, fun _ _ _ _ _ _ a _ => a, fun _ _ _ _ _ _ _ _ a => a.elim⟩
/-- a def that may raise -/
theorem fun_X {x qual : Str} {st : Stmt} {f : Addr} {fd : FuncData} {N ps : List Str} {k : Nat} (Z : Rsc) (hz : Z.n0 = 0) {sp : VSp} {u : VS} (nst : Nat) (F : Fun K x qual st f fd) (S : FnScope N ps (defScope st))
    (body : ∀ (cdv : Value) (A : Around) (outer : List PySem.Env) (s : Shared) (H : Hp) (E : L2.XK), Room k (A.deeper (PyProof.Rows.envOfC qual (defScope st) s.heap.objs.size f cdv)) →
      PSs (cxOf (L2.CX Pg w) Pg w K mg base N qual (defScope st) f cdv A outer s H E) (defBody st) (LS K mg Z (fun cls d _ H => E cls d H) u))
    (hu : ∀ ds k x, ds.length = ps.length → sp ds k x → u (fun _ _ => k .non) (fun d _ => ∃ y, d = .t y ∧ k y) (fun _ _ => False) (fun _ _ => False) (fun n _ _ => x n) (startG N ds) (blank nst)) :
    FnOk Pg w K mg base (L2.CX Pg w) (k + 1) f fd ps (liftS K mg Z ps.length sp) := by
  have hpl : ps.length ≤ N.length := by have := congrArg List.length S.pre; rw [List.length_take] at this; omega
  refine F.okX S (fun vs H Q E h => h.1) (fun cdv A outer s H vs Q E hr h => ⟨_, body cdv A outer s H E hr, ?_⟩)
  obtain ⟨hl, P, R, ds, k, x, e0, e1, e2, r, rv, hs, hq, he⟩ := h
  refine ⟨P, R, _, startG N ds, blank nst, _, _, _, _, _, r.begin nst hz rv (by omega), hu ds k x (by rw [← Paired.length rv]; exact hl) hs, ?_⟩
  exact ⟨fun G m R as σ H' a b => hq .non .non R H' a (b.bare hz) .non, fun d m v R as G σ H' ⟨y, ed, a⟩ b c => by
    subst ed
    cases c with
    | t c => exact hq y v R H' a (b.bare hz) c, fun _ _ _ _ _ _ a _ => a, fun _ _ _ _ _ _ a _ => a, fun nm cl m R as G σ H' a b c => he nm cl R H' a b (c.bare hz)⟩
end

/-! ### calls -/
/-- arguments: all known, or borrowed for the call -/
def allT : List Dv → Bool
  | [] => true
  | .loc _ :: _ => false
  | _ :: r => allT r
def bors (m : Sto) : List Dv → Option (List Dv)
  | [] => some []
  | .hnd i :: r => (bors m r).map (.hnd i :: ·)
  | d :: r => (viewD m d).bind fun x => (bors m r).map (.t x :: ·)
abbrev vCall (sp : VSp) (es : VA) : VE := fun G m k x => es G m (fun ds => (allT ds = true ∧ sp ds (fun y => k (.t y)) x) ∨ ∃ ds', bors m ds = some ds' ∧ sp ds' (fun y => y.flat = true ∧ k (.t y)) x) x
section
variable {K : PySem.W.Frag} {mg : Str → Option Value} {Z Z' : Rsc} {W : WX} {P : Pm} {R R' H H' : Hp} {as : List Addr} {G : Env} {m : Sto} {σ : L2.St}
theorem allT_rep {hd : Nat → Addr} : ∀ {vs : List V} {ds : List Dv}, Paired (DRep K mg R hd as) vs ds → allT ds = true → Paired (DRep K mg R hd []) vs ds
  | _, _, .nil, _ => .nil
  | _, _, .cons r t, h => by
    cases r with
    | t q => exact .cons (.t q) (allT_rep t h)
    | hnd i => exact .cons (.hnd i) (allT_rep t h)
    | loc q => cases h
/-- the heap as it is, all known but the ambient -/
noncomputable def around (P : Pm) (H : Hp) : Hp := fun a => open Classical in if P.B a then none else H a
theorem around_same (P : Pm) (H : Hp) : Same (around P H) H := fun a o e => by
  unfold around at e
  split at e
  · cases e
  · exact e
theorem around_of {P : Pm} {H : Hp} {a : Addr} {o : HO} (e : H a = some o) (n : ¬ P.B a) : around P H a = some o := by
  unfold around
  rw [if_neg n]
  exact e
theorem Rel.same_around (r : Rel K mg Z P R as G m σ H) : Same R (around P H) := fun a o e => around_of (r.ex a o e) fun b => by rw [r.rb a b] at e; cases e
theorem Rel.repA {v : V} {d : Dv} {x : Tr} (r : Rel K mg Z P R as G m σ H) (q : DRep K mg R P.hd as v d) (e : viewD m d = some x) : Rep K mg (around P H) v x := by
  cases q with
  | t q => cases e; exact q.mono r.same_around
  | hnd i => cases e
  | @loc j a h => exact (see_rep (S := fun _ => True) r.same_around (fun j y hy _ => let ⟨a, h1, h2, _, h4, _⟩ := r.sto j y hy; ⟨a, h1, h2, fun _ q => around_of q h4⟩) 12).1 (.at j) _ _ (.s h) e fun _ _ => trivial
theorem bors_rep (r : Rel K mg Z P R as G m σ H) {vs : List V} {ds : List Dv} (h0 : Paired (DRep K mg R P.hd as) vs ds) : ∀ {ds' : List Dv}, bors m ds = some ds' → Paired (DRep K mg (around P H) P.hd []) vs ds' := by
  induction h0 with
  | nil => intro ds' h; simp [bors] at h; subst h; exact .nil
  | @cons v d l1 l2 q t ih =>
    intro ds' h
    have gen : ∀ d : Dv, DRep K mg R P.hd as v d → ((viewD m d).bind fun x => (bors m l2).map (.t x :: ·)) = some ds' → Paired (DRep K mg (around P H) P.hd []) (v :: l1) ds' := fun d q h => by
      cases e0 : viewD m d with
      | none => rw [e0] at h; cases h
      | some x =>
        rw [e0, Option.bind_some] at h
        cases e : bors m l2 with
        | none => rw [e] at h; cases h
        | some us => rw [e] at h; cases h; exact .cons (.t (r.repA q e0)) (ih e)
    cases d with
    | t y => exact gen _ q h
    | loc j => exact gen _ q h
    | hnd i =>
      have h : (bors m l2).map (.hnd i :: ·) = some ds' := h
      cases e : bors m l2 with
      | none => rw [e] at h; cases h
      | some us => rw [e] at h; cases h; cases q; exact .cons (.hnd i) (ih e)
theorem callS {sp : VSp} {es : VA} {n : Nat} (hZ : Z'.Z = Z.Z) (hz : Z'.n0 = 0) (hn : ∀ ds k x, sp ds k x → ds.length = n) : ∀ σ H Q, LE K mg Z W (vCall sp es) σ H Q → tCallS (liftS K mg Z' n sp) (WE W) (LA K mg Z W es) σ H Q :=
  fun σ H Q ⟨P, R, as, G, m, k, x, r, h, nn⟩ => LA.go r h (fun ds vs R1 H1 h1 n1 r1 d1 => by
    have bare : ∀ Rn : Hp, Same Rn H1 → (∀ a, P.B a → Rn a = none) → Rel K mg Z' ⟨H1, Rn, fun _ => False, P.hd, P.B, []⟩ Rn [] [] [] [] H1 := fun Rn h1 h2 =>
      ⟨h1, rfl, fun i d e => by simp at e, fun j x e => by simp at e, fun j k x y a e => by simp at e, by rw [hZ]; exact r1.vol, h2, fun a o e _ _ => e, fun a e => e, fun a e => .inl e, Same.refl _, rfl, fun j hj => by omega⟩
    have back : ∀ {Rn R2 H2 : Hp}, Rel K mg Z' ⟨H1, Rn, fun _ => False, P.hd, P.B, []⟩ R2 [] [] [] [] H2 → (∀ a o, ¬ P.B a → H1 a = some o → H2 a = some o) ∧ (∀ a, H1 a ≠ none → H2 a ≠ none) ∧ Z.Z H2 P.hd P.B := fun {Rn R2 H2} q =>
      ⟨fun a o hb e => q.frame a o e (fun z => z) hb, q.dom, by rw [← hZ]; exact q.vol⟩
    rcases h1 with ⟨h1, h2⟩ | ⟨ds', h1, h2⟩
    · have fin : ∀ {R2 H2 : Hp}, Rel K mg Z' ⟨H1, R1, fun _ => False, P.hd, P.B, []⟩ R2 [] [] [] [] H2 → Nx P R1 H1 R2 H2 ∧ Rel K mg Z P R2 as G m σ H2 := fun {R2 H2} q => by
        obtain ⟨b1, b2, b3⟩ := back q
        have nx : Nx P R1 H1 R2 H2 := ⟨q.r0, b1, q.fresh, b2⟩
        exact ⟨nx, r1.step nx q.ex b3⟩
      refine ⟨by rw [Paired.length d1]; exact hn _ _ _ h2, _, R1, ds, _, x, rfl, rfl, fun _ z => z, bare R1 r1.ex r1.rb, allT_rep d1 h1, h2, fun y v R2 H2 hk q rv => ?_, fun nm cl R2 H2 a b q => ?_⟩
      · obtain ⟨nx, r2⟩ := fin q
        exact nn.ok _ _ _ _ hk (n1.trans nx) r2 (.t rv)
      · obtain ⟨nx, r2⟩ := fin q
        exact nn.er nm cl _ _ a b (n1.trans nx) r2
    · have fin : ∀ {R2 H2 : Hp}, Rel K mg Z' ⟨H1, around P H1, fun _ => False, P.hd, P.B, []⟩ R2 [] [] [] [] H2 → Nx P R1 H1 R1 H2 ∧ Rel K mg Z P R1 as G m σ H2 := fun {R2 H2} q => by
        obtain ⟨b1, b2, b3⟩ := back q
        have nx : Nx P R1 H1 R1 H2 := ⟨Same.refl _, b1, fun a e => .inl e, b2⟩
        exact ⟨nx, r1.step nx (fun a o e => b1 a o (fun b => by rw [r1.rb a b] at e; cases e) (r1.ex a o e)) b3⟩
      refine ⟨(Paired.length (bors_rep r1 d1 h1)).trans (hn _ _ _ h2), _, around P H1, ds', _, x, rfl, rfl, fun _ z => z, bare _ (around_same P H1) (fun a b => by unfold around; rw [if_pos b]), bors_rep r1 d1 h1, h2, fun y v R2 H2 hk q rv => ?_, fun nm cl R2 H2 a b q => ?_⟩
      · obtain ⟨nx, r2⟩ := fin q
        exact nn.ok _ _ _ _ hk.2 (n1.trans nx) r2 (.t (rv.flat hk.1))
      · obtain ⟨nx, r2⟩ := fin q
        exact nn.er nm cl _ _ a b (n1.trans nx) r2) nn.er
end
section
variable {X : Cx} {Z Z' : Rsc} {W : WX} {CX : CXT} {k : Nat} {f : Addr} {fd : FuncData} {ps : List Str} {sp : VSp} {x : Str} {p pos : Pos} {e : Expr} {es : List Expr} {va : VA}
theorem v_call (F : FnOk X.prog X.w X.K X.mg X.base CX k f fd ps (liftS X.K X.mg Z' ps.length sp)) (hZ : Z'.Z = Z.Z) (hz : Z'.n0 = 0) (hn : ∀ ds k x, sp ds k x → ds.length = ps.length) (hr : Room k X.A) (hg : Gl X x) (hm : X.mg x = some (.ref f)) (hk : PySem.W.keepIn X.K (.ref f) = true) (hb : Binds X.K fd ps []) (hx : ∀ σ, PassesAt CX X σ (WE W σ))
    (ha : PA X (e :: es) (LA X.K X.mg Z W va)) (hdb : (x == ("__debug__" : Str)) = false := by decide) (he : starEach (e :: es) X.env = (false, eval e X.env) :: starEach es X.env := by rfl) (hpl : (backTo pos (starEach es X.env)).any (·.1) = false := by rfl) :
    PE X (.Call (.Name x p) (e :: es) [] pos) (LE X.K X.mg Z W (vCall sp va)) := PE.imp (pe_callS F hr hg hm hk hb hx ha hdb he hpl) (callS hZ hz hn)
theorem pas0 {X : Cx} {W : WX} (σ : L2.St) : PassesAt CX0 X σ (WE W σ) := fun _ _ _ _ _ _ h => h.elim
theorem pasX {X : Cx} {W : WX} (tk : Takes X W) (σ : L2.St) : PassesAt (L2.CX X.prog X.w) X σ (WE W σ) := passAt tk σ
theorem pasN {X : Cx} (σ : L2.St) : PassesAt (L2.CX X.prog X.w) X σ (WE W0 σ) := passAt takes0 σ
end
end VL

/-! VL, part K: steps of a reading, one by one. -/
namespace VL
open PySem L2

section
variable {G : Env} {m : Sto} {k : DK} {x : XK} {nx : SK} {rt : RK} {bk ct : SK} {ex : XS}
theorem st_seq {a b : VS} (h : a (fun G' m' => b nx rt bk ct ex G' m') rt bk ct ex G m) : vSeq a b nx rt bk ct ex G m := h
theorem st_next (h : nx G m) : vNext nx rt bk ct ex G m := h
theorem st_brk (h : bk G m) : vBrk nx rt bk ct ex G m := h
theorem st_cnt (h : ct G m) : vCnt nx rt bk ct ex G m := h
theorem st_drop {e : VE} (h : e G m (fun _ => nx G m) (fun n => ex n G m)) : vDrop e nx rt bk ct ex G m := h
theorem st_ret {e : VE} (h : e G m (fun d => rt d m) (fun n => ex n G m)) : vRet e nx rt bk ct ex G m := h
theorem st_retN (h : rt (.t .non) m) : vRetN nx rt bk ct ex G m := h
theorem st_if {t : VT} {a b : VS} (h : t G m (fun c => (c = true → a nx rt bk ct ex G m) ∧ (c = false → b nx rt bk ct ex G m)) (fun n => ex n G m)) : vIfS t a b nx rt bk ct ex G m := h
theorem st_set {i : Nat} {e : VE} (h : e G m (fun d => nx (G.set i (some d)) m) (fun n => ex n G m)) : vSet i e nx rt bk ct ex G m := h
theorem st_asg {e : VE} {g : VG} (h : e G m (fun d => ∃ t, d = .t t ∧ g t G (fun G' => nx G' m)) (fun n => ex n G m)) : vAsg e g nx rt bk ct ex G m := h
theorem st_par {i j : Nat} {es : VA} (h : es G m (fun ds => ∃ d e, ds = [d, e] ∧ nx ((G.set i (some d)).set j (some e)) m) (fun n => ex n G m)) : vPar i j es nx rt bk ct ex G m := h
theorem st_aug {i : Nat} {f : O2} {e : VE} {d0 : Dv} (h0 : G[i]? = some (some d0)) (h : e G m (fun d => f m d0 d (fun z => nx (G.set i (some z)) m)) (fun n => ex n G m)) : vAug i f e nx rt bk ct ex G m := ⟨d0, h0, h⟩
theorem st_frz {j : Nat} {u : VS} {t : Tr} (h0 : view m (.loc j) = some t) (h : u nx rt bk ct ex (G.map (frzD j t)) (m.set j none)) : vFrz j u nx rt bk ct ex G m := by
  obtain ⟨h1, h2⟩ := see_view h0
  exact ⟨t, h1, by rw [h2]; simp, by rw [h2]; exact h⟩
theorem st_frzD {j : Nat} {u : VS} {t : Tr} {l : List Nat} (h0 : see m 12 (.at j) = some t) (h1 : reach m 12 (.at j) = l) (h2 : l.all (j ≤ ·) = true) (h : u nx rt bk ct ex (G.map (frzD j t)) (wipeM m l)) : vFrz j u nx rt bk ct ex G m := ⟨t, h0, by rw [h1]; exact h2, by rw [h1]; exact h⟩
theorem st_forget {is : List Nat} {u : VS} (h : u nx rt bk ct ex (is.foldl (fun g i => g.set i none) G) m) : vForget is u nx rt bk ct ex G m := h
theorem st_newL {i j : Nat} {es : VA} (h : es G m (fun ds => ∃ ts, unT ds = some ts ∧ ts.length ≤ sizeLine ∧ j < m.length ∧ noRef j m (G.set i none) = true ∧ nx (G.set i (some (.loc j))) (m.set j (some (.lst ts)))) (fun n => ex n G m)) : vNewL i j es nx rt bk ct ex G m := h
theorem st_newD {i j : Nat} (h1 : j < m.length) (h2 : noRef j m (G.set i none) = true) (h : nx (G.set i (some (.loc j))) (m.set j (some (.dic [])))) : vNewD i j nx rt bk ct ex G m := ⟨h1, h2, h⟩
theorem st_app {o e : VE} (h : o G m (fun d => ∃ j ts, d = .loc j ∧ m[j]? = some (some (.lst ts)) ∧ e G m (fun y => ∃ t, y = .t t ∧ ts.length < sizeLine ∧ nx G (m.set j (some (.lst (ts ++ [t]))))) (fun n => ex n G m)) (fun n => ex n G m)) : vApp o e nx rt bk ct ex G m := h
theorem st_app2 {e : VE} {j : Nat} {ts : List Tr} {K2 : Dv → List Tr → Prop} (h : m[j]? = some (some (.lst ts))) {A : Nat → List Tr → Prop} (q : A j ts) : ∃ j' ts', Dv.loc j = .loc j' ∧ m[j']? = some (some (.lst ts')) ∧ A j' ts' := ⟨j, ts, rfl, h, q⟩
theorem st_setI {o i e : VE} (h : e G m (fun y => ∃ t, y = .t t ∧ o G m (fun d => i G m (fun d2 => fSetI (fun m' => nx G m') m d d2 t) (fun n => ex n G m)) (fun n => ex n G m)) (fun n => ex n G m)) : vSetI o i e nx rt bk ct ex G m := h
theorem st_setIL {nx : Sto → Prop} {j : Nat} {ts : List Tr} {i : Dv} {n : Int} {q : Nat} {t : Tr} (h1 : m[j]? = some (some (.lst ts))) (h2 : view m i = some (.int n)) (h3 : ixN ts.length n = some q) (h : nx (m.set j (some (.lst (ts.set q t))))) : fSetI nx m (.loc j) i t := ⟨j, rfl, .inl ⟨ts, n, q, h1, h2, h3, h⟩⟩
theorem st_setID {nx : Sto → Prop} {j : Nat} {ts : List (Key × Tr)} {i : Dv} (ky : Key) {t : Tr} (h1 : m[j]? = some (some (.dic ts))) (h2 : view m i = some (kT ky)) (h3 : ts.length < sizeLine) (h : nx (m.set j (some (.dic (putT ts ky t))))) : fSetI nx m (.loc j) i t := ⟨j, rfl, .inr ⟨ts, ky, h1, h2, h3, h⟩⟩
/-! targets -/
theorem st_gName {i : Nat} {t : Tr} {k : Env → Prop} (h : k (G.set i (some (.t t)))) : vgName i t G k := h
theorem st_gNil {k : Env → Prop} (h : k G) : vgNil [] G k := ⟨rfl, h⟩
theorem st_gCons {g : VG} {gs : VGs} {t : Tr} {r : List Tr} {k : Env → Prop} (h : g t G (fun G' => gs r G' k)) : vgCons g gs (t :: r) G k := ⟨t, r, rfl, h⟩
theorem st_gTup {n : Nat} {gs : VGs} {ts : List Tr} {k : Env → Prop} (hl : ts.length = n) (h : gs ts G k) : vgTup n gs (.tup ts) G k := ⟨ts, rfl, hl, h⟩
/-! expressions -/
theorem st_var {i : Nat} {d : Dv} (h : G[i]? = some (some d)) (q : k d) : vVar i G m k x := ⟨d, h, q⟩
theorem st_c {c : Tr} (q : k (.t c)) : vC c G m k x := q
theorem st_op {f : O2} {a b : VE} (h : a G m (fun d => b G m (fun e => f m d e k) x) x) : vOp f a b G m k x := h
theorem st_I {C : Int → Int → Prop} {g : Int → Int → Tr} {d e : Dv} {i j : Int} (h1 : view m d = some (.int i)) (h2 : view m e = some (.int j)) (c : C i j) (q : k (.t (g i j))) : fI C g m d e k := ⟨i, j, h1, h2, c, q⟩
theorem st_I0 {g : Int → Int → Tr} {d e : Dv} {i j : Int} (h1 : view m d = some (.int i)) (h2 : view m e = some (.int j)) (q : k (.t (g i j))) : fI0 g m d e k := ⟨i, j, h1, h2, q⟩
theorem st_sl {f : OS} {e : VE} {lo hi : VO} (h : e G m (fun d => lo G m (fun l => hi G m (fun u => f m d l u k) x) x) x) : vSl f e lo hi G m k x := h
theorem st_oN {k : Option Int → Prop} (h : k none) : voN G m k x := h
theorem st_oS {e : VE} {k : Option Int → Prop} (h : e G m (fun d => ∃ i, view m d = some (.int i) ∧ k (some i)) x) : voS e G m k x := h
theorem st_rev {e : VE} (h : e G m (fun d => ∃ ts, view m d = some (.lst ts) ∧ k (.t (.lst ts.reverse))) x) : vRev e G m k x := h
theorem st_neg {e : VE} (h : e G m (fun d => ∃ i, view m d = some (.int i) ∧ k (.t (.int (-i)))) x) : vNeg e G m k x := h
theorem st_not {e : VE} (h : e G m (fun d => ∃ c, view m d = some (.bl c) ∧ k (.t (.bl (!c)))) x) : vNot e G m k x := h
theorem st_and {a b : VE} (h : a G m (fun d => ∃ c, view m d = some (.bl c) ∧ (c = true → b G m k x) ∧ (c = false → k (.t (.bl false)))) x) : vAnd a b G m k x := h
theorem st_or {a b : VE} (h : a G m (fun d => ∃ c, view m d = some (.bl c) ∧ (c = true → k (.t (.bl true))) ∧ (c = false → b G m k x)) x) : vOr a b G m k x := h
theorem st_ifE {t : VT} {a b : VE} (h : t G m (fun c => (c = true → a G m k x) ∧ (c = false → b G m k x)) x) : vIf t a b G m k x := h
theorem st_ch {f g : O2} {a b c : VE} (h : a G m (fun d => b G m (fun e => f m d e (fun z => ∃ q, view m z = some (.bl q) ∧ (q = true → c G m (fun e2 => g m e e2 k) x) ∧ (q = false → k (.t (.bl false))))) x) x) : vCh f g a b c G m k x := h
theorem st_tB {e : VE} {k : Bool → Prop} (h : e G m (fun d => ∃ b, view m d = some (.bl b) ∧ k b) x) : vtB e G m k x := h
theorem st_tT {e : VE} {k : Bool → Prop} (h : e G m (fun d => ∃ t b, view m d = some t ∧ truT t = some b ∧ k b) x) : vtT e G m k x := h
theorem st_tAnd {a b : VT} {k : Bool → Prop} (h : a G m (fun c => (c = true → b G m k x) ∧ (c = false → k false)) x) : vtAnd a b G m k x := h
theorem st_tOr {a b : VT} {k : Bool → Prop} (h : a G m (fun c => (c = true → k true) ∧ (c = false → b G m k x)) x) : vtOr a b G m k x := h
theorem st_tNot {a : VT} {k : Bool → Prop} (h : a G m (fun c => k (!c)) x) : vtNot a G m k x := h
theorem st_tYes {k : Bool → Prop} (h : k true) : vtYes G m k x := h
theorem st_aNil {k : List Dv → Prop} (h : k []) : vaNil G m k x := h
theorem st_aCons {e : VE} {r : VA} {k : List Dv → Prop} (h : e G m (fun d => r G m (fun ds => k (d :: ds)) x) x) : vaCons e r G m k x := h
theorem st_lst {es : VA} (h : es G m (fun ds => ∃ ts, unT ds = some ts ∧ ts.length ≤ sizeLine ∧ k (.t (.lst ts))) x) : vLst es G m k x := h
theorem st_tup {es : VA} (h : es G m (fun ds => ∃ ts, unT ds = some ts ∧ ts.length ≤ sizeLine ∧ k (.t (.tup ts))) x) : vTup es G m k x := h
theorem st_unT {ds : List Dv} {ts : List Tr} {A : List Tr → Prop} (h : unT ds = some ts) (hz : ts.length ≤ sizeLine) (q : A ts) : ∃ ts', unT ds = some ts' ∧ ts'.length ≤ sizeLine ∧ A ts' := ⟨ts, h, hz, q⟩
theorem st_bl {d : Dv} {b : Bool} {A : Bool → Prop} (h : view m d = some (.bl b)) (q : A b) : ∃ b', view m d = some (.bl b') ∧ A b' := ⟨b, h, q⟩
theorem st_in {d : Dv} {i : Int} {A : Int → Prop} (h : view m d = some (.int i)) (q : A i) : ∃ i', view m d = some (.int i') ∧ A i' := ⟨i, h, q⟩
theorem st_ls {d : Dv} {ts : List Tr} {A : List Tr → Prop} (h : view m d = some (.lst ts)) (q : A ts) : ∃ ts', view m d = some (.lst ts') ∧ A ts' := ⟨ts, h, q⟩
theorem st_tt {t : Tr} {A : Tr → Prop} (q : A t) : ∃ t', Dv.t t = .t t' ∧ A t' := ⟨t, rfl, q⟩
theorem st_de {d e : Dv} {A : Dv → Dv → Prop} (q : A d e) : ∃ d' e', [d, e] = [d', e'] ∧ A d' e' := ⟨d, e, rfl, q⟩
theorem st_CB {f : OC} {es : VA} (h : es G m (fun ds => f m ds k) x) : vCB f es G m k x := h
theorem st_call {sp : VSp} {es : VA} (h : es G m (fun ds => (allT ds = true ∧ sp ds (fun y => k (.t y)) x) ∨ ∃ ds', bors m ds = some ds' ∧ sp ds' (fun y => y.flat = true ∧ k (.t y)) x) x) : vCall sp es G m k x := h
theorem st_callS {sp : VSp} {ds : List Dv} (h : allT ds = true) (q : sp ds (fun y => k (.t y)) x) : (allT ds = true ∧ sp ds (fun y => k (.t y)) x) ∨ ∃ ds', bors m ds = some ds' ∧ sp ds' (fun y => y.flat = true ∧ k (.t y)) x := .inl ⟨h, q⟩
theorem st_callB {sp : VSp} {ds ds' : List Dv} (h : bors m ds = some ds') (q : sp ds' (fun y => y.flat = true ∧ k (.t y)) x) : (allT ds = true ∧ sp ds (fun y => k (.t y)) x) ∨ ∃ ds', bors m ds = some ds' ∧ sp ds' (fun y => y.flat = true ∧ k (.t y)) x := .inr ⟨ds', h, q⟩
/-! a branch -/
theorem br_t {A B : Prop} (h : A) : (true = true → A) ∧ (true = false → B) := ⟨fun _ => h, fun z => by cases z⟩
theorem br_f {A B : Prop} (h : B) : (false = true → A) ∧ (false = false → B) := ⟨(fun z => by cases z), fun _ => h⟩
theorem br_d {c : Prop} [Decidable c] {A B : Prop} (h1 : c → A) (h2 : ¬ c → B) : (decide c = true → A) ∧ (decide c = false → B) := ⟨fun z => h1 (of_decide_eq_true z), fun z => h2 (of_decide_eq_false z)⟩
theorem br_nd {c : Prop} [Decidable c] {A B : Prop} (h1 : ¬ c → A) (h2 : c → B) : ((!decide c) = true → A) ∧ ((!decide c) = false → B) := ⟨fun z => h1 (by simpa using z), fun z => h2 (by simpa using z)⟩
theorem br_n {b : Bool} {A B : Prop} (h : (b = true → B) ∧ (b = false → A)) : ((!b) = true → A) ∧ ((!b) = false → B) := ⟨fun z => h.2 (by simpa using z), fun z => h.1 (by simpa using z)⟩
/-! loops -/
theorem st_for {it : VI} {tg : VG} {body : VS} (h : it G m (fun ts => ∃ I : Nat → Env → Sto → Prop, I 0 G m ∧
  (∀ (i : Nat) t G' m', ts[i]? = some t → I i G' m' → tg t G' (fun G2 => body (I (i + 1)) rt nx (I (i + 1)) ex G2 m')) ∧ ∀ G' m', I ts.length G' m' → nx G' m') (fun n => ex n G m)) : vFor it tg body nx rt bk ct ex G m := h
theorem st_iL {e : VE} {k : List Tr → Prop} (h : e G m (fun d => ∃ ts, (d = .t (.lst ts) ∨ ∃ ns : List Int, d = .t (.scr ns) ∧ ts = ns.map .int) ∧ k ts) x) : viL e G m k x := h
theorem st_iL1 {ts : List Tr} {k : List Tr → Prop} (h : k ts) : ∃ ts', (Dv.t (.lst ts) = .t (.lst ts') ∨ ∃ ns : List Int, Dv.t (.lst ts) = .t (.scr ns) ∧ ts' = ns.map .int) ∧ k ts' := ⟨ts, .inl rfl, h⟩
theorem st_iL2 {ns : List Int} {k : List Tr → Prop} (h : k (ns.map .int)) : ∃ ts', (Dv.t (.scr ns) = .t (.lst ts') ∨ ∃ ns' : List Int, Dv.t (.scr ns) = .t (.scr ns') ∧ ts' = ns'.map .int) ∧ k ts' := ⟨_, .inr ⟨ns, rfl, rfl⟩, h⟩
theorem st_iT {e : VE} {k : List Tr → Prop} (h : e G m (fun d => ∃ ts, d = .t (.tup ts) ∧ k ts) x) : viT e G m k x := h
theorem st_iR1 {e : VE} {k : List Tr → Prop} (h : e G m (fun d => ∃ n : Int, view m d = some (.int n) ∧ -(2 ^ 62) ≤ n ∧ n < 2 ^ 62 ∧ k (rng 0 n.toNat)) x) : viR1 e G m k x := h
theorem st_iR1a {d : Dv} {n : Int} {k : List Tr → Prop} (h : view m d = some (.int n)) (h1 : -(2 ^ 62) ≤ n) (h2 : n < 2 ^ 62) (q : k (rng 0 n.toNat)) : ∃ n : Int, view m d = some (.int n) ∧ -(2 ^ 62) ≤ n ∧ n < 2 ^ 62 ∧ k (rng 0 n.toNat) := ⟨n, h, h1, h2, q⟩
theorem st_iR2 {a b : VE} {k : List Tr → Prop} (h : a G m (fun d => b G m (fun e => ∃ i n : Int, view m d = some (.int i) ∧ view m e = some (.int n) ∧ (-(2 ^ 62) ≤ i ∧ i < 2 ^ 62 ∧ -(2 ^ 62) ≤ n ∧ n < 2 ^ 62) ∧ k (rng i (n - i).toNat)) x) x) : viR2 a b G m k x := h
theorem st_iR2a {d e : Dv} {i n : Int} {k : List Tr → Prop} (h : view m d = some (.int i)) (h' : view m e = some (.int n)) (hb : -(2 ^ 62) ≤ i ∧ i < 2 ^ 62 ∧ -(2 ^ 62) ≤ n ∧ n < 2 ^ 62) (q : k (rng i (n - i).toNat)) : ∃ i n : Int, view m d = some (.int i) ∧ view m e = some (.int n) ∧ (-(2 ^ 62) ≤ i ∧ i < 2 ^ 62 ∧ -(2 ^ 62) ≤ n ∧ n < 2 ^ 62) ∧ k (rng i (n - i).toNat) := ⟨i, n, h, h', hb, q⟩
theorem st_iZip {a b : VE} {k : List Tr → Prop} (h : a G m (fun d => b G m (fun e => ∃ xs ys, d = .t (.lst xs) ∧ e = .t (.lst ys) ∧ k (zipT xs ys)) x) x) : viZip a b G m k x := h
theorem st_iZipa {xs ys : List Tr} {k : List Tr → Prop} (h : k (zipT xs ys)) : ∃ xs' ys', Dv.t (.lst xs) = .t (.lst xs') ∧ Dv.t (.lst ys) = .t (.lst ys') ∧ k (zipT xs' ys') := ⟨xs, ys, rfl, rfl, h⟩
theorem st_iEnum {a : VE} {k : List Tr → Prop} (h : a G m (fun d => ∃ ts, (d = .t (.lst ts) ∨ ∃ ns : List Int, d = .t (.scr ns) ∧ ts = ns.map .int) ∧ k (enumT ts)) x) : viEnum a G m k x := h
theorem st_iStr {a : VE} {k : List Tr → Prop} (h : a G m (fun d => ∃ z, view m d = some (.str z) ∧ k (z.cps.toList.map fun c => .str ⟨#[c]⟩)) x) : viStr a G m k x := h
theorem st_lc {it : VI} {tg : VG} {ts : VT} {el : VE} {vs : List Nat} (h : it G m (fun us => ∃ I : Nat → List Tr → Prop, I 0 [] ∧
  (∀ (i : Nat) t acc, us[i]? = some t → I i acc → tg t (wipeG G vs) (fun G2 => ts G2 m (fun b => (b = true → el G2 m (fun d => ∃ y, d = .t y ∧ acc.length < sizeLine ∧ I (i + 1) (acc ++ [y])) noX) ∧ (b = false → I (i + 1) acc)) noX)) ∧
  ∀ acc, I us.length acc → k (.t (.lst acc))) x) : vLc it tg ts el vs G m k x := h
/-- a comprehension whose elements are known: f of the items that pass -/
theorem lc_map {us : List Tr} {k : DK} {A : Nat → Tr → List Tr → (Nat → List Tr → Prop) → Prop} (f : Tr → Tr) (hz : us.length ≤ sizeLine) (hs : ∀ (i : Nat) t acc, us[i]? = some t → acc.length < sizeLine → ∀ I : Nat → List Tr → Prop, I (i + 1) (acc ++ [f t]) → A i t acc I) (hk : k (.t (.lst (us.map f)))) :
    ∃ I : Nat → List Tr → Prop, I 0 [] ∧ (∀ (i : Nat) t acc, us[i]? = some t → I i acc → A i t acc I) ∧ ∀ acc, I us.length acc → k (.t (.lst acc)) :=
  ⟨fun i acc => acc = (us.take i).map f, by simp, fun i t acc e h => by
    subst h
    obtain ⟨hi, he⟩ := List.getElem?_eq_some_iff.mp e
    refine hs i t _ e (by rw [List.length_map, List.length_take]; omega) _ ?_
    rw [List.take_succ, e]
    simp, fun acc h => by subst h; rw [List.take_length]; exact hk⟩
/-- a while, a dict walked: by hand -/
theorem st_wh {t : VT} {body : VS} (I : Nat → Env → Sto → Prop) (q0 : Nat) (h0 : I q0 G m) (h : ∀ q G' m', I q G' m' →
  t G' m' (fun c => (c = true → body (fun G2 m2 => ∃ q', q' < q ∧ I q' G2 m2) rt nx (fun G2 m2 => ∃ q', q' < q ∧ I q' G2 m2) ex G' m') ∧ (c = false → nx G' m')) (fun n => ex n G' m')) : vWh t body nx rt bk ct ex G m := ⟨I, ⟨q0, h0⟩, h⟩
end
end VL

/-! VL, part L: the rules under short names, operators of several kinds in one. -/
namespace VL
open PySem L2

/-! ### operators -/
def fAdd : O2 := fun m d e k => fI0 (fun i j => .int (i + j)) m d e k ∨ (fCatS m d e k ∨ fCatL m d e k)
def fSub : O2 := fI0 fun i j => .int (i - j)
def CM (i j : Int) : Prop := CMul i j ∨ CMulW i j
def fMul : O2 := fun m d e k => fI CM (fun i j => .int (i * j)) m d e k ∨ fRep m d e k
def fMod : O2 := fI (fun _ j => 0 < j) fun i j => .int (i % j)
def fDiv : O2 := fI CDivW fun i j => .int (i / j)
def fPow : O2 := fI CPow fun i j => .int (i ^ j.toNat)
def fLt : O2 := fI0 fun i j => .bl (decide (i < j))
def fLe : O2 := fI0 fun i j => .bl (decide (i ≤ j))
def fGt : O2 := fI0 fun i j => .bl (decide (j < i))
def fGe : O2 := fI0 fun i j => .bl (decide (j ≤ i))
def fIs : O2 := fun m d e k => fIsN m d e k ∨ fIsB m d e k
def fIsnt : O2 := fun m d e k => fNotN m d e k ∨ fNotB m d e k
def fIdx : O2 := fun m d e k => (fIxDT m d e k ∨ fIxDL m d e k) ∨ (fIxL m d e k ∨ fIxR m d e k) ∨ (fIxT m d e k ∨ (fIxS m d e k ∨ fDGet m d e k))
def fIn' : O2 := fun m d e k => fIn false m d e k ∨ (fInS false m d e k ∨ fDIn m d e k)
def fNotIn' : O2 := fun m d e k => fIn true m d e k ∨ (fInS true m d e k ∨ fDNotIn m d e k)
def fSlc : OS := fun m d l u k => (fSlL m d l u k ∨ fSlR m d l u k) ∨ (fSlT m d l u k ∨ fSlS m d l u k)
section
variable {X : Cx} {Z : Rsc} {W : WX} {a b c : Expr} {ea eb ec : VE} {pos : Pos} {k : Nat}
theorem op_mulA : OpR X (binaryOp .Mult) (rI CM fun i j => .int (i * j)) := opI fun _ _ _ _ _ _ _ hc q => PyProof.Rows.mul_int q (hc.elim (fun h => h.ok) fun h => h.ok)
theorem v_add (ha : PE X a (LE X.K X.mg Z W ea)) (hb : PE X b (LE X.K X.mg Z W eb)) : PE X (.BinOp a .Add b pos) (LE X.K X.mg Z W (vOp fAdd ea eb)) :=
  v_op (op_or op_add (op_or op_add_str op_cat)) ((lo_I0 fun _ _ _ => .int _).or (lo_catS.or lo_catL)) ha hb
theorem v_sub (ha : PE X a (LE X.K X.mg Z W ea)) (hb : PE X b (LE X.K X.mg Z W eb)) : PE X (.BinOp a .Sub b pos) (LE X.K X.mg Z W (vOp fSub ea eb)) := v_op op_sub (lo_I0 fun _ _ _ => .int _) ha hb
theorem v_mul (ha : PE X a (LE X.K X.mg Z W ea)) (hb : PE X b (LE X.K X.mg Z W eb)) : PE X (.BinOp a .Mult b pos) (LE X.K X.mg Z W (vOp fMul ea eb)) := v_op (op_or op_mulA op_rep) ((lo_I fun _ _ _ => .int _).or lo_rep) ha hb
theorem v_mod (ha : PE X a (LE X.K X.mg Z W ea)) (hb : PE X b (LE X.K X.mg Z W eb)) : PE X (.BinOp a .Mod b pos) (LE X.K X.mg Z W (vOp fMod ea eb)) := v_op op_mod (lo_I fun _ _ _ => .int _) ha hb
theorem v_div (ha : PE X a (LE X.K X.mg Z W ea)) (hb : PE X b (LE X.K X.mg Z W eb)) : PE X (.BinOp a .FloorDiv b pos) (LE X.K X.mg Z W (vOp fDiv ea eb)) := v_op op_fdivW (lo_I fun _ _ _ => .int _) ha hb
theorem v_pow (ha : PE X a (LE X.K X.mg Z W ea)) (hb : PE X b (LE X.K X.mg Z W eb)) : PE X (.BinOp a .Pow b pos) (LE X.K X.mg Z W (vOp fPow ea eb)) := v_op op_pow (lo_I fun _ _ _ => .int _) ha hb
theorem l_lt : Lo2 X.K X.mg (rI0 fun i j => .bl (decide (i < j))) fLt := lo_I0 fun _ _ _ => .bl _
theorem l_le : Lo2 X.K X.mg (rI0 fun i j => .bl (decide (i ≤ j))) fLe := lo_I0 fun _ _ _ => .bl _
theorem l_gt : Lo2 X.K X.mg (rI0 fun i j => .bl (decide (j < i))) fGt := lo_I0 fun _ _ _ => .bl _
theorem l_ge : Lo2 X.K X.mg (rI0 fun i j => .bl (decide (j ≤ i))) fGe := lo_I0 fun _ _ _ => .bl _
theorem v_lt (ha : PE X a (LE X.K X.mg Z W ea)) (hb : PE X b (LE X.K X.mg Z W eb)) : PE X (.Compare a [.Lt] [b] pos) (LE X.K X.mg Z W (vOp fLt ea eb)) := v_cmp op_lt l_lt ha hb (nomark _)
theorem v_le (ha : PE X a (LE X.K X.mg Z W ea)) (hb : PE X b (LE X.K X.mg Z W eb)) : PE X (.Compare a [.LtE] [b] pos) (LE X.K X.mg Z W (vOp fLe ea eb)) := v_cmp op_le l_le ha hb (nomark _)
theorem v_gt (ha : PE X a (LE X.K X.mg Z W ea)) (hb : PE X b (LE X.K X.mg Z W eb)) : PE X (.Compare a [.Gt] [b] pos) (LE X.K X.mg Z W (vOp fGt ea eb)) := v_cmp op_gt l_gt ha hb (nomark _)
theorem v_ge (ha : PE X a (LE X.K X.mg Z W ea)) (hb : PE X b (LE X.K X.mg Z W eb)) : PE X (.Compare a [.GtE] [b] pos) (LE X.K X.mg Z W (vOp fGe ea eb)) := v_cmp op_ge l_ge ha hb (nomark _)
theorem v_eq (hr : Room k X.A) (ha : PE X a (LE X.K X.mg Z W ea)) (hb : PE X b (LE X.K X.mg Z W eb)) : PE X (.Compare a [.Eq] [b] pos) (LE X.K X.mg Z W (vOp fEqD ea eb)) := v_cmp (op_eqD hr.units) lo_eqD ha hb (nomark _)
theorem v_ne (hr : Room k X.A) (ha : PE X a (LE X.K X.mg Z W ea)) (hb : PE X b (LE X.K X.mg Z W eb)) : PE X (.Compare a [.NotEq] [b] pos) (LE X.K X.mg Z W (vOp fNeD ea eb)) := v_cmp (op_neD hr.units) lo_neD ha hb (nomark _)
theorem v_is (ha : PE X a (LE X.K X.mg Z W ea)) (hb : PE X b (LE X.K X.mg Z W eb)) : PE X (.Compare a [.Is] [b] pos) (LE X.K X.mg Z W (vOp fIs ea eb)) := v_cmp (op_or op_isN op_isBl) (lo_isN.or lo_isB) ha hb (nomark _)
theorem v_isnot (ha : PE X a (LE X.K X.mg Z W ea)) (hb : PE X b (LE X.K X.mg Z W eb)) : PE X (.Compare a [.IsNot] [b] pos) (LE X.K X.mg Z W (vOp fIsnt ea eb)) := v_cmp (op_or op_notN op_notBl) (lo_notN.or lo_notB) ha hb (nomark _)
theorem v_in (hr : Room k X.A) (ha : PE X a (LE X.K X.mg Z W ea)) (hb : PE X b (LE X.K X.mg Z W eb)) (hm : behindInMarks .In b = false := by rfl) : PE X (.Compare a [.In] [b] pos) (LE X.K X.mg Z W (vOp fIn' ea eb)) := v_cmp (op_or op_in_seq (op_or op_in_sign (op_dIn (hu_of hr)))) ((lo_in false).or (lo_inS.or lo_dIn)) ha hb hm
theorem v_notin (hr : Room k X.A) (ha : PE X a (LE X.K X.mg Z W ea)) (hb : PE X b (LE X.K X.mg Z W eb)) (hm : behindInMarks .NotIn b = false := by rfl) : PE X (.Compare a [.NotIn] [b] pos) (LE X.K X.mg Z W (vOp fNotIn' ea eb)) := v_cmp (op_or op_notIn_seq (op_or op_notIn_sign (op_dNotIn (hu_of hr)))) ((lo_in true).or (lo_notInS.or lo_dNotIn)) ha hb hm
theorem vt_lt (ha : PE X a (LE X.K X.mg Z W ea)) (hb : PE X b (LE X.K X.mg Z W eb)) : PT X (.Compare a [.Lt] [b] pos) (LT X.K X.mg Z W (vtB (vOp fLt ea eb))) := vt_cmp op_lt l_lt ha hb (nomark _)
theorem vt_le (ha : PE X a (LE X.K X.mg Z W ea)) (hb : PE X b (LE X.K X.mg Z W eb)) : PT X (.Compare a [.LtE] [b] pos) (LT X.K X.mg Z W (vtB (vOp fLe ea eb))) := vt_cmp op_le l_le ha hb (nomark _)
theorem vt_gt (ha : PE X a (LE X.K X.mg Z W ea)) (hb : PE X b (LE X.K X.mg Z W eb)) : PT X (.Compare a [.Gt] [b] pos) (LT X.K X.mg Z W (vtB (vOp fGt ea eb))) := vt_cmp op_gt l_gt ha hb (nomark _)
theorem vt_ge (ha : PE X a (LE X.K X.mg Z W ea)) (hb : PE X b (LE X.K X.mg Z W eb)) : PT X (.Compare a [.GtE] [b] pos) (LT X.K X.mg Z W (vtB (vOp fGe ea eb))) := vt_cmp op_ge l_ge ha hb (nomark _)
theorem vt_eq (hr : Room k X.A) (ha : PE X a (LE X.K X.mg Z W ea)) (hb : PE X b (LE X.K X.mg Z W eb)) : PT X (.Compare a [.Eq] [b] pos) (LT X.K X.mg Z W (vtB (vOp fEqD ea eb))) := vt_cmp (op_eqD hr.units) lo_eqD ha hb (nomark _)
theorem vt_ne (hr : Room k X.A) (ha : PE X a (LE X.K X.mg Z W ea)) (hb : PE X b (LE X.K X.mg Z W eb)) : PT X (.Compare a [.NotEq] [b] pos) (LT X.K X.mg Z W (vtB (vOp fNeD ea eb))) := vt_cmp (op_neD hr.units) lo_neD ha hb (nomark _)
theorem vt_is (ha : PE X a (LE X.K X.mg Z W ea)) (hb : PE X b (LE X.K X.mg Z W eb)) : PT X (.Compare a [.Is] [b] pos) (LT X.K X.mg Z W (vtB (vOp fIs ea eb))) := vt_cmp (op_or op_isN op_isBl) (lo_isN.or lo_isB) ha hb (nomark _)
theorem vt_isnot (ha : PE X a (LE X.K X.mg Z W ea)) (hb : PE X b (LE X.K X.mg Z W eb)) : PT X (.Compare a [.IsNot] [b] pos) (LT X.K X.mg Z W (vtB (vOp fIsnt ea eb))) := vt_cmp (op_or op_notN op_notBl) (lo_notN.or lo_notB) ha hb (nomark _)
theorem vt_in (hr : Room k X.A) (ha : PE X a (LE X.K X.mg Z W ea)) (hb : PE X b (LE X.K X.mg Z W eb)) (hm : behindInMarks .In b = false := by rfl) : PT X (.Compare a [.In] [b] pos) (LT X.K X.mg Z W (vtB (vOp fIn' ea eb))) := vt_cmp (op_or op_in_seq (op_or op_in_sign (op_dIn (hu_of hr)))) ((lo_in false).or (lo_inS.or lo_dIn)) ha hb hm
theorem vt_notin (hr : Room k X.A) (ha : PE X a (LE X.K X.mg Z W ea)) (hb : PE X b (LE X.K X.mg Z W eb)) (hm : behindInMarks .NotIn b = false := by rfl) : PT X (.Compare a [.NotIn] [b] pos) (LT X.K X.mg Z W (vtB (vOp fNotIn' ea eb))) := vt_cmp (op_or op_notIn_seq (op_or op_notIn_sign (op_dNotIn (hu_of hr)))) ((lo_in true).or (lo_notInS.or lo_dNotIn)) ha hb hm
/-- a <= b < c and its like: both operators by their names -/
theorem v_chLL (ha : PE X a (LE X.K X.mg Z W ea)) (hb : PE X b (LE X.K X.mg Z W eb)) (hc : PE X c (LE X.K X.mg Z W ec)) (hm : lastMarks [.LtE, .LtE] [b, c] = false := by with_unfolding_all rfl) : PE X (.Compare a [.LtE, .LtE] [b, c] pos) (LE X.K X.mg Z W (vCh fLe fLe ea eb ec)) := v_chain op_le op_le l_le l_le ha hb hc hm
theorem v_chLT (ha : PE X a (LE X.K X.mg Z W ea)) (hb : PE X b (LE X.K X.mg Z W eb)) (hc : PE X c (LE X.K X.mg Z W ec)) (hm : lastMarks [.LtE, .Lt] [b, c] = false := by with_unfolding_all rfl) : PE X (.Compare a [.LtE, .Lt] [b, c] pos) (LE X.K X.mg Z W (vCh fLe fLt ea eb ec)) := v_chain op_le op_lt l_le l_lt ha hb hc hm
theorem vt_chLL (ha : PE X a (LE X.K X.mg Z W ea)) (hb : PE X b (LE X.K X.mg Z W eb)) (hc : PE X c (LE X.K X.mg Z W ec)) (hm : lastMarks [.LtE, .LtE] [b, c] = false := by with_unfolding_all rfl) : PT X (.Compare a [.LtE, .LtE] [b, c] pos) (LT X.K X.mg Z W (vtB (vCh fLe fLe ea eb ec))) := vt_chain op_le op_le l_le l_le ha hb hc hm
theorem vt_chLT (ha : PE X a (LE X.K X.mg Z W ea)) (hb : PE X b (LE X.K X.mg Z W eb)) (hc : PE X c (LE X.K X.mg Z W ec)) (hm : lastMarks [.LtE, .Lt] [b, c] = false := by with_unfolding_all rfl) : PT X (.Compare a [.LtE, .Lt] [b, c] pos) (LT X.K X.mg Z W (vtB (vCh fLe fLt ea eb ec))) := vt_chain op_le op_lt l_le l_lt ha hb hc hm
theorem v_idx (hr : Room k X.A) (ha : PE X a (LE X.K X.mg Z W ea)) (hb : PE X b (LE X.K X.mg Z W eb)) (hs : PlainIx b := by exact fun _ _ => rfl) : PE X (.Subscript a b pos) (LE X.K X.mg Z W (vOp fIdx ea eb)) :=
  v_ix (IxR.or (IxR.or ix_tup ix_list) (IxR.or (IxR.or ix_list ix_list) (IxR.or ix_tup (IxR.or ix_str (ix_dict (hu_of hr)))))) ((lo_ixDT.or lo_ixDL).or ((lo_ixL.or lo_ixR).or (lo_ixT.or (lo_ixS.or lo_dget)))) ha hb hs
theorem v_slc {lo hi : Option Expr} {ve : VE} {vl vh : VO} {p2 : Pos} (he : PE X a (LE X.K X.mg Z W ve)) (hl : PO X lo (LO X.K X.mg Z W vl)) (hu : PO X hi (LO X.K X.mg Z W vh)) : PE X (.Subscript a (.Slice lo hi none p2) pos) (LE X.K X.mg Z W (vSl fSlc ve vl vh)) :=
  v_sl (SlR.or (SlR.or sl_list sl_list) (SlR.or sl_tup sl_str)) ((los_L.or los_R).or (los_T.or los_S)) he hl hu
theorem vs_augAdd {i : Nat} {x : Str} {ve : VE} {pos' : Pos} (hN : X.N.Nodup) (hi : X.N[i]? = some x) (hx : Loc X.env.scope x) (he : PE X a (LE X.K X.mg Z W ve)) (hf : X.fn x = true ∨ X.env.scope.names.lookup x = some .local := by first | exact .inl rfl | exact .inr rfl | assumption) :
    PS X (.AugAssign (.Name x pos') .Add a pos) (LS X.K X.mg Z W (vAug i (fI0 fun i j => .int (i + j)) ve)) := vs_aug (lip_I fun i j => i + j) ip_add hN hi hx he hf
theorem vs_augSub {i : Nat} {x : Str} {ve : VE} {pos' : Pos} (hN : X.N.Nodup) (hi : X.N[i]? = some x) (hx : Loc X.env.scope x) (he : PE X a (LE X.K X.mg Z W ve)) (hf : X.fn x = true ∨ X.env.scope.names.lookup x = some .local := by first | exact .inl rfl | exact .inr rfl | assumption) :
    PS X (.AugAssign (.Name x pos') .Sub a pos) (LS X.K X.mg Z W (vAug i (fI0 fun i j => .int (i - j)) ve)) := vs_aug (lip_I fun i j => i - j) ip_sub hN hi hx he hf
end

/-! ### built-in calls by name -/
def fMax : OC := fun m ds k => fMax2 m ds k ∨ fMaxL m ds k
def fMin : OC := fun m ds k => fMin2 m ds k ∨ fMinL m ds k
section
variable {X : Cx} {Z : Rsc} {W : WX} {a b : Expr} {es : List Expr} {ea eb : VE} {va : VA} {p pos : Pos} {k : Nat}
theorem v_len (hg : Gl X "len") (hm : X.mg "len" = none) (ha : PA X (a :: es) (LA X.K X.mg Z W va)) (he : starEach (a :: es) X.env = (false, eval a X.env) :: starEach es X.env := by rfl) (hpl : (backTo pos (starEach es X.env)).any (·.1) = false := by rfl) : PE X (.Call (.Name "len" p) (a :: es) [] pos) (LE X.K X.mg Z W (vCB fLen va)) :=
  v_callB call_len lo_len hg hm (by decide +kernel) ha (by decide) (by decide) he hpl
theorem v_abs (hg : Gl X "abs") (hm : X.mg "abs" = none) (ha : PA X (a :: es) (LA X.K X.mg Z W va)) (he : starEach (a :: es) X.env = (false, eval a X.env) :: starEach es X.env := by rfl) (hpl : (backTo pos (starEach es X.env)).any (·.1) = false := by rfl) : PE X (.Call (.Name "abs" p) (a :: es) [] pos) (LE X.K X.mg Z W (vCB fAbs va)) :=
  v_callB call_abs lo_abs hg hm (by decide +kernel) ha (by decide) (by decide) he hpl
theorem v_sum (hc : X.calm = true) (hg : Gl X "sum") (hm : X.mg "sum" = none) (ha : PA X (a :: es) (LA X.K X.mg Z W va)) (he : starEach (a :: es) X.env = (false, eval a X.env) :: starEach es X.env := by rfl) (hpl : (backTo pos (starEach es X.env)).any (·.1) = false := by rfl) : PE X (.Call (.Name "sum" p) (a :: es) [] pos) (LE X.K X.mg Z W (vCB fSum va)) :=
  v_callB (cr_sum hc) lo_sum hg hm (by decide +kernel) ha (by decide) (by decide) he hpl
theorem v_max (hc : X.calm = true) (hg : Gl X "max") (hm : X.mg "max" = none) (ha : PA X (a :: es) (LA X.K X.mg Z W va)) (he : starEach (a :: es) X.env = (false, eval a X.env) :: starEach es X.env := by rfl) (hpl : (backTo pos (starEach es X.env)).any (·.1) = false := by rfl) : PE X (.Call (.Name "max" p) (a :: es) [] pos) (LE X.K X.mg Z W (vCB fMax va)) :=
  v_callB (callR_or (call_max2 hc) (cr_max hc)) (lo_max2.or lo_maxL) hg hm (by decide +kernel) ha (by decide) (by decide) he hpl
theorem v_min (hc : X.calm = true) (hg : Gl X "min") (hm : X.mg "min" = none) (ha : PA X (a :: es) (LA X.K X.mg Z W va)) (he : starEach (a :: es) X.env = (false, eval a X.env) :: starEach es X.env := by rfl) (hpl : (backTo pos (starEach es X.env)).any (·.1) = false := by rfl) : PE X (.Call (.Name "min" p) (a :: es) [] pos) (LE X.K X.mg Z W (vCB fMin va)) :=
  v_callB (callR_or (call_min2 hc) (cr_min hc)) (lo_min2.or lo_minL) hg hm (by decide +kernel) ha (by decide) (by decide) he hpl
theorem v_intc (hg : Gl X "int") (hm : X.mg "int" = none) (ha : PA X (a :: es) (LA X.K X.mg Z W va)) (he : starEach (a :: es) X.env = (false, eval a X.env) :: starEach es X.env := by rfl) (hpl : (backTo pos (starEach es X.env)).any (·.1) = false := by rfl) : PE X (.Call (.Name "int" p) (a :: es) [] pos) (LE X.K X.mg Z W (vCB fInt va)) :=
  v_callTy call_int1 lo_int hg hm (by decide +kernel) ha (by decide) (by decide) he hpl
theorem v_listc (hg : Gl X "list") (hm : X.mg "list" = none) (ha : PA X (a :: es) (LA X.K X.mg Z W va)) (he : starEach (a :: es) X.env = (false, eval a X.env) :: starEach es X.env := by rfl) (hpl : (backTo pos (starEach es X.env)).any (·.1) = false := by rfl) : PE X (.Call (.Name "list" p) (a :: es) [] pos) (LE X.K X.mg Z W (vCB fList va)) :=
  v_callTy call_list_of lo_list hg hm (by decide +kernel) ha (by decide) (by decide) he hpl
theorem v_tuplec (hg : Gl X "tuple") (hm : X.mg "tuple" = none) (ha : PA X (a :: es) (LA X.K X.mg Z W va)) (he : starEach (a :: es) X.env = (false, eval a X.env) :: starEach es X.env := by rfl) (hpl : (backTo pos (starEach es X.env)).any (·.1) = false := by rfl) : PE X (.Call (.Name "tuple" p) (a :: es) [] pos) (LE X.K X.mg Z W (vCB fTuple va)) :=
  v_callTy call_tuple_of lo_tuple hg hm (by decide +kernel) ha (by decide) (by decide) he hpl
theorem v_strc (hg : Gl X "str") (hm : X.mg "str" = none) (ha : PA X (a :: es) (LA X.K X.mg Z W va)) (he : starEach (a :: es) X.env = (false, eval a X.env) :: starEach es X.env := by rfl) (hpl : (backTo pos (starEach es X.env)).any (·.1) = false := by rfl) : PE X (.Call (.Name "str" p) (a :: es) [] pos) (LE X.K X.mg Z W (vCB fStrI va)) :=
  v_callTy call_str_int lo_strI hg hm (by decide +kernel) ha (by decide) (by decide) he hpl
/-- isinstance(a, T), T the built-in class of that name -/
theorem v_ty {x : Str} {T : String} (hg : Gl X x) (hm : X.mg x = none) (hv : bootBuiltins x = some (.type T)) (hn : x ≠ "__name__" := by decide) (hd : (x == ("__debug__" : Str)) = false := by decide) : PE X (.Name x pos) (LE X.K X.mg Z W (vC (.ty T))) :=
  PE.imp (pe_bltn (v := .ty T) hg hm hv rfl hn hd) fun σ H Q ⟨P, R, as, G, m, k, xk, r, hk, n⟩ => n.ok _ _ R H hk .refl r (.t (.ty T))
theorem v_isi (T : String) (hg : Gl X "isinstance") (hm : X.mg "isinstance" = none) (ha : PA X (a :: es) (LA X.K X.mg Z W va)) (he : starEach (a :: es) X.env = (false, eval a X.env) :: starEach es X.env := by rfl) (hpl : (backTo pos (starEach es X.env)).any (·.1) = false := by rfl) : PE X (.Call (.Name "isinstance" p) (a :: es) [] pos) (LE X.K X.mg Z W (vCB (fIsi T) va)) :=
  v_callB call_isi (lo_isi T) hg hm (by decide +kernel) ha (by decide) (by decide) he hpl
end
end VL

/-! VL, part M: module constants, calls of defs in a bundle. -/
namespace VL
open PySem L2

/-- all that a call of the def named x wants -/
def Df (Pg : Program) (w : World) (K : PySem.W.Frag) (mg : Str → Option Value) (base : Heap) (CX : CXT) (k : Nat) (x : Str) (ps : List Str) (Z : Rsc) (sp : VSp) : Prop :=
  ∃ f fd, FnOk Pg w K mg base CX k f fd ps (liftS K mg Z ps.length sp) ∧ mg x = some (.ref f) ∧ PySem.W.keepIn K (.ref f) = true ∧ Binds K fd ps []
section
variable {X : Cx} {Z Z' : Rsc} {W : WX} {CX : CXT} {k : Nat} {ps : List Str} {sp : VSp} {x : Str} {p pos : Pos} {e : Expr} {es : List Expr} {va : VA}
theorem v_callD (D : Df X.prog X.w X.K X.mg X.base CX k x ps Z' sp) (hZ : Z'.Z = Z.Z) (hz : Z'.n0 = 0) (hn : ∀ ds k x, sp ds k x → ds.length = ps.length) (hr : Room k X.A) (hg : Gl X x) (hx : ∀ σ, PassesAt CX X σ (WE W σ))
    (ha : PA X (e :: es) (LA X.K X.mg Z W va)) (hdb : (x == ("__debug__" : Str)) = false := by decide) (he : starEach (e :: es) X.env = (false, eval e X.env) :: starEach es X.env := by rfl) (hpl : (backTo pos (starEach es X.env)).any (·.1) = false := by rfl) :
    PE X (.Call (.Name x p) (e :: es) [] pos) (LE X.K X.mg Z W (vCall sp va)) := by
  obtain ⟨f, fd, F, hm, hk, hb⟩ := D
  exact v_call F hZ hz hn hr hg hm hk hb hx ha hdb he hpl
theorem v_globI {i : Int} (hg : Gl X x) (hm : ∃ t, X.mg x = some (.int i t)) (hd : (x == ("__debug__" : Str)) = false := by decide) : PE X (.Name x pos) (LE X.K X.mg Z W (vC (.int i))) := by
  obtain ⟨t, hm⟩ := hm
  exact v_glob (v := .int i) hg hm ⟨t, rfl⟩ (fun _ => .int i) hd
theorem v_globS {i : Str} (hg : Gl X x) (hm : ∃ t, X.mg x = some (.str i t)) (hd : (x == ("__debug__" : Str)) = false := by decide) : PE X (.Name x pos) (LE X.K X.mg Z W (vC (.str i))) := by
  obtain ⟨t, hm⟩ := hm
  exact v_glob (v := .str i) hg hm ⟨t, rfl⟩ (fun _ => .str i) hd
end

/-! ### an ambient thing is made -/
/-- a thing of the kind Z is made of such arguments, all of it new -/
def spMk (K : PySem.W.Frag) (mg : Str → Option Value) (A : List Dv → Prop) (Z : Rsc) : Sp := fun vs H Q _ => ∃ (R : Hp) (ds : List Dv), Same R H ∧ Paired (DRep K mg R (fun _ => 0) []) vs ds ∧ A ds ∧
  ∀ d H' B, Z.Z H' (fun _ => d) B → (∀ b, B b → H b = none) → Same H H' → Q (.ref d) H'
/-- ambient things are forgotten -/
def noH : Env → Env
  | [] => []
  | some (.hnd _) :: r => none :: noH r
  | o :: r => o :: noH r
theorem noH_len : ∀ G : Env, (noH G).length = G.length
  | [] => rfl
  | none :: r => congrArg (· + 1) (noH_len r)
  | some (.t _) :: r => congrArg (· + 1) (noH_len r)
  | some (.loc _) :: r => congrArg (· + 1) (noH_len r)
  | some (.hnd _) :: r => congrArg (· + 1) (noH_len r)
theorem noH_at : ∀ {G : Env} {i : Nat} {d : Dv}, (noH G)[i]? = some (some d) → G[i]? = some (some d) ∧ ∀ l, d ≠ .hnd l
  | [], i, d, h => by simp [noH] at h
  | none :: r, 0, d, h => by simp [noH] at h
  | some (.t x) :: r, 0, d, h => by simp [noH] at h; subst h; exact ⟨by simp, fun l e => by cases e⟩
  | some (.loc x) :: r, 0, d, h => by simp [noH] at h; subst h; exact ⟨by simp, fun l e => by cases e⟩
  | some (.hnd x) :: r, 0, d, h => by simp [noH] at h
  | none :: r, i + 1, d, h => by simpa using noH_at (G := r) (by simpa [noH] using h)
  | some (.t x) :: r, i + 1, d, h => by simpa using noH_at (G := r) (by simpa [noH] using h)
  | some (.loc x) :: r, i + 1, d, h => by simpa using noH_at (G := r) (by simpa [noH] using h)
  | some (.hnd x) :: r, i + 1, d, h => by simpa using noH_at (G := r) (by simpa [noH] using h)
def Mk (Pg : Program) (w : World) (K : PySem.W.Frag) (mg : Str → Option Value) (base : Heap) (k : Nat) (x : Str) (ps : List Str) (sp : Sp) : Prop :=
  ∃ f fd, FnOk Pg w K mg base CX0 k f fd ps sp ∧ mg x = some (.ref f) ∧ PySem.W.keepIn K (.ref f) = true ∧ Binds K fd ps []
def noHnd : Env → Bool
  | [] => true
  | some (.hnd _) :: _ => false
  | _ :: r => noHnd r
theorem noHnd_at {i : Nat} : ∀ {G : Env} {j : Nat}, noHnd G = true → G[j]? ≠ some (some (.hnd i))
  | [], j, _ => by simp
  | o :: r, 0, h => fun e => by
    have e : o = some (.hnd i) := by simpa using e
    subst e
    cases h
  | o :: r, j + 1, h => fun e => by
    have h' : noHnd r = true := by
      cases o with
      | none => exact h
      | some d => cases d with
        | t x => exact h
        | loc k => exact h
        | hnd k => cases h
    exact noHnd_at h' (by simpa using e)
/-- x = make(..), and on with what was made about -/
def vMk (A : List Dv → Prop) (i : Nat) (es : VA) (u : VS) : VS := fun nx rt bk ct ex G m => es G m (fun ds => A ds ∧ allT ds = true ∧ noHnd G = true ∧
  u (fun G' m' => nx (noH G') m') (fun d m' => ∃ y, d = .t y ∧ rt d m') (fun G' m' => bk (noH G') m') (fun G' m' => ct (noH G') m') (fun n G' m' => ex n (noH G') m') (G.set i (some (.hnd 0))) m) (fun n => ex n G m)
theorem noneG_at {n i : Nat} {d : Dv} : (List.replicate n (none : Option Dv))[i]? ≠ some (some d) := fun e => by
  rw [List.getElem?_replicate] at e
  split at e <;> cases e
theorem allT_noH {K : PySem.W.Frag} {mg : Str → Option Value} {R : Hp} {hd hd' : Nat → Addr} {as as' : List Addr} : ∀ {vs : List V} {ds : List Dv}, Paired (DRep K mg R hd as) vs ds → ds.all (fun d => match d with | .t _ => true | _ => false) = true → Paired (DRep K mg R hd' as') vs ds
  | _, _, .nil, _ => .nil
  | _, _, .cons r t, h => by
    rw [List.all_cons, Bool.and_eq_true] at h
    cases r with
    | t q => exact .cons (.t q) (allT_noH t h.2)
    | hnd i => cases h.1
    | loc q => cases h.1
def onlyT (ds : List Dv) : Bool := ds.all (fun d => match d with | .t _ => true | _ => false)
section
variable {X : Cx} {Z : Rsc} {W : WX} {k : Nat} {x y : Str} {i : Nat} {p p2 p4 pos : Pos} {rest : List Stmt} {u : VS} {ps : List Str} {z : Expr} {zs : List Expr} {va : VA} {A : List Dv → Prop}
/-- the ambient is let go -/
theorem Rel.leave {P : Pm} {hd' : Nat → Addr} {B : Addr → Prop} {K : PySem.W.Frag} {mg : Str → Option Value} {R : Hp} {as : List Addr} {G : Env} {m : Sto} {σ : L2.St} {H : Hp} (hz : Z.n0 = 0) (nB : ∀ a, ¬ P.B a) (hB : ∀ b, B b → P.H0 b = none)
    (r2 : Rel K mg Z ⟨P.H0, P.R0, P.mu, hd', B, P.as0⟩ R as G m σ H) : Rel K mg Z0 P R as (noH G) m σ H := by
  refine ⟨r2.ex, by rw [noH_len]; exact r2.len, fun l dd e => ?_, fun l t e => ?_, r2.inj, nB, fun b hb => absurd hb (nB b), fun b o e n1 n2 => ?_, r2.dom, r2.fresh, r2.r0, r2.la, fun j hj => absurd hj (Nat.not_lt_zero _)⟩
  · obtain ⟨e1, e2⟩ := noH_at e
    obtain ⟨v, q1, q2⟩ := r2.env l dd e1
    refine ⟨v, q1, ?_⟩
    cases q2 with
    | t q => exact .t q
    | loc q => exact .loc q
    | hnd q => exact absurd rfl (e2 q)
  · obtain ⟨b, q1, q2, q3, q4, q5⟩ := r2.sto l t e
    refine ⟨b, q1, q2, q3, nB b, ?_⟩
    rcases q5 with q5 | q5
    · exact .inl q5
    · exact absurd q5.2 (by rw [hz]; omega)
  · refine r2.frame b o e n1 fun hb => ?_
    have q := hB b hb
    rw [e] at q; cases q
theorem vs_mk (D : Mk X.prog X.w X.K X.mg X.base k x ps (spMk X.K X.mg A Z)) (hA : ∀ ds, A ds → onlyT ds = true) (hz : Z.n0 = 0) (hr : Room k X.A) (hg : Gl X x) (hN : X.N.Nodup) (hi : X.N[i]? = some y) (hx : Loc X.env.scope y) (ha : PA X (z :: zs) (LA X.K X.mg Z0 W va)) (h : PSs X rest (LS X.K X.mg Z W u))
    (hdb : (x == ("__debug__" : Str)) = false := by decide) (he : starEach (z :: zs) X.env = (false, eval z X.env) :: starEach zs X.env := by rfl) (hpl : (backTo p4 (starEach zs X.env)).any (·.1) = false := by rfl)
    (hs : swapsWith (.Call (.Name x p2) (z :: zs) [] p4) (some (.Name y p)) pos.line X.env = pure false := by rfl) (hf : X.fn y = true ∨ X.env.scope.names.lookup y = some .local := by first | exact .inl rfl | exact .inr rfl | assumption) :
    PSs X (.Assign [.Name y p] (.Call (.Name x p2) (z :: zs) [] p4) pos :: rest) (LS X.K X.mg Z0 W (vMk A i va u)) := by
  obtain ⟨f, fd, F, hm, hk, hb⟩ := D
  refine PSs.imp (pss_cons (ps_set hN hi hx (pe_callS F hr hg hm hk hb (pas0 (W := W)) ha hdb he hpl) hs hf) h) fun D σ H ⟨P, R, as, G, m, nx, rt, bk, ct, ex, r, h0, kk⟩ => ?_
  refine LA.go r h0 (fun ds vs R1 H1 ⟨hAd, hT, hh, hu⟩ n1 r1 d1 => ?_) kk.er
  have nB : ∀ a, ¬ P.B a := r1.vol
  refine ⟨R1, ds, r1.ex, allT_noH d1 (hA ds hAd), hAd, fun d H' B hZ hB hsm => ?_⟩
  have hB0 : ∀ b, B b → P.H0 b = none := fun b hb => by
    cases q : P.H0 b with
    | none => rfl
    | some o => exact absurd (hB b hb) (r1.dom b (by rw [q]; simp))
  have r' : Rel X.K X.mg Z ⟨P.H0, P.R0, P.mu, fun _ => d, B, P.as0⟩ R1 as (G.set i (some (.hnd 0))) m (σ.set i (some (.ref d))) H' := by
    refine ⟨r1.ex.trans hsm, by rw [List.length_set, List.length_set]; exact r1.len, fun l dd e => ?_, fun l t e => ?_, r1.inj, hZ, fun b hb => ?_, fun b o e n1 n2 => hsm _ _ (r1.frame b o e n1 (nB b)), fun b e => ?_, r1.fresh, r1.r0, r1.la, fun j hj => by omega⟩
    · by_cases hl : i = l
      · subst hl
        by_cases hL : i < G.length
        · rw [List.getElem?_set_self hL] at e
          cases e
          exact ⟨_, List.getElem?_set_self (by rw [← r1.len]; exact hL), .hnd (hd := fun _ => d) 0⟩
        · rw [List.getElem?_eq_none (by rw [List.length_set]; omega)] at e; cases e
      · rw [List.getElem?_set_ne hl] at e
        obtain ⟨v, q1, q2⟩ := r1.env l dd e
        refine ⟨v, by rw [List.getElem?_set_ne hl]; exact q1, ?_⟩
        cases q2 with
        | t q => exact .t q
        | loc q => exact .loc q
        | hnd q => exact absurd e (noHnd_at hh)
    · obtain ⟨b, q1, q2, q3, q4, q5⟩ := r1.sto l t e
      obtain ⟨o, ho⟩ := q2.there
      refine ⟨b, q1, q2.mono (Same.refl _) fun o q => hsm _ _ q, q3, (fun hb => by rw [hB b hb] at ho; cases ho), ?_⟩
      rcases q5 with q5 | q5
      · exact .inl q5
      · exact absurd q5.2 (by show ¬ l < 0; omega)
    · cases q : R1 b with
      | none => rfl
      | some o => exact absurd (r1.ex _ _ q) (by rw [hB b hb]; simp)
    · cases q : H1 b with
      | none => exact absurd q (r1.dom b e)
      | some o => rw [hsm _ _ q]; simp
  refine ⟨_, R1, as, _, m, _, _, _, _, _, r', hu, ⟨fun G2 m2 R2 as2 σ2 H2 q r2 => kk.nx _ m2 R2 as2 σ2 H2 q (Rel.leave hz nB hB0 r2), fun dd m2 v2 R2 as2 G2 σ2 H2 ⟨y2, ey, q⟩ r2 d2 => ?_, fun G2 m2 R2 as2 σ2 H2 q r2 => kk.bk _ m2 R2 as2 σ2 H2 q (Rel.leave hz nB hB0 r2), fun G2 m2 R2 as2 σ2 H2 q r2 => kk.ct _ m2 R2 as2 σ2 H2 q (Rel.leave hz nB hB0 r2), fun nm cl m2 R2 as2 G2 σ2 H2 q hcl r2 => kk.ex nm cl m2 R2 as2 _ σ2 H2 q hcl (Rel.leave hz nB hB0 r2)⟩⟩
  subst ey
  cases d2 with
  | t rv2 => exact kk.rt _ m2 v2 R2 as2 _ σ2 H2 q (Rel.leave hz nB hB0 r2) (.t rv2)
end
end VL

/-! VL, part N: steps for a driver; the law's last step. -/
namespace VL
open PySem L2
theorem n0_le {Z : Rsc} {j : Nat} (h : Z.n0 = 0) : Z.n0 ≤ j := by rw [h]; exact Nat.zero_le _
theorem sz {n : Nat} (h : n ≤ 1000) : n ≤ sizeLine := Nat.le_of_lt (small1000 h)
section
variable {G : Env} {m : Sto} {k : DK} {x : XK} {d e : Dv} {i j : Int} {ns ms : List Int} {ts us : List Tr} {t u : Tr} {b c : Bool} {z y : Str}
theorem sp_add (h1 : view m d = some (.int i)) (h2 : view m e = some (.int j)) (q : k (.t (.int (i + j)))) : fAdd m d e k := .inl ⟨i, j, h1, h2, q⟩
theorem sp_addS (h1 : view m d = some (.str z)) (h2 : view m e = some (.str y)) (q : k (.t (.str (z ++ y)))) (hz : z.length + y.length ≤ sizeLine) : fAdd m d e k := .inr (.inl ⟨z, y, h1, h2, hz, q⟩)
theorem sp_addL (h1 : view m d = some (.lst ts)) (h2 : view m e = some (.lst us)) (q : k (.t (.lst (ts ++ us)))) (hz : ts.length + us.length ≤ sizeLine) : fAdd m d e k := .inr (.inr ⟨ts, us, h1, h2, hz, q⟩)
theorem sp_sub (h1 : view m d = some (.int i)) (h2 : view m e = some (.int j)) (q : k (.t (.int (i - j)))) : fSub m d e k := ⟨i, j, h1, h2, q⟩
theorem sp_mul (h1 : view m d = some (.int i)) (h2 : view m e = some (.int j)) (q : k (.t (.int (i * j)))) (c : CM i j) : fMul m d e k := .inl ⟨i, j, h1, h2, c, q⟩
theorem sp_rep (h1 : view m d = some (.lst ts)) (h2 : view m e = some (.int i)) (q : k (.t (.lst (List.replicate i.toNat ts).flatten))) (c1 : -(2 ^ 63) ≤ i) (c2 : i < 2 ^ 63) (c3 : ts.length * i.toNat ≤ sizeLine) : fMul m d e k := .inr ⟨ts, i, h1, h2, c1, c2, c3, q⟩
theorem sp_mod (h1 : view m d = some (.int i)) (h2 : view m e = some (.int j)) (q : k (.t (.int (i % j)))) (c : 0 < j) : fMod m d e k := ⟨i, j, h1, h2, c, q⟩
theorem cdw {i j : Int} (h1 : 0 < j) (h2 : j < 2 ^ 64) : CDivW i j := ⟨h1, by
  have : j.natAbs.log2 < 64 := by
    rw [Nat.log2_lt (by omega)]
    omega
  omega⟩
theorem sp_div (h1 : view m d = some (.int i)) (h2 : view m e = some (.int j)) (q : k (.t (.int (i / j)))) (c : 0 < j) (c2 : j < 2 ^ 64) : fDiv m d e k := ⟨i, j, h1, h2, cdw c c2, q⟩
theorem sp_divW (h1 : view m d = some (.int i)) (h2 : view m e = some (.int j)) (q : k (.t (.int (i / j)))) (c : CDivW i j) : fDiv m d e k := ⟨i, j, h1, h2, c, q⟩
theorem sp_pow (h1 : view m d = some (.int i)) (h2 : view m e = some (.int j)) (q : k (.t (.int (i ^ j.toNat)))) (c : 0 ≤ j) (c2 : j ≤ 1000000) (c3 : i.natAbs < 2 ^ 64) : fPow m d e k := ⟨i, j, h1, h2, ⟨c, c2, c3⟩, q⟩
theorem sp_lt (h1 : view m d = some (.int i)) (h2 : view m e = some (.int j)) (q : k (.t (.bl (decide (i < j))))) : fLt m d e k := ⟨i, j, h1, h2, q⟩
theorem sp_le (h1 : view m d = some (.int i)) (h2 : view m e = some (.int j)) (q : k (.t (.bl (decide (i ≤ j))))) : fLe m d e k := ⟨i, j, h1, h2, q⟩
theorem sp_gt (h1 : view m d = some (.int i)) (h2 : view m e = some (.int j)) (q : k (.t (.bl (decide (j < i))))) : fGt m d e k := ⟨i, j, h1, h2, q⟩
theorem sp_ge (h1 : view m d = some (.int i)) (h2 : view m e = some (.int j)) (q : k (.t (.bl (decide (j ≤ i))))) : fGe m d e k := ⟨i, j, h1, h2, q⟩
theorem lay_int {i : Int} : lay 60 (.int i) = true := by unfold lay; rfl
theorem lay_bl {i : Bool} : lay 60 (.bl i) = true := by unfold lay; rfl
theorem lay_ints {ns : List Int} : lay 60 (.lst (ns.map .int)) = true := by unfold lay; exact lays_ints _ _
theorem sp_eqI (h1 : viewD m d = some (.int i)) (h2 : viewD m e = some (.int j)) (q : k (.t (.bl (decide (i = j))))) : fEqD m d e k := ⟨_, _, h1, h2, lay_int, lay_int, by rw [eqT_int]; exact q⟩
theorem sp_neI (h1 : viewD m d = some (.int i)) (h2 : viewD m e = some (.int j)) (q : k (.t (.bl (!decide (i = j))))) : fNeD m d e k := ⟨_, _, h1, h2, lay_int, lay_int, by rw [eqT_int]; exact q⟩
theorem sp_eqB (h1 : viewD m d = some (.bl b)) (h2 : viewD m e = some (.bl c)) (q : k (.t (.bl (decide (b = c))))) : fEqD m d e k := ⟨_, _, h1, h2, lay_bl, lay_bl, by rw [eqT_bl]; exact q⟩
theorem sp_neB (h1 : viewD m d = some (.bl b)) (h2 : viewD m e = some (.bl c)) (q : k (.t (.bl (!decide (b = c))))) : fNeD m d e k := ⟨_, _, h1, h2, lay_bl, lay_bl, by rw [eqT_bl]; exact q⟩
theorem sp_eqL (h1 : viewD m d = some (.lst (ns.map .int))) (h2 : viewD m e = some (.lst (ms.map .int))) (q : k (.t (.bl (decide (ns = ms))))) : fEqD m d e k := ⟨_, _, h1, h2, lay_ints, lay_ints, by rw [eqT_ints]; exact q⟩
theorem sp_neL (h1 : viewD m d = some (.lst (ns.map .int))) (h2 : viewD m e = some (.lst (ms.map .int))) (q : k (.t (.bl (!decide (ns = ms))))) : fNeD m d e k := ⟨_, _, h1, h2, lay_ints, lay_ints, by rw [eqT_ints]; exact q⟩
theorem sp_eqNil (h1 : viewD m d = some (.lst [])) (h2 : viewD m e = some (.lst [])) (q : k (.t (.bl true))) : fEqD m d e k := ⟨_, _, h1, h2, lay_ints (ns := []), lay_ints (ns := []), by rw [show eqT (.lst []) (.lst []) = true from eqT_refl 60 (lay_ints (ns := []))]; exact q⟩
/-- a thing and its like -/
theorem sp_eqR (h1 : viewD m d = some t) (h2 : viewD m e = some t) (q : k (.t (.bl true))) (hl : lay 60 t = true) : fEqD m d e k := ⟨_, _, h1, h2, hl, hl, by rw [eqT_refl 60 hl]; exact q⟩
theorem sp_neR (h1 : viewD m d = some t) (h2 : viewD m e = some t) (q : k (.t (.bl false))) (hl : lay 60 t = true) : fNeD m d e k := ⟨_, _, h1, h2, hl, hl, by rw [eqT_refl 60 hl]; exact q⟩
theorem sp_eq (h1 : viewD m d = some t) (h2 : viewD m e = some u) (q : k (.t (.bl (eqT t u)))) (hl : lay 60 t = true) (hl2 : lay 60 u = true) : fEqD m d e k := ⟨_, _, h1, h2, hl, hl2, q⟩
theorem sp_ne (h1 : viewD m d = some t) (h2 : viewD m e = some u) (q : k (.t (.bl (!eqT t u)))) (hl : lay 60 t = true) (hl2 : lay 60 u = true) : fNeD m d e k := ⟨_, _, h1, h2, hl, hl2, q⟩
theorem sp_isN (h1 : view m d = some t) (h2 : view m e = some .non) (q : k (.t (.bl t.isN))) : fIs m d e k := .inl ⟨t, h1, h2, q⟩
theorem sp_isnN (h1 : view m d = some t) (h2 : view m e = some .non) (q : k (.t (.bl (!t.isN)))) : fIsnt m d e k := .inl ⟨t, h1, h2, q⟩
theorem sp_isB (h1 : view m d = some (.bl b)) (h2 : view m e = some (.bl c)) (q : k (.t (.bl (decide (b = c))))) : fIs m d e k := .inr ⟨b, c, h1, h2, q⟩
theorem sp_isnB (h1 : view m d = some (.bl b)) (h2 : view m e = some (.bl c)) (q : k (.t (.bl (!decide (b = c))))) : fIsnt m d e k := .inr ⟨b, c, h1, h2, q⟩
theorem sp_ixDT {n : Nat} (h1 : m[n]? = some (some (.dt ts))) (h2 : view m e = some (.int i)) (h3 : atI ts i = some t) (q : k (chD t)) : fIdx m (.loc n) e k := .inl <| .inl ⟨n, ts, i, t, rfl, h1, h2, h3, q⟩
theorem sp_ixDL {n : Nat} (h1 : m[n]? = some (some (.dl ts))) (h2 : view m e = some (.int i)) (h3 : atI ts i = some t) (q : k (chD t)) : fIdx m (.loc n) e k := .inl <| .inr ⟨n, ts, i, t, rfl, h1, h2, h3, q⟩
theorem sp_ixL (h1 : view m d = some (.lst ts)) (h2 : view m e = some (.int i)) (h3 : atI ts i = some t) (q : k (.t t)) : fIdx m d e k := .inr <| .inl (.inl ⟨ts, i, t, h1, h2, h3, q⟩)
theorem sp_ixT (h1 : view m d = some (.tup ts)) (h2 : view m e = some (.int i)) (h3 : atI ts i = some t) (q : k (.t t)) : fIdx m d e k := .inr <| .inr (.inl ⟨ts, i, t, h1, h2, h3, q⟩)
theorem atI_of {α : Type} {ts : List α} {i : Int} {t : α} (h : 0 ≤ i) (e : ts[i.toNat]? = some t) : atI ts i = some t := by
  obtain ⟨n, rfl⟩ := Int.eq_ofNat_of_zero_le h
  exact atI_nat e
theorem sp_ixI (h1 : view m d = some (.lst (ns.map .int))) (h2 : view m e = some (.int i)) (q : k (.t (.int (ns.getD i.toNat 0)))) (h3 : 0 ≤ i) (h4 : i < ns.length) : fIdx m d e k := .inr <| .inl (.inl ⟨_, i, .int (ns.getD i.toNat 0), h1, h2, atI_of h3 (by
  have hl : i.toNat < ns.length := by omega
  rw [List.getElem?_map, List.getElem?_eq_getElem hl, List.getD_eq_getElem?_getD, List.getElem?_eq_getElem hl]; rfl), q⟩)
theorem sp_ixR (h1 : view m d = some (.scr ns)) (h2 : view m e = some (.int i)) (q : k (.t (.int (ns.getD i.toNat 0)))) (h3 : 0 ≤ i) (h4 : i < ns.length) : fIdx m d e k := .inr <| .inl (.inr ⟨_, i, ns.getD i.toNat 0, h1, h2, atI_of h3 (by
  have hl : i.toNat < ns.length := by omega
  rw [List.getD_eq_getElem?_getD, List.getElem?_eq_getElem hl]; rfl), q⟩)
theorem sp_slL {l u : Option Int} (h1 : view m d = some (.lst ts)) (q : k (.t (.lst (cutG ts l u)))) : fSlc m d l u k := .inl (.inl ⟨ts, h1, q⟩)
theorem sp_slI {l u : Option Int} (h1 : view m d = some (.lst (ns.map .int))) (q : k (.t (.lst ((cutG ns l u).map .int)))) : fSlc m d l u k := sp_slL h1 (by rw [cutG_map]; exact q)
theorem sp_addI (h1 : view m d = some (.lst (ns.map .int))) (h2 : view m e = some (.lst (ms.map .int))) (q : k (.t (.lst ((ns ++ ms).map .int)))) (hz : ns.length + ms.length ≤ 1000000) : fAdd m d e k := sp_addL h1 h2 (by rw [← List.map_append]; exact q) (by rw [List.length_map, List.length_map, sizeLine_eq]; omega)
theorem sp_addI1 (h1 : view m d = some (.lst [.int i])) (h2 : view m e = some (.lst (ms.map .int))) (q : k (.t (.lst ((i :: ms).map .int)))) (hz : ms.length ≤ 999999) : fAdd m d e k := sp_addI (ns := [i]) h1 h2 q (by simp; omega)
theorem sp_addI2 (h1 : view m d = some (.lst (ns.map .int))) (h2 : view m e = some (.lst [.int i])) (q : k (.t (.lst ((ns ++ [i]).map .int)))) (hz : ns.length ≤ 999999) : fAdd m d e k := sp_addI (ms := [i]) h1 h2 q (by simp; omega)
theorem rep_one (x : Int) : ∀ n : Nat, (List.replicate n [Tr.int x]).flatten = (List.replicate n x).map Tr.int
  | 0 => rfl
  | n + 1 => by rw [List.replicate_succ, List.flatten_cons, rep_one x n, List.replicate_succ, List.map_cons]; rfl
theorem sp_rep1 (h1 : view m d = some (.lst [.int j])) (h2 : view m e = some (.int i)) (q : k (.t (.lst ((List.replicate i.toNat j).map .int)))) (c : -1000000 ≤ i ∧ i ≤ 1000000) : fMul m d e k := sp_rep h1 h2 (by rw [rep_one]; exact q) (by omega) (by omega) (by rw [sizeLine_eq]; simp; omega)
theorem cut_to {α : Type} (xs : List α) {a : Int} (h : 0 ≤ a) : cutG xs none (some a) = xs.take a.toNat := by
  obtain ⟨i, rfl⟩ := Int.eq_ofNat_of_zero_le h
  unfold cutG
  rw [HT.sIx_nat, HT.sIx_none, List.drop_zero, Int.toNat_natCast, Nat.sub_zero]
  by_cases c : i ≤ xs.length
  · rw [Nat.min_eq_left c]
  · rw [Nat.min_eq_right (by omega), List.take_of_length_le (Nat.le_refl _), List.take_of_length_le (by omega)]
theorem cut_from {α : Type} (xs : List α) {a : Int} (h : 0 ≤ a) : cutG xs (some a) none = xs.drop a.toNat := by
  obtain ⟨i, rfl⟩ := Int.eq_ofNat_of_zero_le h
  unfold cutG
  rw [HT.sIx_nat, HT.sIx_none, Int.toNat_natCast]
  by_cases c : i ≤ xs.length
  · rw [Nat.min_eq_left c, List.take_of_length_le (by rw [List.length_drop]; exact Nat.le_refl _)]
  · rw [Nat.min_eq_right (by omega), List.drop_eq_nil_of_le (Nat.le_refl _), List.drop_eq_nil_of_le (by omega), List.take_nil]
theorem sp_slR {l u : Option Int} (h1 : view m d = some (.scr ns)) (q : k (.t (.lst ((cutG ns l u).map .int)))) : fSlc m d l u k := .inl (.inr ⟨ns, h1, q⟩)
theorem sp_lenL (h1 : view m d = some (.lst ts)) (q : k (.t (.int ts.length))) : fLen m [d] k := ⟨d, _, _, rfl, h1, rfl, (fun z e => by cases e), q⟩
theorem sp_lenT (h1 : view m d = some (.tup ts)) (q : k (.t (.int ts.length))) : fLen m [d] k := ⟨d, _, _, rfl, h1, rfl, (fun z e => by cases e), q⟩
theorem sp_lenR (h1 : view m d = some (.scr ns)) (q : k (.t (.int ns.length))) : fLen m [d] k := ⟨d, _, _, rfl, h1, rfl, (fun z e => by cases e), q⟩
theorem sp_abs (h1 : view m d = some (.int i)) (q : k (.t (.int (if i < 0 then -i else i)))) : fAbs m [d] k := ⟨d, i, rfl, h1, q⟩
theorem sp_max2 (h1 : view m d = some (.int i)) (h2 : view m e = some (.int j)) (q : k (.t (.int (max i j)))) : fMax m [d, e] k := .inl ⟨d, e, i, j, rfl, h1, h2, q⟩
theorem sp_min2 (h1 : view m d = some (.int i)) (h2 : view m e = some (.int j)) (q : k (.t (.int (min i j)))) : fMin m [d, e] k := .inl ⟨d, e, i, j, rfl, h1, h2, q⟩
theorem sp_maxL (h1 : view m d = some (.lst (ns.map .int))) (q : k (.t (.int (mxI ns)))) (h : 0 < ns.length) : fMax m [d] k := .inr ⟨d, _, ns, rfl, h1, intsOf_map ns, h, q⟩
theorem sp_minL (h1 : view m d = some (.lst (ns.map .int))) (q : k (.t (.int (mnI ns)))) (h : 0 < ns.length) : fMin m [d] k := .inr ⟨d, _, ns, rfl, h1, intsOf_map ns, h, q⟩
theorem sp_sum (h1 : view m d = some (.lst (ns.map .int))) (q : k (.t (.int ns.sum))) : fSum m [d] k := ⟨d, _, ns, rfl, h1, intsOf_map ns, q⟩
theorem sp_int (h1 : view m d = some (.int i)) (q : k (.t (.int i))) : fInt m [d] k := ⟨d, rfl, .inl ⟨i, h1, q⟩⟩
theorem sp_intB (h1 : view m d = some (.bl b)) (q : k (.t (.int (if b then 1 else 0)))) : fInt m [d] k := ⟨d, rfl, .inr ⟨b, h1, q⟩⟩
theorem sp_list (h1 : view m d = some (.lst ts)) (q : k (.t (.lst ts))) : fList m [d] k := ⟨d, ts, rfl, .inl h1, q⟩
theorem sp_listT (h1 : view m d = some (.tup ts)) (q : k (.t (.lst ts))) : fList m [d] k := ⟨d, ts, rfl, .inr h1, q⟩
theorem sp_tuple (h1 : view m d = some (.lst ts)) (q : k (.t (.tup ts))) : fTuple m [d] k := ⟨d, ts, rfl, h1, q⟩
theorem sp_strI (h1 : view m d = some (.int i)) (q : k (.t (.str (toString i)))) (h : i.natAbs.log2 < 1920) : fStrI m [d] k := ⟨d, i, rfl, h1, h, q⟩
theorem sp_isi {T : String} {kd : String} (h1 : view m d = some t) (h2 : kindT t = some kd) (h3 : kitB kd T = some b) (q : k (.t (.bl b))) : fIsi T m [d, .t (.ty T)] k := ⟨d, t, kd, b, rfl, h1, h2, h3, q⟩
theorem sp_isiT {T : String} {kd : String} (h1 : view m d = some t) (h2 : kindT t = some kd) (h3 : kitB kd T = some true) (q : k (.t (.bl true))) : fIsi T m [d, .t (.ty T)] k := ⟨d, t, kd, true, rfl, h1, h2, h3, q⟩
theorem sp_isiF {T : String} {kd : String} (h1 : view m d = some t) (h2 : kindT t = some kd) (h3 : kitB kd T = some false) (q : k (.t (.bl false))) : fIsi T m [d, .t (.ty T)] k := ⟨d, t, kd, false, rfl, h1, h2, h3, q⟩
theorem sp_ixM (h1 : view m d = some (.lst ts)) (h2 : view m e = some (.int i)) (q : ∀ t ∈ ts, k (.t t)) (h3 : 0 ≤ i) (h4 : i < (ts.length : Int)) : fIdx m d e k := by
  have hl : i.toNat < ts.length := by omega
  exact .inr <| .inl (.inl ⟨ts, i, ts[i.toNat], h1, h2, atI_of h3 (List.getElem?_eq_getElem hl), q _ (List.getElem_mem hl)⟩)
/-! branches, known -/
theorem br_dt {c : Prop} [Decidable c] {A B : Prop} (h1 : c) (h2 : A) : (decide c = true → A) ∧ (decide c = false → B) := br_d (fun _ => h2) fun n => absurd h1 n
theorem br_df {c : Prop} [Decidable c] {A B : Prop} (h1 : ¬ c) (h2 : B) : (decide c = true → A) ∧ (decide c = false → B) := br_d (fun n => absurd n h1) fun _ => h2
/-- an if without an else, on from what holds behind it -/
theorem br_joinN {c : Bool} {A : Prop} {R : SK} {rt : RK} {bk ct : SK} {ex : XS} (J : Env → Sto → Prop) (hr : ∀ G' m', J G' m' → R G' m') (h1 : (∀ G' m', J G' m' → R G' m') → c = true → A) (h2 : c = false → J G m) : (c = true → A) ∧ (c = false → vNext R rt bk ct ex G m) := ⟨h1 hr, fun z => hr _ _ (h2 z)⟩
theorem ints_all {C : Int → Prop} : ∀ {acc : List Tr}, (∀ (i : Nat) y, acc[i]? = some y → ∃ p, y = .int p ∧ C p) → ∃ ps : List Int, acc = ps.map .int ∧ ∀ p ∈ ps, C p
  | [], _ => ⟨[], rfl, fun p h => by cases h⟩
  | y :: r, h => by
    obtain ⟨p, rfl, hp⟩ := h 0 y rfl
    obtain ⟨ps, rfl, hq⟩ := ints_all (acc := r) fun i z e => h (i + 1) z (by simpa using e)
    exact ⟨p :: ps, rfl, fun q hq' => by
      rcases List.mem_cons.mp hq' with rfl | e
      · exact hp
      · exact hq q e⟩
theorem an_lt {n l : Nat} {A : Prop} (h : n < l) (q : A) : n < l ∧ A := ⟨h, q⟩
theorem st_newL' {nx : SK} {i j : Nat} {ds : List Dv} (h1 : unT ds = some ts) (h2 : ts.length ≤ sizeLine) (h3 : j < m.length) (h4 : noRef j m (G.set i none) = true) (h : nx (G.set i (some (.loc j))) (m.set j (some (.lst ts)))) :
    ∃ ts, unT ds = some ts ∧ ts.length ≤ sizeLine ∧ j < m.length ∧ noRef j m (G.set i none) = true ∧ nx (G.set i (some (.loc j))) (m.set j (some (.lst ts))) := ⟨ts, h1, h2, h3, h4, h⟩
theorem st_app3 {n : Nat} (h : m[n]? = some (some (.lst ts))) {A : Nat → List Tr → Prop} (q : A n ts) : ∃ j' ts', Dv.loc n = .loc j' ∧ m[j']? = some (some (.lst ts')) ∧ A j' ts' := ⟨n, ts, rfl, h, q⟩
theorem st_rA {d : Dv} {n : Int} {A : Int → Prop} (h : view m d = some (.int n)) (q : A n) (h1 : -(2 ^ 62) ≤ n) (h2 : n < 2 ^ 62) : ∃ n : Int, view m d = some (.int n) ∧ -(2 ^ 62) ≤ n ∧ n < 2 ^ 62 ∧ A n := ⟨n, h, h1, h2, q⟩
theorem st_rB {d e : Dv} {i n : Int} {A : Int → Int → Prop} (h : view m d = some (.int i)) (h' : view m e = some (.int n)) (q : A i n) (hb : -(2 ^ 62) ≤ i ∧ i < 2 ^ 62 ∧ -(2 ^ 62) ≤ n ∧ n < 2 ^ 62) : ∃ i n : Int, view m d = some (.int i) ∧ view m e = some (.int n) ∧ (-(2 ^ 62) ≤ i ∧ i < 2 ^ 62 ∧ -(2 ^ 62) ≤ n ∧ n < 2 ^ 62) ∧ A i n := ⟨i, n, h, h', hb, q⟩
theorem st_zA {A : List Tr → List Tr → Prop} (q : A ts us) : ∃ xs' ys', Dv.t (.lst ts) = .t (.lst xs') ∧ Dv.t (.lst us) = .t (.lst ys') ∧ A xs' ys' := ⟨ts, us, rfl, rfl, q⟩
theorem st_sv {d : Dv} {A : Str → Prop} (h : view m d = some (.str z)) (q : A z) : ∃ z', view m d = some (.str z') ∧ A z' := ⟨z, h, q⟩
theorem st_callS' {ds : List Dv} {A B : Prop} (h : allT ds = true) (q : A) : (allT ds = true ∧ A) ∨ B := .inl ⟨h, q⟩
theorem st_callB' {ds ds' : List Dv} {A : Prop} {C : List Dv → Prop} (h : bors m ds = some ds') (q : C ds') : A ∨ ∃ ds', bors m ds = some ds' ∧ C ds' := .inr ⟨ds', h, q⟩
theorem lc_mapB {us : List Tr} {B : List Tr → Prop} {A : Nat → Tr → List Tr → (Nat → List Tr → Prop) → Prop} (f : Tr → Tr) (hz : us.length ≤ sizeLine) (hs : ∀ (i : Nat) t acc, us[i]? = some t → acc.length < sizeLine → ∀ I : Nat → List Tr → Prop, I (i + 1) (acc ++ [f t]) → A i t acc I) (hk : B (us.map f)) :
    ∃ I : Nat → List Tr → Prop, I 0 [] ∧ (∀ (i : Nat) t acc, us[i]? = some t → I i acc → A i t acc I) ∧ ∀ acc, I us.length acc → B acc :=
  ⟨fun i acc => acc = (us.take i).map f, by simp, fun i t acc e h => by
    subst h
    obtain ⟨hi, he⟩ := List.getElem?_eq_some_iff.mp e
    refine hs i t _ e (by rw [List.length_map, List.length_take]; omega) _ ?_
    rw [List.take_succ, e]
    simp, fun acc h => by subst h; rw [List.take_length]; exact hk⟩
/-- a comprehension all of whose items fail the test -/
theorem lc_none {us : List Tr} {B : List Tr → Prop} {A : Nat → Tr → List Tr → (Nat → List Tr → Prop) → Prop} (hs : ∀ (i : Nat) t, us[i]? = some t → ∀ I : Nat → List Tr → Prop, I (i + 1) [] → A i t [] I) (hk : B []) :
    ∃ I : Nat → List Tr → Prop, I 0 [] ∧ (∀ (i : Nat) t acc, us[i]? = some t → I i acc → A i t acc I) ∧ ∀ acc, I us.length acc → B acc :=
  ⟨fun _ acc => acc = [], rfl, fun i t acc e h => by subst h; exact hs i t e _ rfl, fun acc h => by subst h; exact hk⟩
/-- a comprehension with a test: how many pass -/
theorem lc_cnt {us : List Tr} {B : List Tr → Prop} {A : Nat → Tr → List Tr → (Nat → List Tr → Prop) → Prop} (c : Nat → Nat) (h0 : c 0 = 0) (hz : us.length ≤ sizeLine)
    (hs : ∀ (i : Nat) t acc, us[i]? = some t → acc.length < sizeLine → ∀ I : Nat → List Tr → Prop, (c (i + 1) = c i + 1 → ∀ y, I (i + 1) (acc ++ [y])) → (c (i + 1) = c i → I (i + 1) acc) → A i t acc I) (hk : ∀ acc : List Tr, acc.length = c us.length → B acc) :
    ∃ I : Nat → List Tr → Prop, I 0 [] ∧ (∀ (i : Nat) t acc, us[i]? = some t → I i acc → A i t acc I) ∧ ∀ acc, I us.length acc → B acc :=
  ⟨fun i acc => acc.length = c i ∧ acc.length ≤ i, ⟨h0.symm, Nat.le_refl _⟩, fun i t acc e ⟨h1, h2⟩ => by
    obtain ⟨hi, _⟩ := List.getElem?_eq_some_iff.mp e
    exact hs i t acc e (by omega) _ (fun q y => ⟨by rw [List.length_append, h1, q]; rfl, by rw [List.length_append]; simp; omega⟩) fun q => ⟨by rw [h1, q], by omega⟩, fun acc ⟨h1, _⟩ => hk acc h1⟩
/-- a comprehension over anything: what holds of the elements -/
theorem lc_all {us : List Tr} {B : List Tr → Prop} {A : Nat → Tr → List Tr → (Nat → List Tr → Prop) → Prop} (C : Nat → Tr → Prop) (hz : us.length ≤ sizeLine)
    (hs : ∀ (i : Nat) t acc, us[i]? = some t → acc.length < sizeLine → ∀ I : Nat → List Tr → Prop, (∀ y, C i y → I (i + 1) (acc ++ [y])) → A i t acc I) (hk : ∀ acc : List Tr, acc.length = us.length → (∀ (i : Nat) y, acc[i]? = some y → C i y) → B acc) :
    ∃ I : Nat → List Tr → Prop, I 0 [] ∧ (∀ (i : Nat) t acc, us[i]? = some t → I i acc → A i t acc I) ∧ ∀ acc, I us.length acc → B acc :=
  ⟨fun i acc => acc.length = i ∧ ∀ (l : Nat) y, acc[l]? = some y → C l y, ⟨rfl, fun l y e => by simp at e⟩, fun i t acc e ⟨h1, h2⟩ => by
    obtain ⟨hi, _⟩ := List.getElem?_eq_some_iff.mp e
    refine hs i t acc e (by omega) _ fun y hy => ⟨by rw [List.length_append, h1]; rfl, fun l w hw => ?_⟩
    by_cases hl : l < acc.length
    · rw [List.getElem?_append_left hl] at hw; exact h2 l w hw
    · rw [List.getElem?_append_right (by omega)] at hw
      have hl2 : l - acc.length = 0 := by
        by_cases q : l - acc.length = 0
        · exact q
        · rw [List.getElem?_eq_none (by simp; omega)] at hw; cases hw
      rw [hl2] at hw
      have e2 : y = w := by simpa using hw
      subst e2
      have : l = i := by omega
      rw [this]; exact hy, fun acc ⟨h1, h2⟩ => hk acc h1 h2⟩
/-- a for: an invariant by places -/
theorem fr_inv {nx : SK} {A : Nat → Tr → Env → Sto → (Nat → Env → Sto → Prop) → Prop} (I : Nat → Env → Sto → Prop) (h0 : I 0 G m) (hs : ∀ (i : Nat) t G' m', ts[i]? = some t → I i G' m' → A i t G' m' I) (hd : ∀ G' m', I ts.length G' m' → nx G' m') :
    ∃ I : Nat → Env → Sto → Prop, I 0 G m ∧ (∀ (i : Nat) t G' m', ts[i]? = some t → I i G' m' → A i t G' m' I) ∧ ∀ G' m', I ts.length G' m' → nx G' m' := ⟨I, h0, hs, hd⟩
end

/-! ### x = list(e), an owned list at the site j -/
abbrev vNewC (i j : Nat) (e : VE) : VS := fun nx _ _ _ ex G m => e G m (fun d => ∃ ts, (view m d = some (.lst ts) ∨ view m d = some (.tup ts)) ∧ j < m.length ∧ noRef j m (G.set i none) = true ∧ nx (G.set i (some (.loc j))) (m.set j (some (.lst ts)))) (fun n => ex n G m)
theorem st_newC {nx : SK} {G : Env} {m : Sto} {d : Dv} {i j : Nat} {ts : List Tr} (h1 : view m d = some (.lst ts)) (h3 : j < m.length) (h4 : noRef j m (G.set i none) = true) (h : nx (G.set i (some (.loc j))) (m.set j (some (.lst ts)))) :
    ∃ ts, (view m d = some (.lst ts) ∨ view m d = some (.tup ts)) ∧ j < m.length ∧ noRef j m (G.set i none) = true ∧ nx (G.set i (some (.loc j))) (m.set j (some (.lst ts))) := ⟨ts, .inl h1, h3, h4, h⟩
section
variable {X : Cx} {Z : Rsc} {W : WX} {e : Expr} {ve : VE} {pos : Pos}
theorem vs_newC {i j : Nat} {x : Str} {pos' p2 p3 : Pos} (h0 : Z.n0 ≤ j) (hg : Gl X "list") (hm : X.mg "list" = none) (hN : X.N.Nodup) (hi : X.N[i]? = some x) (hx : Loc X.env.scope x) (h : PE X e (LE X.K X.mg Z W ve)) (he : starEach [e] X.env = (false, eval e X.env) :: starEach [] X.env := by rfl) (hpl : (backTo p3 (starEach [] X.env)).any (·.1) = false := by rfl)
    (hs : swapsWith (.Call (.Name "list" p2) [e] [] p3) (some (.Name x pos')) pos.line X.env = pure false := by rfl) (hf : X.fn x = true ∨ X.env.scope.names.lookup x = some .local := by first | exact .inl rfl | exact .inr rfl | assumption) :
    PS X (.Assign [.Name x pos'] (.Call (.Name "list" p2) [e] [] p3) pos) (LS X.K X.mg Z W (vNewC i j ve)) :=
  PS.imp (ps_set hN hi hx (pe_callTy call_list_of hg hm (by decide +kernel) (pa_cons h pa_nil he) (by decide) (by decide) he hpl) hs hf) fun D σ H ⟨P, R, as, G, m, nx, rt, bk, ct, ex, r, h, k⟩ => LE.go r h (fun d v R1 H1 ⟨ts, e1, hj, hn, h1⟩ n1 r1 d1 => by
    rcases e1 with e1 | e1
    · obtain ⟨a, xs, rfl, hx, rx⟩ := r1.vLst d1 e1
      exact ⟨a, xs, rfl, .inl (.of hx), fun p hp => k.nx _ _ _ _ _ _ h1 (r1.newAt h0 hp hj hn ⟨xs, upd_same, rx⟩ rfl)⟩
    · obtain ⟨a, xs, rfl, hx, rx⟩ := r1.vTup d1 e1
      exact ⟨a, xs, rfl, .inr (.of hx), fun p hp => k.nx _ _ _ _ _ _ h1 (r1.newAt h0 hp hj hn ⟨xs, upd_same, rx⟩ rfl)⟩) k.er
end
theorem noHnd_noH : ∀ G : Env, noHnd (noH G) = true
  | [] => rfl
  | none :: r => noHnd_noH r
  | some (.t _) :: r => noHnd_noH r
  | some (.loc _) :: r => noHnd_noH r
  | some (.hnd _) :: r => noHnd_noH r
theorem noHnd_tail {o : Option Dv} {r : Env} (h : noHnd (o :: r) = true) : noHnd r = true := by
  cases o with
  | none => exact h
  | some d => cases d with
    | t x => exact h
    | loc x => exact h
    | hnd x => cases h
/-! ### a law's promise -/
def spLaw (K : PySem.W.Frag) : Sp := fun vs H Q _ => ∃ (a : Addr) (ns : List Int), vs = [.ref a] ∧ SqL K H a (ns.map V.int) ∧ ns.length ≤ 63 ∧ ∀ H', Q (.bl true) H'
def S_law : VSp := fun ds k _ => ∃ ns : List Int, ds = [.t (.scr ns)] ∧ ns.length ≤ 63 ∧ k (.bl true)
theorem law_lift {K : PySem.W.Frag} {mg : Str → Option Value} (vs : List V) (H : Hp) (Q : VK) (E : L2.XK) (h : spLaw K vs H Q E) : liftS K mg Z0 1 S_law vs H Q E := by
  obtain ⟨a, ns, rfl, hS, hn, hq⟩ := h
  refine ⟨rfl, ⟨H, H, fun _ => False, fun _ => 0, fun _ => False, []⟩, H, [.t (.scr ns)], fun y => y = .bl true, fun _ => False, rfl, rfl, fun _ z => z, ?_, .cons (.t (.scr hS)) .nil, ⟨ns, rfl, hn, rfl⟩, fun y v R' H' e r rv => ?_, fun _ _ _ _ z => z.elim⟩
  · exact ⟨Same.refl _, rfl, fun i d e => by simp at e, fun j x e => by simp at e, fun j k x y a e => by simp at e, fun a z => z, fun a z => z.elim, fun a o e _ _ => e, fun a e => e, fun a e => .inl e, Same.refl _, rfl, fun j hj => absurd hj (Nat.not_lt_zero _)⟩
  · subst e
    cases rv
    exact hq _
end VL

/-! VL, part O: expressions that make or change owned objects; defs that do. -/
namespace VL
open PySem L2

/-! ### sites renamed -/
def renI (f : Nat → Option Nat) : Tr → Option Tr
  | .at j => (f j).map .at
  | x => some x
def renT (f : Nat → Option Nat) : Tr → Option Tr
  | .dt ts => (seeL (renI f) ts).map .dt
  | .dl ts => (seeL (renI f) ts).map .dl
  | .di c fs => (seeP (renI f) fs).map (.di c)
  | x => some x
section
variable {K : PySem.W.Frag} {mg : Str → Option Value} {Z Z' : Rsc} {P : Pm} {R R' H H' : Hp} {as as' : List Addr} {G : Env} {m m' : Sto} {σ : L2.St}
/-- items that may be carried over: sites by their new numbers, known data where C says so -/
theorem ren_ch {f : Nat → Option Nat} {C : Tr → Prop} (hf : ∀ i j a, f i = some j → as[i]? = some a → as'[j]? = some a) (hk : ∀ v t, C t → Rep K mg R v t → Rep K mg R' v t) {v : V} {t x : Tr} (h : ChR K mg R as v t) (e : renI f t = some x) (c : (∀ j, t ≠ .at j) → C t) : ChR K mg R' as' v x := by
  cases h with
  | k h =>
    have n : ∀ j, t ≠ .at j := fun j z => by subst z; cases h
    have e' : x = t := by cases t <;> first | (exact (Option.some.inj e).symm) | (exact absurd rfl (n _))
    subst e'
    exact .k (hk _ _ (c n) h)
  | @s i a h =>
    have e : (f i).map Tr.at = some x := e
    cases q : f i with
    | none => rw [q] at e; cases e
    | some j => rw [q] at e; cases e; exact .s (hf _ _ _ q h)
/-- what a cell's known items must be -/
def CellC (C : Tr → Prop) : Tr → Prop
  | .lst ts => ∀ t ∈ ts, C t
  | .dic ts => ∀ t ∈ ts, C t.2
  | .ins _ ts => ∀ t ∈ ts, C t.2
  | .dt ts => ∀ t ∈ ts, (∀ j, t ≠ .at j) → C t
  | .dl ts => ∀ t ∈ ts, (∀ j, t ≠ .at j) → C t
  | .di _ ts => ∀ t ∈ ts, (∀ j, t.2 ≠ .at j) → C t.2
  | _ => True
theorem paired_impM {α β : Type} {F F' : α → β → Prop} : ∀ {l : List α} {m : List β}, Paired F l m → (∀ a b, b ∈ m → F a b → F' a b) → Paired F' l m := fun h q => paired_imp h q
theorem Own.ren {f : Nat → Option Nat} {C : Tr → Prop} (hf : ∀ i j a, f i = some j → as[i]? = some a → as'[j]? = some a) (hk : ∀ v t, C t → Rep K mg R v t → Rep K mg R' v t) {a : Addr} {x y : Tr} (h : Own K mg R as H a x) (e : renT f x = some y) (c : CellC C x) : Own K mg R' as' H a y := by
  have lst : ∀ {ts : List Tr} {xs : List V} {us : List Tr}, Paired (ChR K mg R as) xs ts → seeL (renI f) ts = some us → (∀ t ∈ ts, (∀ j, t ≠ .at j) → C t) → Paired (ChR K mg R' as') xs us := fun {ts xs us} h => by
    induction h generalizing us with
    | nil => intro e _; simp [seeL] at e; subst e; exact .nil
    | @cons v t l l' r _ ih =>
      intro e hC
      unfold seeL at e
      cases q : renI f t with
      | none => rw [q] at e; cases e
      | some x =>
        rw [q, Option.bind_some] at e
        cases q2 : seeL (renI f) l' with
        | none => rw [q2] at e; cases e
        | some us' => rw [q2] at e; cases e; exact .cons (ren_ch hf hk r q (hC t List.mem_cons_self)) (ih q2 fun t ht => hC t (List.mem_cons_of_mem _ ht))
  have prs : ∀ {ts : List (Str × Tr)} {xs : List (Str × V)} {us : List (Str × Tr)}, Paired (fun p q => p.1 = q.1 ∧ ChR K mg R as p.2 q.2) xs ts → seeP (renI f) ts = some us → (∀ t ∈ ts, (∀ j, t.2 ≠ .at j) → C t.2) → Paired (fun p q => p.1 = q.1 ∧ ChR K mg R' as' p.2 q.2) xs us := fun {ts xs us} h => by
    induction h generalizing us with
    | nil => intro e _; simp [seeP] at e; subst e; exact .nil
    | @cons v t l l' r _ ih =>
      intro e hC
      unfold seeP at e
      cases q : renI f t.2 with
      | none => rw [q] at e; cases e
      | some x =>
        rw [q, Option.bind_some] at e
        cases q2 : seeP (renI f) l' with
        | none => rw [q2] at e; cases e
        | some us' => rw [q2] at e; cases e; exact .cons ⟨r.1, ren_ch hf hk r.2 q (hC t List.mem_cons_self)⟩ (ih q2 fun t ht => hC t (List.mem_cons_of_mem _ ht))
  cases x with
  | lst ts => cases e; obtain ⟨xs, h1, h2⟩ := h; exact ⟨xs, h1, paired_imp h2 fun v t ht r => hk v t (c t ht) r⟩
  | dic ts => cases e; obtain ⟨xs, h1, h2⟩ := h; exact ⟨xs, h1, paired_imp h2 fun v t ht r => ⟨r.1, hk _ _ (c t ht) r.2⟩⟩
  | ins d ts => cases e; obtain ⟨D, dx, xs, h0, h1, h2⟩ := h; exact ⟨D, dx, xs, h0, h1, paired_imp h2 fun v t ht r => ⟨r.1, hk _ _ (c t ht) r.2⟩⟩
  | dt ts =>
    obtain ⟨xs, h1, h2⟩ := h
    have e : (seeL (renI f) ts).map Tr.dt = some y := e
    cases q : seeL (renI f) ts with
    | none => rw [q] at e; cases e
    | some us => rw [q] at e; cases e; exact ⟨xs, h1, lst h2 q c⟩
  | dl ts =>
    obtain ⟨xs, h1, h2⟩ := h
    have e : (seeL (renI f) ts).map Tr.dl = some y := e
    cases q : seeL (renI f) ts with
    | none => rw [q] at e; cases e
    | some us => rw [q] at e; cases e; exact ⟨xs, h1, lst h2 q c⟩
  | di d ts =>
    obtain ⟨D, dx, xs, h0, h1, h2⟩ := h
    have e : (seeP (renI f) ts).map (Tr.di d) = some y := e
    cases q : seeP (renI f) ts with
    | none => rw [q] at e; cases e
    | some us => rw [q] at e; cases e; exact ⟨D, dx, xs, h0, h1, prs h2 q c⟩
  | _ => exact h.elim
end

/-- the place of a site in a list of sites -/
def ixIn (js : List Nat) (j : Nat) : Option Nat := js.idxOf? j
/-- what l holds, at the places js from what f tells, one by one -/
def putS {α : Type} (l : List α) (f : Nat → Option α) : List Nat → Nat → List α
  | [], _ => l
  | j :: js, i => match f i with
    | some a => (putS l f js (i + 1)).set j a
    | none => putS l f js (i + 1)
theorem putS_len {α : Type} {l : List α} {f : Nat → Option α} : ∀ {js : List Nat} {i : Nat}, (putS l f js i).length = l.length
  | [], _ => rfl
  | j :: js, i => by
    unfold putS
    cases f i with
    | none => exact putS_len
    | some a => show ((putS l f js (i + 1)).set j a).length = _; rw [List.length_set]; exact putS_len
theorem putS_out {α : Type} {l : List α} {f : Nat → Option α} {j : Nat} : ∀ {js : List Nat} {i : Nat}, j ∉ js → (putS l f js i)[j]? = l[j]?
  | [], _, _ => rfl
  | k :: js, i, h => by
    rw [List.mem_cons, not_or] at h
    unfold putS
    cases f i with
    | none => exact putS_out h.2
    | some a =>
      show ((putS l f js (i + 1)).set k a)[j]? = _
      rw [List.getElem?_set_ne (fun z => h.1 z.symm)]
      exact putS_out h.2
theorem putS_in {α : Type} {l : List α} {f : Nat → Option α} {j q : Nat} {a : α} : ∀ {js : List Nat} {i : Nat}, js.Nodup → js[q]? = some j → f (i + q) = some a → j < l.length → (putS l f js i)[j]? = some a
  | [], _, _, h, _, _ => by simp at h
  | k :: js, i, nd, h, e, hl => by
    rw [List.nodup_cons] at nd
    unfold putS
    cases q with
    | zero =>
      simp at h
      subst h
      rw [Nat.add_zero] at e
      rw [e]
      show ((putS l f js (i + 1)).set k a)[k]? = _
      exact List.getElem?_set_self (by rw [putS_len]; exact hl)
    | succ q =>
      have h' : js[q]? = some j := by simpa using h
      have r := putS_in (i := i + 1) nd.2 h' (by rw [← e]; congr 1; omega) hl
      have hk : k ≠ j := fun z => nd.1 (by rw [z]; exact List.mem_of_getElem? h')
      cases f i with
      | none => exact r
      | some b =>
        show ((putS l f js (i + 1)).set k b)[j]? = _
        rw [List.getElem?_set_ne hk]
        exact r
theorem ixIn_some {js : List Nat} {j i : Nat} (h : ixIn js j = some i) : js[i]? = some j := by
  unfold ixIn at h
  obtain ⟨hi, h1, _⟩ := List.idxOf?_eq_some_iff.mp h
  rw [List.getElem?_eq_getElem hi, h1]

/-! ### readings -/
abbrev MK := Dv → Sto → Prop
/-- an expression's reading that changes the store -/
abbrev VM := Env → Sto → MK → XS → Prop
abbrev VMA := Env → Sto → (List Dv → Sto → Prop) → XS → Prop
abbrev VMT := Env → Sto → (Bool → Sto → Prop) → XS → Prop
def drG : Option Nat → Env → Env
  | none, G => G
  | some i, G => G.set i none
structure KnM (K : PySem.W.Frag) (mg : Str → Option Value) (Z : Rsc) (W : WX) (dr : Option Nat) (fp : List Nat) (P : Pm) (R : Hp) (as : List Addr) (G : Env) (m : Sto) (σ : L2.St) (H : Hp) (k : MK) (x : XS) (Q : VK) : Prop where
  ok : ∀ d v m' R' as' H', k d m' → Same R R' → (∀ j : Nat, j ∉ fp → as'[j]? = as[j]?) → Rel K mg Z P R' as' (drG dr G) m' σ H' → DRep K mg R' P.hd as' v d → Q v H'
  er : ∀ nm cl m' R' as' G' H', x nm G' m' → mg nm = some cl → Rel K mg Z P R' as' G' m' σ H' → W cl none σ H'
structure KnMT (K : PySem.W.Frag) (mg : Str → Option Value) (Z : Rsc) (W : WX) (fp : List Nat) (P : Pm) (R : Hp) (as : List Addr) (G : Env) (m : Sto) (σ : L2.St) (H : Hp) (k : Bool → Sto → Prop) (x : XS) (Q : Bool → Hp → Prop) : Prop where
  ok : ∀ b m' R' as' H', k b m' → Same R R' → (∀ j : Nat, j ∉ fp → as'[j]? = as[j]?) → Rel K mg Z P R' as' G m' σ H' → Q b H'
  er : ∀ nm cl m' R' as' G' H', x nm G' m' → mg nm = some cl → Rel K mg Z P R' as' G' m' σ H' → W cl none σ H'
structure KnMA (K : PySem.W.Frag) (mg : Str → Option Value) (Z : Rsc) (W : WX) (fp : List Nat) (P : Pm) (R : Hp) (as : List Addr) (G : Env) (m : Sto) (σ : L2.St) (H : Hp) (k : List Dv → Sto → Prop) (x : XS) (Q : List V → Hp → Prop) : Prop where
  ok : ∀ ds vs m' R' as' H', k ds m' → Same R R' → (∀ j : Nat, j ∉ fp → as'[j]? = as[j]?) → Rel K mg Z P R' as' G m' σ H' → Paired (DRep K mg R' P.hd as') vs ds → Q vs H'
  er : ∀ nm cl m' R' as' G' H', x nm G' m' → mg nm = some cl → Rel K mg Z P R' as' G' m' σ H' → W cl none σ H'
def LM (K : PySem.W.Frag) (mg : Str → Option Value) (Z : Rsc) (W : WX) (dr : Option Nat) (fp : List Nat) (e : VM) : TE := fun σ H Q => ∃ P R as G m k x, Rel K mg Z P R as G m σ H ∧ e G m k x ∧ KnM K mg Z W dr fp P R as G m σ H k x Q
def LMT (K : PySem.W.Frag) (mg : Str → Option Value) (Z : Rsc) (W : WX) (fp : List Nat) (e : VMT) : TT := fun σ H Q => ∃ P R as G m k x, Rel K mg Z P R as G m σ H ∧ e G m k x ∧ KnMT K mg Z W fp P R as G m σ H k x Q
def LMA (K : PySem.W.Frag) (mg : Str → Option Value) (Z : Rsc) (W : WX) (fp : List Nat) (e : VMA) : TA := fun σ H Q => ∃ P R as G m k x, Rel K mg Z P R as G m σ H ∧ e G m k x ∧ KnMA K mg Z W fp P R as G m σ H k x Q

theorem Rel.drS {K : PySem.W.Frag} {mg : Str → Option Value} {Z : Rsc} {P : Pm} {R H : Hp} {as : List Addr} {G : Env} {m : Sto} {σ : L2.St} (r : Rel K mg Z P R as G m σ H) (dr : Option Nat) : Rel K mg Z P R as (drG dr G) m σ H := by
  cases dr with
  | none => exact r
  | some i => exact r.drop1 i
/-- an expression that changes no store -/
abbrev vmE (e : VE) : VM := fun G m k x => e G m (fun d => k d m) (fun n => x n G m)
/-- a site's object is another's item: the last one handed on -/
abbrev vmaNil : VMA := fun _ m k _ => k [] m
def notIn (fp : List Nat) : Dv → Bool
  | .loc j => !fp.contains j
  | _ => true
abbrev vmaCons (fp : List Nat) (e : VM) (r : VMA) : VMA := fun G m k x => e G m (fun d m1 => notIn fp d = true ∧ r G m1 (fun ds m2 => k (d :: ds) m2) x) x
theorem DRep.far {K : PySem.W.Frag} {mg : Str → Option Value} {R R' : Hp} {hd : Nat → Addr} {as as' : List Addr} {v : V} {d : Dv} {fp : List Nat} (s : Same R R') (q : ∀ j : Nat, j ∉ fp → as'[j]? = as[j]?) (n : notIn fp d = true) (h : DRep K mg R hd as v d) : DRep K mg R' hd as' v d := by
  cases h with
  | t h => exact .t (h.mono s)
  | hnd i => exact .hnd i
  | @loc j a h =>
    refine .loc ?_
    rw [q j (by simpa [notIn] using n)]
    exact h
section
variable {X : Cx} {Z : Rsc} {W : WX} {e : Expr} {es : List Expr} {ve : VE} {vm : VM} {va : VMA} {fp fp' : List Nat}
theorem vm_e (h : PE X e (LE X.K X.mg Z W ve)) : PE X e (LM X.K X.mg Z W none [] (vmE ve)) :=
  PE.imp h fun σ H Q ⟨P, R, as, G, m, k, x, r, h, n⟩ => LE.go r h (fun d v R1 H1 h1 n1 r1 d1 => n.ok d v m R1 as H1 h1 n1.r (fun _ _ => rfl) r1 d1) fun nm cl R1 H1 a b c d => n.er nm cl m R1 as G H1 a b d
theorem vma_nil : PA X [] (LMA X.K X.mg Z W [] vmaNil) := PA.imp pa_nil fun σ H Q ⟨P, R, as, G, m, k, x, r, h, n⟩ => n.ok [] [] m R as H h (Same.refl _) (fun _ _ => rfl) r .nil
theorem vma_cons (ha : PE X e (LM X.K X.mg Z W none fp vm)) (hr : PA X es (LMA X.K X.mg Z W fp' va)) (hs : starEach (e :: es) X.env = (false, eval e X.env) :: starEach es X.env := by rfl) : PA X (e :: es) (LMA X.K X.mg Z W (fp ++ fp') (vmaCons fp' vm va)) :=
  PA.imp (pa_cons ha hr hs) fun σ H Q ⟨P, R, as, G, m, k, x, r, h, n⟩ => ⟨P, R, as, G, m, _, x, r, h, fun d v m1 R1 as1 H1 ⟨hn, h1⟩ s1 q1 r1 d1 =>
    ⟨P, R1, as1, G, m1, _, x, r1, h1, fun ds vs m2 R2 as2 H2 h2 s2 q2 r2 d2 => n.ok _ _ m2 R2 as2 H2 h2 (s1.trans s2) (fun j hj => by
      rw [List.mem_append, not_or] at hj
      rw [q2 j hj.2, q1 j hj.1]) r2 (.cons (d1.far s2 q2 hn) d2), n.er⟩, n.er⟩
end
end VL

/-! VL, part P: defs that change what is handed in, or hand back what is new; calls of them. -/
namespace VL
open PySem L2

/-- a def's promise: from its arguments and the objects handed in to be changed; what is wanted of the answer and of the objects then -/
abbrev VSpM := List Dv → Sto → (Dv → Sto → Prop) → (Str → Sto → Prop) → Prop
def liftM (K : PySem.W.Frag) (mg : Str → Option Value) (Z : Rsc) (n : Nat) (sp : VSpM) : Sp := fun vs H Q E => vs.length = n ∧ ∃ P R ds as m k x, P.H0 = H ∧ P.R0 = R ∧ P.as0 = as ∧ (∀ a, P.mu a → a ∈ as) ∧ as.length = Z.n0 ∧
  Rel K mg Z P R as [] m [] H ∧ Paired (DRep K mg R P.hd as) vs ds ∧ sp ds m k x ∧
  (∀ d m' v R' as' H', k d m' → Rel K mg Z P R' as' [] m' [] H' → DRep K mg R' P.hd as' v d → Q v H') ∧
  ∀ nm cl m' R' as' H', x nm m' → mg nm = some cl → Rel K mg Z P R' as' [] m' [] H' → E cl none H'

section
variable {K : PySem.W.Frag} {mg : Str → Option Value} {Z Z' : Rsc} {P : Pm} {R R' H H' : Hp} {as as' : List Addr} {G : Env} {m m' : Sto} {σ : L2.St}
theorem Rel.noG (r : Rel K mg Z P R as G m σ H) : Rel K mg Z P R as [] m [] H := { r with len := rfl, env := fun i d e => by simp at e }
theorem Rel.beginM {N : List Str} {vs : List V} {ds : List Dv} (n : Nat) (r : Rel K mg Z P R as [] m [] H) (hl0 : as.length = Z.n0) (h : Paired (DRep K mg R P.hd as) vs ds) (hl : vs.length ≤ N.length) : Rel K mg Z P R (as ++ List.replicate n 0) (startG N ds) (m ++ blank n) (L2.start N vs) H := by
  have ml : m.length = as.length := r.la.symm
  have up : ∀ {v : V} {d : Dv}, DRep K mg R P.hd as v d → DRep K mg R P.hd (as ++ List.replicate n 0) v d := fun h => by
    cases h with
    | t h => exact .t h
    | hnd i => exact .hnd i
    | @loc j a h => exact .loc (by rw [List.getElem?_append_left (List.getElem?_eq_some_iff.mp h).1]; exact h)
  have old : ∀ (j : Nat) x, (m ++ blank n)[j]? = some (some x) → m[j]? = some (some x) := fun j x e => by
    by_cases hj : j < m.length
    · rw [List.getElem?_append_left hj] at e; exact e
    · rw [List.getElem?_append_right (by omega)] at e
      unfold blank at e
      rw [List.getElem?_replicate] at e
      split at e <;> cases e
  have asl : ∀ (j : Nat) a, as[j]? = some a → (as ++ List.replicate n 0)[j]? = some a := fun j a h => by rw [List.getElem?_append_left (List.getElem?_eq_some_iff.mp h).1]; exact h
  refine ⟨r.ex, ?_, fun i d e => ?_, fun j x e => ?_, fun j k x y a e1 e2 e3 e4 => ?_, r.vol, r.rb, r.frame, r.dom, r.fresh, r.r0, by simp [blank, ml], fun j hj => ?_⟩
  · have e := Paired.length h
    unfold startG L2.start
    simp only [List.length_append, List.length_map, List.length_replicate]
    omega
  · have el := Paired.length h
    unfold startG at e
    by_cases hi : i < ds.length
    · rw [List.getElem?_append_left (by simpa using hi), List.getElem?_map] at e
      cases q : ds[i]? with
      | none => rw [q] at e; cases e
      | some d' =>
        rw [q] at e
        cases e
        have hv : i < vs.length := by omega
        refine ⟨vs[i], ?_, up (paired_at h i _ _ (List.getElem?_eq_getElem hv) q)⟩
        unfold L2.start
        rw [List.getElem?_append_left (by simpa using hv), List.getElem?_map, List.getElem?_eq_getElem hv]
        rfl
    · rw [List.getElem?_append_right (by simpa using hi), List.getElem?_replicate] at e
      split at e <;> cases e
  · obtain ⟨a, h1, h2, h3⟩ := r.sto j x (old j x e)
    exact ⟨a, asl _ _ h1, h2.monoA (Same.refl R) (fun _ q => q) (fun l b _ q => asl l b q), h3⟩
  · have back : ∀ (j : Nat) x, (m ++ blank n)[j]? = some (some x) → (as ++ List.replicate n 0)[j]? = as[j]? := fun j x e => by
      rw [List.getElem?_append_left (by rw [r.la]; exact (List.getElem?_eq_some_iff.mp (old j x e)).1)]
    rw [back j x e1] at e3
    rw [back k y e2] at e4
    exact r.inj j k x y a (old j x e1) (old k y e2) e3 e4
  · rw [List.getElem?_append_left (by omega)]
    exact r.pre j hj
end

section
variable {Pg : Program} {w : World} {K : PySem.W.Frag} {mg : Str → Option Value} {base : Heap}
theorem fun_M {x qual : Str} {st : Stmt} {f : Addr} {fd : FuncData} {N ps : List Str} {k : Nat} (Z : Rsc) {sp : VSpM} {u : VS} (nst : Nat) (F : Fun K x qual st f fd) (S : FnScope N ps (defScope st))
    (body : ∀ (cdv : Value) (A : Around) (outer : List PySem.Env) (s : Shared) (H : Hp) (E : L2.XK), Room k (A.deeper (PyProof.Rows.envOfC qual (defScope st) s.heap.objs.size f cdv)) →
      PSs (cxOf CX0 Pg w K mg base N qual (defScope st) f cdv A outer s H E).nox (defBody st) (LS K mg Z W0 u))
    (hu : ∀ ds m k x, ds.length = ps.length → sp ds m k x → u (fun _ m' => k (.t .non) m') (fun d m' => k d m') (fun _ _ => False) (fun _ _ => False) (fun _ _ _ => False) (startG N ds) (m ++ blank nst)) :
    FnOk Pg w K mg base CX0 (k + 1) f fd ps (liftM K mg Z ps.length sp) := by
  have hpl : ps.length ≤ N.length := by have := congrArg List.length S.pre; rw [List.length_take] at this; omega
  refine F.ok S (fun vs H Q E h => h.1) (fun cdv A outer s H vs Q E hr h => ⟨_, body cdv A outer s H E hr, ?_⟩)
  obtain ⟨hl, P, R, ds, as, m, k, x, e0, e1, e2, e3, e4, r, rv, hs, hq, he⟩ := h
  refine ⟨P, R, _, startG N ds, m ++ blank nst, _, _, _, _, _, r.beginM nst e4 rv (by omega), hu ds m k x (by rw [← Paired.length rv]; exact hl) hs, ?_⟩
  exact ⟨fun G m R as σ H' a b => hq (.t .non) m .non R as H' a b.noG (.t .non), fun d m v R as G σ H' a b c => hq d m v R as H' a b.noG c, fun _ _ _ _ _ _ a _ => a, fun _ _ _ _ _ _ a _ => a, fun _ _ _ _ _ _ _ _ a => a.elim⟩
theorem fun_MX {x qual : Str} {st : Stmt} {f : Addr} {fd : FuncData} {N ps : List Str} {k : Nat} (Z : Rsc) {sp : VSpM} {u : VS} (nst : Nat) (F : Fun K x qual st f fd) (S : FnScope N ps (defScope st))
    (body : ∀ (cdv : Value) (A : Around) (outer : List PySem.Env) (s : Shared) (H : Hp) (E : L2.XK), Room k (A.deeper (PyProof.Rows.envOfC qual (defScope st) s.heap.objs.size f cdv)) →
      PSs (cxOf (L2.CX Pg w) Pg w K mg base N qual (defScope st) f cdv A outer s H E) (defBody st) (LS K mg Z (fun cls d _ H => E cls d H) u))
    (hu : ∀ ds m k x, ds.length = ps.length → sp ds m k x → u (fun _ m' => k (.t .non) m') (fun d m' => k d m') (fun _ _ => False) (fun _ _ => False) (fun n _ m' => x n m') (startG N ds) (m ++ blank nst)) :
    FnOk Pg w K mg base (L2.CX Pg w) (k + 1) f fd ps (liftM K mg Z ps.length sp) := by
  have hpl : ps.length ≤ N.length := by have := congrArg List.length S.pre; rw [List.length_take] at this; omega
  refine F.okX S (fun vs H Q E h => h.1) (fun cdv A outer s H vs Q E hr h => ⟨_, body cdv A outer s H E hr, ?_⟩)
  obtain ⟨hl, P, R, ds, as, m, k, x, e0, e1, e2, e3, e4, r, rv, hs, hq, he⟩ := h
  refine ⟨P, R, _, startG N ds, m ++ blank nst, _, _, _, _, _, r.beginM nst e4 rv (by omega), hu ds m k x (by rw [← Paired.length rv]; exact hl) hs, ?_⟩
  exact ⟨fun G m R as σ H' a b => hq (.t .non) m .non R as H' a b.noG (.t .non), fun d m v R as G σ H' a b c => hq d m v R as H' a b.noG c, fun _ _ _ _ _ _ a _ => a, fun _ _ _ _ _ _ a _ => a, fun nm cl m R as G σ H' a b c => he nm cl m R as H' a b c.noG⟩
/-- what is new and handed back, as data -/
def spS (sp : VSpM) : VSp := fun ds k x => sp ds [] (fun d m => ∃ y, viewD m d = some y ∧ k y) (fun n _ => x n)
theorem liftS_of {Z : Rsc} {n : Nat} {sp : VSpM} (hz : Z.n0 = 0) {vs : List V} {H : Hp} {Q : VK} {E : L2.XK} (h : liftS K mg Z n (spS sp) vs H Q E) : liftM K mg Z n sp vs H Q E := by
  obtain ⟨hl, P, R, ds, k, x, e0, e1, e2, r, rv, hs, hq, he⟩ := h
  have r0 : Rel K mg Z { P with as0 := [] } R [] [] [] [] H := { r with pre := fun j hj => by omega }
  refine ⟨hl, { P with as0 := [] }, R, ds, [], [], _, _, e0, e1, rfl, fun a ha => absurd ha (e2 a), hz.symm, r0, rv, hs, fun d m' v R' as' H' ⟨y, ey, hk⟩ r' dv => ?_, fun nm cl m' R' as' H' hx hc r' => he nm cl R' H' hx hc ?_⟩
  · have fin : ∀ {R2 : Hp} {m2 : Sto}, Rel K mg Z { P with as0 := [] } R2 as' [] m2 [] H' → Rel K mg Z P R2 [] [] [] [] H' := fun q => { q.bare hz with pre := fun j hj => by omega }
    cases dv with
    | t rv => cases ey; exact hq _ _ R' H' hk (fin r') rv
    | hnd i => cases ey
    | @loc j a ha =>
      have hr : (reach m' 12 (.at j)).all (0 ≤ ·) = true := by simp
      obtain ⟨R2, _, _, r2, rep⟩ := r'.frz0 (show see m' 12 (.at j) = some y from ey) (fun k _ => by omega)
      exact hq _ _ R2 H' hk (fin r2) (rep a ha)
  · exact { r'.bare hz with pre := fun j hj => by omega }
end
end VL

/-! VL, part Q: calls of defs that change what is handed in, or hand back what is new. -/
namespace VL
open PySem L2

def inA (js : List Nat) : Dv → Option Dv
  | .loc j => (ixIn js j).map .loc
  | d => some d
def inB (m : Sto) (js : List Nat) : Dv → Option Dv
  | .loc j => match ixIn js j with
    | some i => some (.loc i)
    | none => (viewD (wipeM m js) (.loc j)).map .t
  | d => some d
def argsM (f : Dv → Option Dv) : List Dv → Option (List Dv)
  | [] => some []
  | d :: ds => (f d).bind fun e => (argsM f ds).map (e :: ·)
def cellsIn (m : Sto) (f : Nat → Option Nat) : List Nat → Option Sto
  | [] => some []
  | j :: r => ((m.getD j none).bind (renT f)).bind fun x => (cellsIn m f r).map (some x :: ·)
def outD (ρ : List Nat) : Dv → Option Dv
  | .t x => some (.t x)
  | .loc i => (ρ[i]?).map .loc
  | .hnd _ => none
def outM (ρ : List Nat) (m m' : Sto) : Sto := putS m (fun i => some ((m'.getD i none).bind (renT fun j => ρ[j]?))) ρ 0
def freeOf (ns : List Nat) (m : Sto) (G : Env) : Bool := ns.all fun n => noLoc n G && noAtM n m
def flatD : Dv → Bool
  | .t x => x.flat
  | _ => true
def flatC (x : Tr) : Prop := CellC (fun t => t.flat = true) x
def AllEq (m : Sto) (P : Sto → Prop) : Prop := ∀ m2, m = m2 → P m2
def callM (sp : VSpM) (js ns : List Nat) (dr : Option Nat) (G : Env) (m : Sto) (ds : List Dv) (k : MK) (x : XS) : Prop :=
  decide ((js ++ ns).Nodup) = true ∧ (js ++ ns).all (· < m.length) = true ∧ freeOf ns (wipeM m (js ++ ns)) (drG dr G) = true ∧ ∃ cs, cellsIn m (ixIn js) js = some cs ∧
  ((∃ ds', argsM (inA js) ds = some ds' ∧ sp ds' cs (fun d m' => AllEq (outM (js ++ ns) m m') fun m2 => ∃ d', outD (js ++ ns) d = some d' ∧ k d' m2) (fun n m' => AllEq (outM (js ++ ns) m m') fun m2 => x n (drG dr G) m2)) ∨
   (∃ ds', argsM (inB m js) ds = some ds' ∧ sp ds' cs (fun d m' => flatD d = true ∧ (∀ i c, i < (js ++ ns).length → m'.getD i none = some c → flatC c) ∧ AllEq (outM (js ++ ns) m m') fun m2 => ∃ d', outD (js ++ ns) d = some d' ∧ k d' m2)
      (fun n m' => (∀ i c, i < (js ++ ns).length → m'.getD i none = some c → flatC c) ∧ AllEq (outM (js ++ ns) m m') fun m2 => x n (drG dr G) m2)))
abbrev vmCall (sp : VSpM) (js ns : List Nat) (dr : Option Nat) (es : VA) : VM := fun G m k x => es G m (fun ds => callM sp js ns dr G m ds k x) (fun n => x n G m)

section
variable {K : PySem.W.Frag} {mg : Str → Option Value} {Z Z' : Rsc} {W : WX} {P : Pm} {R R' H H' : Hp} {as as' : List Addr} {G : Env} {m m' : Sto} {σ : L2.St}
/-- where the sites lie -/
def atS (as : List Addr) (js : List Nat) : List Addr := js.map fun j => as.getD j 0
theorem atS_get {js : List Nat} {i j : Nat} (h : js[i]? = some j) : (atS as js)[i]? = some (as.getD j 0) := by
  unfold atS
  rw [List.getElem?_map, h]
  rfl
theorem cells_at {f : Nat → Option Nat} : ∀ {js : List Nat} {cs : Sto}, cellsIn m f js = some cs → cs.length = js.length ∧ ∀ (i : Nat) (c : Tr), cs[i]? = some (some c) → ∃ (j : Nat) (x : Tr), js[i]? = some j ∧ m[j]? = some (some x) ∧ renT f x = some c
  | [], cs, h => by simp [cellsIn] at h; subst h; exact ⟨rfl, fun i c e => by simp at e⟩
  | j :: js, cs, h => by
    unfold cellsIn at h
    cases e1 : m.getD j none with
    | none => rw [e1] at h; cases h
    | some x =>
      rw [e1, Option.bind_some] at h
      cases e2 : renT f x with
      | none => rw [e2] at h; cases h
      | some y =>
        rw [e2, Option.bind_some] at h
        cases e3 : cellsIn m f js with
        | none => rw [e3] at h; cases h
        | some r =>
          rw [e3] at h
          cases h
          obtain ⟨q1, q2⟩ := cells_at e3
          refine ⟨by simp [q1], fun i c e => ?_⟩
          cases i with
          | zero => simp at e; subst e; exact ⟨j, x, rfl, getD_some e1, e2⟩
          | succ i => obtain ⟨j', x', a, b, c⟩ := q2 i c (by simpa using e); exact ⟨j', x', by simpa using a, b, c⟩
theorem cells_all {f : Nat → Option Nat} : ∀ {js : List Nat} {cs : Sto}, cellsIn m f js = some cs → ∀ j ∈ js, ∃ x, m[j]? = some (some x)
  | [], cs, h, j, hj => by simp at hj
  | k :: js, cs, h, j, hj => by
    unfold cellsIn at h
    cases e1 : m.getD k none with
    | none => rw [e1] at h; cases h
    | some x =>
      rw [e1, Option.bind_some] at h
      cases e2 : renT f x with
      | none => rw [e2] at h; cases h
      | some y =>
        rw [e2, Option.bind_some] at h
        cases e3 : cellsIn m f js with
        | none => rw [e3] at h; cases h
        | some r =>
          rcases List.mem_cons.mp hj with z | z
          · subst z; exact ⟨x, getD_some e1⟩
          · exact cells_all e3 j z
/-- a run of a def on the sites js -/
def Pm.inner (P : Pm) (H Rc : Hp) (as : List Addr) (js : List Nat) : Pm := ⟨H, Rc, fun a => a ∈ atS as js, P.hd, P.B, atS as js⟩
theorem as_in (r : Rel K mg Z P R as G m σ H) {j : Nat} {x : Tr} (h : m[j]? = some (some x)) : as[j]? = some (as.getD j 0) := by
  obtain ⟨a, h1, _⟩ := r.sto j x h
  rw [List.getD_eq_getElem?_getD, h1]
  rfl
theorem Rel.enter (r : Rel K mg Z P R as G m σ H) (hZ : Z'.Z = Z.Z) {js : List Nat} (hn : Z'.n0 = js.length) (nd : js.Nodup) {cs : Sto} (hc : cellsIn m (ixIn js) js = some cs) {Rc : Hp} (s1 : Same R Rc) (s2 : Same Rc H) (hb : ∀ a, P.B a → Rc a = none) (hs : ∀ a, a ∈ atS as js → Rc a = none) :
    Rel K mg Z' (P.inner H Rc as js) Rc (atS as js) [] cs [] H := by
  obtain ⟨hl, hq⟩ := cells_at hc
  have live : ∀ (i : Nat) c, cs[i]? = some (some c) → ∃ j x, js[i]? = some j ∧ m[j]? = some (some x) ∧ renT (ixIn js) x = some c ∧ (atS as js)[i]? = as[j]? := fun i c e => by
    obtain ⟨j, x, h1, h2, h3⟩ := hq i c e
    exact ⟨j, x, h1, h2, h3, by rw [atS_get h1, as_in r h2]⟩
  refine ⟨s2, rfl, fun i d e => by simp at e, fun i c e => ?_, fun i l c c' a e1 e2 e3 e4 => ?_, by rw [hZ]; exact r.vol, hb, fun a o e _ _ => e, fun a e => e, fun a e => .inl e, Same.refl _, by rw [hl]; simp [atS], fun i _ => rfl⟩
  · obtain ⟨j, x, h1, h2, h3, h4⟩ := live i c e
    obtain ⟨a, q1, q2, q3, q4, q5⟩ := r.sto j x h2
    have ha : a ∈ atS as js := List.mem_of_getElem? (by rw [h4]; exact q1)
    refine ⟨a, by rw [h4]; exact q1, ?_, hs a ha, q4, .inr ⟨ha, by rw [hn]; exact (List.getElem?_eq_some_iff.mp h1).1⟩⟩
    have tr : ∀ C : Tr → Prop, (∀ t, C t) → CellC C x := fun C h => by cases x <;> intros <;> first | exact trivial | (intro t ht; exact h _) | (intro t ht _; exact h _)
    refine Own.ren (C := fun _ => True) (fun i' j' b hf hb' => ?_) (fun v t _ q => q.mono s1) q2 h3 (tr _ fun _ => trivial)
    have e' := ixIn_some hf
    rw [atS_get e', List.getD_eq_getElem?_getD, hb']
    rfl
  · obtain ⟨j, x, h1, h2, h3, h4⟩ := live i c e1
    obtain ⟨j', x', h1', h2', h3', h4'⟩ := live l c' e2
    rw [h4] at e3
    rw [h4'] at e4
    have := r.inj j j' x x' a h2 h2' e3 e4
    subst this
    exact (List.getElem?_inj (List.getElem?_eq_some_iff.mp h1).1 nd).mp (h1.trans h1'.symm)
theorem Rel.leaveM (r : Rel K mg Z P R as G m σ H) (hZ : Z'.Z = Z.Z) {js ns : List Nat} (hn : Z'.n0 = js.length) (n0 : ∀ n ∈ ns, Z.n0 ≤ n) (nd : (js ++ ns).Nodup) (lt : (js ++ ns).all (· < m.length) = true) {dr : Option Nat} (fr : freeOf ns (wipeM m (js ++ ns)) (drG dr G) = true) (hj : ∀ j ∈ js, ∃ x, m[j]? = some (some x))
    {Rc Rc' R2 : Hp} (q : Rel K mg Z' (P.inner H Rc as js) Rc' as' [] m' [] H') (s2 : Same R R2) (hf : ∀ a, R2 a ≠ none → R a ≠ none ∨ H a = none) (ex : Same R2 H') (rb : ∀ a, P.B a → R2 a = none) (hs : ∀ (i : Nat) c a, m'[i]? = some (some c) → as'[i]? = some a → R2 a = none)
    {C : Tr → Prop} (hk : ∀ v t, C t → Rep K mg Rc' v t → Rep K mg R2 v t) (hC : ∀ i c, i < (js ++ ns).length → m'.getD i none = some c → CellC C c) :
    Rel K mg Z P R2 (putS as (fun i => as'[i]?) (js ++ ns) 0) (drG dr G) (outM (js ++ ns) m m') σ H' ∧ (∀ j : Nat, j ∉ ns → (putS as (fun i => as'[i]?) (js ++ ns) 0)[j]? = as[j]?) ∧ ∀ i j a : Nat, (js ++ ns)[i]? = some j → as'[i]? = some a → (putS as (fun i => as'[i]?) (js ++ ns) 0)[j]? = some a := by
  have rd := r.drS dr
  have ltj : ∀ j ∈ js ++ ns, j < m.length := fun j hj => by
    rw [List.all_eq_true] at lt
    simpa using lt j hj
  have asl : as.length = m.length := r.la
  have to : ∀ i j a : Nat, (js ++ ns)[i]? = some j → as'[i]? = some a → (putS as (fun i => as'[i]?) (js ++ ns) 0)[j]? = some a := fun i j a h h' =>
    putS_in nd h (by rw [Nat.zero_add]; exact h') (by rw [asl]; exact ltj j (List.mem_of_getElem? h))
  -- what was handed in lies where it lay
  have jas : ∀ j ∈ js, (putS as (fun i => as'[i]?) (js ++ ns) 0)[j]? = as[j]? := fun j hjm => by
    obtain ⟨i, hi⟩ := List.getElem?_of_mem hjm
    obtain ⟨x, hx⟩ := hj j hjm
    have hil : i < js.length := (List.getElem?_eq_some_iff.mp hi).1
    have e1 : as'[i]? = (atS as js)[i]? := q.pre i (by rw [hn]; exact hil)
    rw [atS_get hi, ← as_in r hx] at e1
    rw [as_in r hx] at e1 ⊢
    exact to i j _ (by rw [List.getElem?_append_left hil]; exact hi) e1
  have far : ∀ j : Nat, j ∉ ns → (putS as (fun i => as'[i]?) (js ++ ns) 0)[j]? = as[j]? := fun j hjn => by
    by_cases h : j ∈ js
    · exact jas j h
    · exact putS_out (by rw [List.mem_append, not_or]; exact ⟨h, hjn⟩)
  -- the cells then
  have cell : ∀ (j : Nat) x, (outM (js ++ ns) m m')[j]? = some (some x) → (∃ i c, (js ++ ns)[i]? = some j ∧ m'[i]? = some (some c) ∧ renT (fun j => (js ++ ns)[j]?) c = some x) ∨ (j ∉ js ++ ns ∧ m[j]? = some (some x)) := fun j x e => by
    by_cases h : j ∈ js ++ ns
    · obtain ⟨i, hi⟩ := List.getElem?_of_mem h
      unfold outM at e
      rw [putS_in (a := (m'.getD i none).bind (renT fun j => (js ++ ns)[j]?)) nd hi (by rw [Nat.zero_add]) (ltj j h)] at e
      have e := Option.some.inj e
      cases e1 : m'.getD i none with
      | none => rw [e1] at e; cases e
      | some c => rw [e1] at e; exact .inl ⟨i, c, hi, getD_some e1, e⟩
    · unfold outM at e
      rw [putS_out h] at e
      exact .inr ⟨h, e⟩
  have hin : ∀ (j : Nat) (x : Tr) a, j ∈ js → m[j]? = some (some x) → as[j]? = some a → a ∈ atS as js := fun j x a h hx ha => by
    obtain ⟨i, hi⟩ := List.getElem?_of_mem h
    refine List.mem_of_getElem? (i := i) ?_
    rw [atS_get hi, ← as_in r hx, ha]
  have hout : ∀ (j : Nat) (x : Tr) a, j ∉ js → m[j]? = some (some x) → as[j]? = some a → a ∉ atS as js := fun j x a h hx ha hm => by
    unfold atS at hm
    obtain ⟨k, hk1, hk2⟩ := List.mem_map.mp hm
    obtain ⟨y, hy⟩ := hj k hk1
    have e := as_in r hy
    rw [hk2] at e
    exact h (by rw [r.inj j k x y a hx hy ha e]; exact hk1)
  have keep : ∀ a o, ¬ P.B a → a ∉ atS as js → H a = some o → H' a = some o := fun a o hb hm e => q.frame a o e hm hb
  have frN : ∀ n ∈ ns, noLoc n (drG dr G) = true ∧ noAtM n (wipeM m (js ++ ns)) = true := fun n hn => by
    unfold freeOf at fr
    rw [List.all_eq_true] at fr
    have := fr n hn
    rw [Bool.and_eq_true] at this
    exact this
  -- an address of a new cell
  have addr : ∀ (i : Nat) c j, (js ++ ns)[i]? = some j → m'[i]? = some (some c) → ∃ a, as'[i]? = some a ∧ Own K mg Rc' as' H' a c ∧ ¬ P.B a ∧ (H a = none ∨ (a ∈ atS as js ∧ i < js.length)) := fun i c j hi hc => by
    obtain ⟨a, q1, q2, q3, q4, q5⟩ := q.sto i c hc
    exact ⟨a, q1, q2, q4, q5.imp id fun ⟨h1, h2⟩ => ⟨h1, by rw [← hn]; exact h2⟩⟩
  refine ⟨⟨ex, rd.len, fun i d e => ?_, fun j x e => ?_, fun j k x y a e1 e2 e3 e4 => ?_, by rw [← hZ]; exact q.vol, rb, fun a o e n1 n2 => ?_, fun a e => ?_, fun a e => ?_, r.r0.trans s2, by unfold outM; rw [putS_len, putS_len]; exact r.la, fun j hj0 => ?_⟩, far, to⟩
  · obtain ⟨v, h1, h2⟩ := rd.env i d e
    refine ⟨v, h1, ?_⟩
    cases h2 with
    | t h => exact .t (h.mono s2)
    | hnd i => exact .hnd i
    | @loc j a h =>
      refine .loc ?_
      rw [far j fun hjn => noLoc_at (frN j hjn).1 i e]
      exact h
  · rcases cell j x e with ⟨i, c, h1, h2, h3⟩ | ⟨h1, h2⟩
    · obtain ⟨a, q1, q2, q3, q4⟩ := addr i c j h1 h2
      refine ⟨a, to i j a h1 q1, ?_, hs i c a h2 q1, q3, ?_⟩
      · refine Own.ren (C := C) (fun i' j' b hf hb' => to i' j' b hf hb') hk q2 h3 (hC i c (List.getElem?_eq_some_iff.mp h1).1 ?_)
        rw [List.getD_eq_getElem?_getD, h2]; rfl
      · rcases q4 with q4 | ⟨q4, q5⟩
        · left
          cases z : P.H0 a with
          | none => rfl
          | some o => exact absurd q4 (r.dom a (by rw [z]; simp))
        · rw [List.getElem?_append_left q5] at h1
          have hjm := List.mem_of_getElem? h1
          obtain ⟨y, hy⟩ := hj j hjm
          obtain ⟨b, w1, _, _, _, w5⟩ := r.sto j y hy
          have e1 : as'[i]? = (atS as js)[i]? := q.pre i (by rw [hn]; exact q5)
          rw [atS_get h1, ← as_in r hy, w1] at e1
          rw [q1] at e1
          cases e1
          exact w5
    · rw [List.mem_append, not_or] at h1
      obtain ⟨a, q1, q2, q3, q4, q5⟩ := r.sto j x h2
      obtain ⟨o, ho⟩ := q2.there
      have hw : (wipeM m (js ++ ns))[j]? = some (some x) := by
        have gen : ∀ l : List Nat, j ∉ l → (wipeM m l)[j]? = m[j]? := fun l => by
          induction l with
          | nil => intro _; rfl
          | cons k l ih =>
            intro h
            rw [List.mem_cons, not_or] at h
            unfold wipeM
            rw [List.getElem?_set_ne (fun z => h.1 z.symm)]
            exact ih h.2
        rw [gen _ (by rw [List.mem_append, not_or]; exact h1)]
        exact h2
      refine ⟨a, by rw [far j h1.2]; exact q1, q2.monoA s2 (fun u e => keep a u q4 (hout j x a h1.1 h2 q1) e) (fun l b hl hb => ?_), ?_, q4, q5⟩
      · rw [far l fun hln => by rw [noAtM_at (frN l hln).2 hw] at hl; cases hl]
        exact hb
      · cases z : R2 a with
        | none => rfl
        | some u =>
          rcases hf a (by rw [z]; simp) with w | w
          · exact absurd q3 w
          · rw [w] at ho; cases ho
  · -- two sites, two objects
    have old : ∀ (j : Nat) x a, j ∉ js ++ ns → m[j]? = some (some x) → (putS as (fun i => as'[i]?) (js ++ ns) 0)[j]? = some a → as[j]? = some a ∧ a ∉ atS as js ∧ H a ≠ none := fun j x a h hx ha => by
      rw [List.mem_append, not_or] at h
      rw [far j h.2] at ha
      obtain ⟨b, q1, q2, _⟩ := r.sto j x hx
      rw [ha] at q1; cases q1
      obtain ⟨o, ho⟩ := q2.there
      exact ⟨ha, hout j x a h.1 hx ha, by rw [ho]; simp⟩
    have new : ∀ (i : Nat) c j a, (js ++ ns)[i]? = some j → m'[i]? = some (some c) → (putS as (fun i => as'[i]?) (js ++ ns) 0)[j]? = some a → as'[i]? = some a ∧ (H a = none ∨ a ∈ atS as js) := fun i c j a hi hc ha => by
      obtain ⟨b, q1, _, _, q4⟩ := addr i c j hi hc
      rw [to i j b hi q1] at ha
      cases ha
      exact ⟨q1, q4.imp id And.left⟩
    rcases cell j x e1 with ⟨i, c, h1, h2, h3⟩ | ⟨h1, h2⟩
    · obtain ⟨w1, w2⟩ := new i c j a h1 h2 e3
      rcases cell k y e2 with ⟨i', c', h1', h2', h3'⟩ | ⟨h1', h2'⟩
      · obtain ⟨w1', w2'⟩ := new i' c' k a h1' h2' e4
        have := q.inj i i' c c' a h2 h2' w1 w1'
        subst this
        rw [h1] at h1'
        exact Option.some.inj h1'
      · obtain ⟨_, w4, w5⟩ := old k y a h1' h2' e4
        rcases w2 with w2 | w2
        · exact absurd w2 w5
        · exact absurd w2 w4
    · obtain ⟨w3, w4, w5⟩ := old j x a h1 h2 e3
      rcases cell k y e2 with ⟨i', c', h1', h2', h3'⟩ | ⟨h1', h2'⟩
      · obtain ⟨w1', w2'⟩ := new i' c' k a h1' h2' e4
        rcases w2' with w2 | w2
        · exact absurd w2 w5
        · exact absurd w2 w4
      · obtain ⟨w3', _, _⟩ := old k y a h1' h2' e4
        exact r.inj j k x y a h2 h2' w3 w3'
  · refine q.frame a o (r.frame a o e n1 n2) (fun hm => ?_) n2
    unfold Pm.inner at hm
    have hm : a ∈ atS as js := hm
    unfold atS at hm
    obtain ⟨k, hk1, hk2⟩ := List.mem_map.mp hm
    obtain ⟨y, hy⟩ := hj k hk1
    obtain ⟨b, q1, _, _, _, q5⟩ := r.sto k y hy
    have e' := as_in r hy
    rw [hk2] at e'
    rw [e'] at q1
    cases q1
    rcases q5 with q5 | q5
    · rw [q5] at e; cases e
    · exact n1 q5.1
  · exact q.dom a (r.dom a e)
  · rcases hf a e with z | z
    · exact r.fresh a z
    · exact .inr (r.new0 z)
  · rw [far j fun hjn => by have := n0 j hjn; omega]
    exact r.pre j hj0
theorem args_A {hd : Nat → Addr} {js : List Nat} (hj : ∀ j ∈ js, as[j]? = some (as.getD j 0)) {vs : List V} {ds : List Dv} (h0 : Paired (DRep K mg R hd as) vs ds) : ∀ {ds' : List Dv}, argsM (inA js) ds = some ds' → Paired (DRep K mg R hd (atS as js)) vs ds' := by
  induction h0 with
  | nil => intro ds' h; simp [argsM] at h; subst h; exact .nil
  | @cons v d l1 l2 q t ih =>
    intro ds' h
    unfold argsM at h
    cases e0 : inA js d with
    | none => rw [e0] at h; cases h
    | some d' =>
      rw [e0, Option.bind_some] at h
      cases e : argsM (inA js) l2 with
      | none => rw [e] at h; cases h
      | some us =>
        rw [e] at h; cases h
        refine .cons ?_ (ih e)
        cases q with
        | t q => cases e0; exact .t q
        | hnd i => cases e0; exact .hnd i
        | @loc j a q =>
          have e0 : (ixIn js j).map Dv.loc = some d' := e0
          cases e1 : ixIn js j with
          | none => rw [e1] at e0; cases e0
          | some i =>
            rw [e1] at e0; cases e0
            have h2 := ixIn_some e1
            have h3 := hj j (List.mem_of_getElem? h2)
            rw [q] at h3
            exact .loc (by rw [atS_get h2, ← h3])
/-- the heap as it is, but for the ambient and for what is handed in -/
noncomputable def less (P : Pm) (H : Hp) (l : List Addr) : Hp := fun a => open Classical in if P.B a ∨ a ∈ l then none else H a
theorem less_same (P : Pm) (H : Hp) (l : List Addr) : Same (less P H l) H := fun a o e => by
  unfold less at e
  split at e
  · cases e
  · exact e
theorem less_of {P : Pm} {H : Hp} {l : List Addr} {a : Addr} {o : HO} (e : H a = some o) (n : ¬ P.B a) (n' : a ∉ l) : less P H l a = some o := by
  unfold less
  rw [if_neg fun z => z.elim n n']
  exact e
theorem args_B (r : Rel K mg Z P R as G m σ H) {js : List Nat} (hj : ∀ j ∈ js, ∃ x, m[j]? = some (some x)) (s1 : Same R (less P H (atS as js))) {vs : List V} {ds : List Dv} (h0 : Paired (DRep K mg R P.hd as) vs ds) : ∀ {ds' : List Dv}, argsM (inB m js) ds = some ds' → Paired (DRep K mg (less P H (atS as js)) P.hd (atS as js)) vs ds' := by
  induction h0 with
  | nil => intro ds' h; simp [argsM] at h; subst h; exact .nil
  | @cons v d l1 l2 q t ih =>
    intro ds' h
    unfold argsM at h
    cases e0 : inB m js d with
    | none => rw [e0] at h; cases h
    | some d' =>
      rw [e0, Option.bind_some] at h
      cases e : argsM (inB m js) l2 with
      | none => rw [e] at h; cases h
      | some us =>
        rw [e] at h; cases h
        refine .cons ?_ (ih e)
        cases q with
        | t q => cases e0; exact .t (q.mono s1)
        | hnd i => cases e0; exact .hnd i
        | @loc j a q =>
          have e0 : (match ixIn js j with | some i => some (Dv.loc i) | none => (viewD (wipeM m js) (.loc j)).map .t) = some d' := e0
          cases e1 : ixIn js j with
          | some i =>
            rw [e1] at e0; cases e0
            have h2 := ixIn_some e1
            obtain ⟨x, hx⟩ := hj j (List.mem_of_getElem? h2)
            have h3 := as_in r hx
            rw [q] at h3
            exact .loc (by rw [atS_get h2, ← h3])
          | none =>
            rw [e1] at e0
            have e0 : (see (wipeM m js) 12 (.at j)).map Dv.t = some d' := e0
            cases e2 : see (wipeM m js) 12 (.at j) with
            | none => rw [e2] at e0; cases e0
            | some x =>
              rw [e2] at e0; cases e0
              refine .t ((see_rep (S := fun _ => True) (m := wipeM m js) (H := H) s1 (fun k y hy _ => ?_) 12).1 (.at j) _ _ (.s q) e2 fun _ _ => trivial)
              obtain ⟨hk, hy⟩ := wipeM_at hy
              obtain ⟨b, h1, h2, _, h4, _⟩ := r.sto k y hy
              refine ⟨b, h1, h2, fun o q => less_of q h4 fun hm => ?_⟩
              unfold atS at hm
              obtain ⟨l, hl1, hl2⟩ := List.mem_map.mp hm
              obtain ⟨z, hz⟩ := hj l hl1
              have e' := as_in r hz
              rw [hl2] at e'
              exact hk (by rw [r.inj k l y z b hy hz h1 e']; exact hl1)
theorem callM_ok {sp : VSpM} {es : VA} {n : Nat} {js ns : List Nat} {dr : Option Nat} (hZ : Z'.Z = Z.Z) (hn : Z'.n0 = js.length) (n0 : ∀ n ∈ ns, Z.n0 ≤ n) (hl : ∀ ds m k x, sp ds m k x → ds.length = n) : ∀ σ H Q, LM K mg Z W dr ns (vmCall sp js ns dr es) σ H Q → tCallS (liftM K mg Z' n sp) (WE W) (LA K mg Z W es) σ H Q :=
  fun σ H Q ⟨P, R, as, G, m, k, x, r, h, nn⟩ => LA.go r h (fun ds vs R1 H1 ⟨nd, lt, fr, cs, hc, h1⟩ n1 r1 d1 => by
    have nd := of_decide_eq_true nd
    have hj := cells_all hc
    have ndj : js.Nodup := (List.nodup_append.mp nd).1
    have dre : ∀ {Rc' R2 : Hp} {as' : List Addr} {d d' : Dv} {v : V} (to : ∀ i j a : Nat, (js ++ ns)[i]? = some j → as'[i]? = some a → (putS as (fun i => as'[i]?) (js ++ ns) 0)[j]? = some a), (∀ y, d = .t y → Rep K mg Rc' v y → Rep K mg R2 v y) → outD (js ++ ns) d = some d' → DRep K mg Rc' P.hd as' v d → DRep K mg R2 P.hd (putS as (fun i => as'[i]?) (js ++ ns) 0) v d' := fun {Rc' R2 as' d d' v} to hk e q => by
      cases q with
      | t q => cases e; exact .t (hk _ rfl q)
      | hnd i => cases e
      | @loc i a q =>
        have e : ((js ++ ns)[i]?).map Dv.loc = some d' := e
        cases e1 : (js ++ ns)[i]? with
        | none => rw [e1] at e; cases e
        | some j => rw [e1] at e; cases e; exact .loc (to i j a e1 q)
    rcases h1 with ⟨ds', h1, h2⟩ | ⟨ds', h1, h2⟩
    · have hsj : ∀ a, a ∈ atS as js → R1 a = none := fun a ha => by
        unfold atS at ha
        obtain ⟨l, hl1, hl2⟩ := List.mem_map.mp ha
        obtain ⟨z, hz⟩ := hj l hl1
        obtain ⟨b, w1, _, w3, _⟩ := r1.sto l z hz
        have e' := as_in r1 hz
        rw [hl2, w1] at e'
        cases e'
        exact w3
      have ent := r1.enter hZ hn ndj hc (Same.refl R1) r1.ex r1.rb hsj
      have da := args_A (fun j hjm => let ⟨x, hx⟩ := hj j hjm; as_in r1 hx) d1 h1
      refine ⟨by rw [Paired.length da]; exact hl _ _ _ _ h2, _, R1, ds', atS as js, cs, _, _, rfl, rfl, rfl, fun a ha => ha, by rw [hn]; simp [atS], ent, da, h2, fun d m' v R2 as' H2 hpost q dv => ?_, fun nm cl m' R2 as' H2 hx hcl q => ?_⟩
      · obtain ⟨d', e1, hk⟩ := hpost _ rfl
        obtain ⟨r2, far, to⟩ := r1.leaveM hZ hn n0 nd lt fr hj q q.r0 q.fresh q.ex q.rb (fun i c a hc ha => by
          obtain ⟨b, w1, _, w3, _⟩ := q.sto i c hc
          rw [ha] at w1; cases w1; exact w3) (C := fun _ => True) (fun _ _ _ q => q) (fun i c _ _ => by cases c <;> intros <;> first | exact trivial | (intro t ht; exact trivial) | (intro t ht _; exact trivial))
        exact nn.ok d' v _ R2 _ H2 hk (n1.r.trans q.r0) far r2 (dre to (fun _ _ q => q) e1 dv)
      · obtain ⟨r2, far, to⟩ := r1.leaveM hZ hn n0 nd lt fr hj q q.r0 q.fresh q.ex q.rb (fun i c a hc ha => by
          obtain ⟨b, w1, _, w3, _⟩ := q.sto i c hc
          rw [ha] at w1; cases w1; exact w3) (C := fun _ => True) (fun _ _ _ q => q) (fun i c _ _ => by cases c <;> intros <;> first | exact trivial | (intro t ht; exact trivial) | (intro t ht _; exact trivial))
        exact nn.er nm cl _ R2 _ _ H2 (hx _ rfl) hcl r2
    · have s1 : Same R1 (less P H1 (atS as js)) := fun a o e => less_of (r1.ex a o e) (fun b => by rw [r1.rb a b] at e; cases e) fun ha => by
        unfold atS at ha
        obtain ⟨l, hl1, hl2⟩ := List.mem_map.mp ha
        obtain ⟨z, hz⟩ := hj l hl1
        obtain ⟨b, w1, _, w3, _⟩ := r1.sto l z hz
        have e' := as_in r1 hz
        rw [hl2, w1] at e'
        cases e'
        rw [w3] at e; cases e
      have ent := r1.enter hZ hn ndj hc s1 (less_same P H1 _) (fun a b => by unfold less; rw [if_pos (.inl b)]) (fun a b => by unfold less; rw [if_pos (.inr b)])
      have da := args_B r1 hj s1 d1 h1
      have fin : ∀ {R2 H2 : Hp} {as' : List Addr} {m' : Sto}, Rel K mg Z' (P.inner H1 (less P H1 (atS as js)) as js) R2 as' [] m' [] H2 → (∀ i c, i < (js ++ ns).length → m'.getD i none = some c → flatC c) → _ := fun {R2 H2 as' m'} q hfl =>
        r1.leaveM hZ hn n0 nd lt fr hj q (Same.refl R1) (fun a e => .inl e) (fun a o e => by
          have e2 := s1 a o e
          unfold less at e2
          split at e2
          · cases e2
          · rename_i hne
            exact q.frame a o e2 (fun z => hne (.inr z)) fun z => hne (.inl z)) r1.rb (fun i c a hc ha => by
          obtain ⟨b, w1, _, w3, _⟩ := q.sto i c hc
          rw [ha] at w1; cases w1
          cases z : R1 a with
          | none => rfl
          | some o => rw [q.r0 a o (s1 a o z)] at w3; cases w3) (C := fun t => t.flat = true) (fun v t ht q => q.flat ht) hfl
      refine ⟨by rw [Paired.length da]; exact hl _ _ _ _ h2, _, _, ds', atS as js, cs, _, _, rfl, rfl, rfl, fun a ha => ha, by rw [hn]; simp [atS], ent, da, h2, fun d m' v R2 as' H2 ⟨hfd, hfl, hpost⟩ q dv => ?_, fun nm cl m' R2 as' H2 ⟨hfl, hx⟩ hcl q => ?_⟩
      · obtain ⟨d', e1, hk⟩ := hpost _ rfl
        obtain ⟨r2, far, to⟩ := fin q hfl
        exact nn.ok d' v _ R1 _ H2 hk n1.r far r2 (dre to (fun y ey q => by subst ey; exact q.flat hfd) e1 dv)
      · obtain ⟨r2, far, to⟩ := fin q hfl
        exact nn.er nm cl _ R1 _ _ H2 (hx _ rfl) hcl r2) fun nm cl R1 H1 a b c d => nn.er nm cl m R1 as G H1 a b d
end
end VL

/-! VL, part R: rules over expressions that change the store: calls, displays, fresh lists; statements with them. -/
namespace VL
open PySem L2

def DfM (Pg : Program) (w : World) (K : PySem.W.Frag) (mg : Str → Option Value) (base : Heap) (CX : CXT) (k : Nat) (x : Str) (ps : List Str) (Z : Rsc) (sp : VSpM) : Prop :=
  ∃ f fd, FnOk Pg w K mg base CX k f fd ps (liftM K mg Z ps.length sp) ∧ mg x = some (.ref f) ∧ PySem.W.keepIn K (.ref f) = true ∧ Binds K fd ps []
/-- what hands back what is new, told as data -/
theorem DfM.s {Pg : Program} {w : World} {K : PySem.W.Frag} {mg : Str → Option Value} {base : Heap} {CX : CXT} {k : Nat} {x : Str} {ps : List Str} {Z : Rsc} {sp : VSpM} (D : DfM Pg w K mg base CX k x ps Z sp) (hz : Z.n0 = 0) : Df Pg w K mg base CX k x ps Z (spS sp) := by
  obtain ⟨f, fd, F, hm, hk, hb⟩ := D
  exact ⟨f, fd, F.imp fun vs H Q E h => liftS_of hz h, hm, hk, hb⟩
/-- a promise told more weakly -/
theorem Df.weak {Pg : Program} {w : World} {K : PySem.W.Frag} {mg : Str → Option Value} {base : Heap} {CX : CXT} {k : Nat} {x : Str} {ps : List Str} {Z : Rsc} {sp sp' : VSp} (D : Df Pg w K mg base CX k x ps Z sp) (h : ∀ ds k x, sp' ds k x → sp ds k x) : Df Pg w K mg base CX k x ps Z sp' := by
  obtain ⟨f, fd, F, hm, hk, hb⟩ := D
  refine ⟨f, fd, F.imp fun vs H Q E q => ?_, hm, hk, hb⟩
  obtain ⟨hl, P, R, ds, k, x, e0, e1, e2, r, rv, hs, hq, he⟩ := q
  exact ⟨hl, P, R, ds, k, x, e0, e1, e2, r, rv, h _ _ _ hs, hq, he⟩

section
variable {X : Cx} {Z Z' : Rsc} {W : WX} {CX : CXT} {k : Nat} {ps : List Str} {sp : VSpM} {x : Str} {p pos : Pos} {e : Expr} {es : List Expr} {va : VA} {js ns : List Nat} {dr : Option Nat}
theorem vm_call (D : DfM X.prog X.w X.K X.mg X.base CX k x ps Z' sp) (hZ : Z'.Z = Z.Z) (hn : Z'.n0 = js.length) (n0 : ∀ n ∈ ns, Z.n0 ≤ n) (hl : ∀ ds m k x, sp ds m k x → ds.length = ps.length) (hr : Room k X.A) (hg : Gl X x) (hx : ∀ σ, PassesAt CX X σ (WE W σ))
    (ha : PA X (e :: es) (LA X.K X.mg Z W va)) (hdb : (x == ("__debug__" : Str)) = false := by decide) (he : starEach (e :: es) X.env = (false, eval e X.env) :: starEach es X.env := by rfl) (hpl : (backTo pos (starEach es X.env)).any (·.1) = false := by rfl) :
    PE X (.Call (.Name x p) (e :: es) [] pos) (LM X.K X.mg Z W dr ns (vmCall sp js ns dr va)) := by
  obtain ⟨f, fd, F, hm, hk, hb⟩ := D
  exact PE.imp (pe_callS F hr hg hm hk hb hx ha hdb he hpl) (callM_ok hZ hn n0 hl)
end

/-! ### new objects -/
/-- items of a display: data, or sites -/
def chT : Dv → Option Tr
  | .t x => some x
  | .loc j => some (.at j)
  | .hnd _ => none
def chTs : List Dv → Option (List Tr)
  | [] => some []
  | d :: ds => (chT d).bind fun x => (chTs ds).map (x :: ·)
theorem chT_rep {K : PySem.W.Frag} {mg : Str → Option Value} {R : Hp} {hd : Nat → Addr} {as : List Addr} {v : V} {d : Dv} {t : Tr} (h : DRep K mg R hd as v d) (e : chT d = some t) : ChR K mg R as v t := by
  cases h with
  | t h => cases e; exact .k h
  | loc h => cases e; exact .s h
  | hnd i => cases e
theorem chTs_rep {K : PySem.W.Frag} {mg : Str → Option Value} {R : Hp} {hd : Nat → Addr} {as : List Addr} : ∀ {ds : List Dv} {vs : List V} {ts : List Tr}, Paired (DRep K mg R hd as) vs ds → chTs ds = some ts → Paired (ChR K mg R as) vs ts
  | [], _, _, .nil, e => by simp [chTs] at e; subst e; exact .nil
  | d :: ds, _, ts, .cons r rs, e => by
    unfold chTs at e
    cases q : chT d with
    | none => rw [q] at e; cases e
    | some t =>
      rw [q, Option.bind_some] at e
      cases q2 : chTs ds with
      | none => rw [q2] at e; cases e
      | some us => rw [q2] at e; cases e; exact .cons (chT_rep r q) (chTs_rep rs q2)
/-- a new cell at the site j -/
def newC (j : Nat) (dr : Option Nat) (x : Tr) (G : Env) (m : Sto) (k : MK) : Prop := j < m.length ∧ noRef j m (drG dr G) = true ∧ noAt j x = true ∧ k (.loc j) (m.set j (some x))
theorem newC_ok {K : PySem.W.Frag} {mg : Str → Option Value} {Z : Rsc} {P : Pm} {R H : Hp} {as : List Addr} {G : Env} {m : Sto} {σ : L2.St} (r : Rel K mg Z P R as G m σ H) {j : Nat} {dr : Option Nat} {x : Tr} {p : Addr} {o : HO} (h0 : Z.n0 ≤ j) (hp : H p = none) (hj : j < m.length) (hn : noRef j m (drG dr G) = true) (hx : noAt j x = true) (ho : Own K mg R as (upd H p o) p x) :
    Rel K mg Z P R (as.set j p) (drG dr G) (m.set j (some x)) σ (upd H p o) ∧ (∀ l : Nat, l ∉ [j] → (as.set j p)[l]? = as[l]?) ∧ DRep K mg R P.hd (as.set j p) (.ref p) (.loc j) :=
  ⟨(r.drS dr).new h0 hp hj hn ho hx, fun l hl => by rw [List.getElem?_set_ne fun z => hl (by rw [z]; exact List.mem_cons_self)], .loc (List.getElem?_set_self (by rw [r.la]; exact hj))⟩
/-- [..], (..): items that may be sites -/
abbrev vmTup (j : Nat) (es : VMA) : VM := fun G m k x => es G m (fun ds m1 => ∃ ts, chTs ds = some ts ∧ ts.length ≤ sizeLine ∧ newC j none (.dt ts) G m1 k) x
abbrev vmDl (j : Nat) (es : VMA) : VM := fun G m k x => es G m (fun ds m1 => ∃ ts, chTs ds = some ts ∧ ts.length ≤ sizeLine ∧ newC j none (.dl ts) G m1 k) x
/-- [..] of data -/
abbrev vmLst (j : Nat) (dr : Option Nat) (es : VA) : VM := fun G m k x => es G m (fun ds => ∃ ts, unT ds = some ts ∧ ts.length ≤ sizeLine ∧ newC j dr (.lst ts) G m k) (fun n => x n G m)
/-- list(e) -/
abbrev vmList (j : Nat) (dr : Option Nat) (e : VE) : VM := fun G m k x => e G m (fun d => ∃ ts, (view m d = some (.lst ts) ∨ view m d = some (.tup ts)) ∧ newC j dr (.lst ts) G m k) (fun n => x n G m)
/-- e[::-1] -/
abbrev vmRev (j : Nat) (dr : Option Nat) (e : VE) : VM := fun G m k x => e G m (fun d => ∃ ts, view m d = some (.lst ts) ∧ newC j dr (.lst ts.reverse) G m k) (fun n => x n G m)
/-- e * n -/
abbrev vmRep (j : Nat) (dr : Option Nat) (a b : VE) : VM := fun G m k x => a G m (fun d => b G m (fun e => ∃ xs i, view m d = some (.lst xs) ∧ view m e = some (.int i) ∧ -(2 ^ 63) ≤ i ∧ i < 2 ^ 63 ∧ xs.length * i.toNat ≤ sizeLine ∧ newC j dr (.lst (List.replicate i.toNat xs).flatten) G m k) (fun n => x n G m)) (fun n => x n G m)
/-- e[a:b] -/
abbrev vmSl (j : Nat) (dr : Option Nat) (e : VE) (lo hi : VO) : VM := fun G m k x => e G m (fun d => lo G m (fun l => hi G m (fun u => ∃ ts, view m d = some (.lst ts) ∧ newC j dr (.lst (cutG ts l u)) G m k) (fun n => x n G m)) (fun n => x n G m)) (fun n => x n G m)
section
variable {X : Cx} {Z : Rsc} {W : WX} {e a b : Expr} {es : List Expr} {ve va vb : VE} {vas : VA} {vma : VMA} {fp : List Nat} {j : Nat} {dr : Option Nat} {pos : Pos} {lo hi : Option Expr} {vl vh : VO}
theorem Kn.erM {K : PySem.W.Frag} {mg : Str → Option Value} {P : Pm} {R H : Hp} {as : List Addr} {G : Env} {m : Sto} {σ : L2.St} {fp : List Nat} {k : MK} {x : XS} {Q : VK} (n : KnM K mg Z W dr fp P R as G m σ H k x Q) : ∀ nm cl R' H', x nm G m → mg nm = some cl → Nx P R H R' H' → Rel K mg Z P R' as G m σ H' → W cl none σ H' :=
  fun nm cl R1 H1 a b c d => n.er nm cl m R1 as G H1 a b d
theorem vm_tup {i : Nat} (h0 : Z.n0 ≤ j) (h : PA X es (LMA X.K X.mg Z W fp vma)) : PE X (.Tuple es i pos) (LM X.K X.mg Z W none (j :: fp) (vmTup j vma)) :=
  PE.imp (pe_tup h) fun σ H Q ⟨P, R, as, G, m, k, x, r, h, n⟩ => ⟨P, R, as, G, m, _, x, r, h, fun ds vs m1 R1 as1 H1 ⟨ts, e1, hz, hj, hn, hx, h1⟩ s1 q1 r1 d1 => by
    have q := chTs_rep d1 e1
    refine ⟨by rw [Paired.length q]; exact hz, fun p hp => ?_⟩
    obtain ⟨r2, far, d2⟩ := newC_ok r1 (dr := none) (x := .dt ts) h0 hp hj hn hx ⟨vs, upd_same, q⟩
    exact n.ok _ _ _ R1 _ _ h1 s1 (fun l hl => by
      rw [List.mem_cons, not_or] at hl
      rw [far l (by simpa using hl.1), q1 l hl.2]) r2 d2, n.er⟩
theorem vm_dl (h0 : Z.n0 ≤ j) (h : PA X es (LMA X.K X.mg Z W fp vma)) : PE X (.List es pos) (LM X.K X.mg Z W none (j :: fp) (vmDl j vma)) :=
  PE.imp (pe_lst h) fun σ H Q ⟨P, R, as, G, m, k, x, r, h, n⟩ => ⟨P, R, as, G, m, _, x, r, h, fun ds vs m1 R1 as1 H1 ⟨ts, e1, hz, hj, hn, hx, h1⟩ s1 q1 r1 d1 => by
    have q := chTs_rep d1 e1
    refine ⟨by rw [Paired.length q]; exact hz, fun p hp => ?_⟩
    obtain ⟨r2, far, d2⟩ := newC_ok r1 (dr := none) (x := .dl ts) h0 hp hj hn hx ⟨vs, upd_same, q⟩
    exact n.ok _ _ _ R1 _ _ h1 s1 (fun l hl => by
      rw [List.mem_cons, not_or] at hl
      rw [far l (by simpa using hl.1), q1 l hl.2]) r2 d2, n.er⟩
theorem vm_lst (h0 : Z.n0 ≤ j) (h : PA X es (LA X.K X.mg Z W vas)) : PE X (.List es pos) (LM X.K X.mg Z W dr [j] (vmLst j dr vas)) :=
  PE.imp (pe_lst h) fun σ H Q ⟨P, R, as, G, m, k, x, r, h, n⟩ => LA.go r h (fun ds vs R1 H1 ⟨ts, e1, hz, hj, hn, hx, h1⟩ n1 r1 d1 => by
    rw [unT_eq e1] at d1
    have q := drep_ts d1
    refine ⟨by rw [Paired.length q]; exact hz, fun p hp => ?_⟩
    obtain ⟨r2, far, d2⟩ := newC_ok r1 (dr := dr) (x := .lst ts) h0 hp hj hn hx ⟨vs, upd_same, q⟩
    exact n.ok _ _ _ R1 _ _ h1 n1.r far r2 d2) (fun nm cl R1 H1 a b c d => n.er nm cl m R1 as G H1 a b d)
theorem vm_rev {i : Nat} {p1 p3 p4 : Pos} (h0 : Z.n0 ≤ j) (he : PE X e (LE X.K X.mg Z W ve)) : PE X (.Subscript e (.Slice none none (some (.UnaryOp .USub (.Constant (.int 1) i p1) p3)) p4) pos) (LM X.K X.mg Z W dr [j] (vmRev j dr ve)) :=
  PE.imp (pe_revL he) fun σ H Q ⟨P, R, as, G, m, k, x, r, h, n⟩ => LE.go r h (fun d v R1 H1 ⟨ts, e1, hj, hn, hx, h1⟩ n1 r1 d1 => by
    obtain ⟨a, xs, rfl, ha, ra⟩ := r1.vLst d1 e1
    refine ⟨a, xs, rfl, .of ha, fun p hp => ?_⟩
    obtain ⟨r2, far, d2⟩ := newC_ok r1 (dr := dr) (x := .lst ts.reverse) h0 hp hj hn hx ⟨_, upd_same, paired_reverse ra⟩
    exact n.ok _ _ _ R1 _ _ h1 n1.r far r2 d2) (fun nm cl R1 H1 a b c d => n.er nm cl m R1 as G H1 a b d)
theorem vm_rep (h0 : Z.n0 ≤ j) (ha : PE X a (LE X.K X.mg Z W va)) (hb : PE X b (LE X.K X.mg Z W vb)) : PE X (.BinOp a .Mult b pos) (LM X.K X.mg Z W dr [j] (vmRep j dr va vb)) :=
  PE.imp (pe_op op_rep ha hb) fun σ H Q ⟨P, R, as, G, m, k, x, r, h, n⟩ => LE.go r h (fun d v R1 H1 h1 n1 r1 d1 => LE.go r1 h1 (fun e w R2 H2 ⟨ts, i, e1, e2, c1, c2, c3, hj, hn, hx, h2⟩ n2 r2 d2 => by
    obtain ⟨a, xs, rfl, hx', rx⟩ := r2.vLst (d1.mono n2.r) e1
    rw [r2.vInt d2 e2]
    refine ⟨a, i, xs, rfl, rfl, hx', c1, c2, by rw [Paired.length rx]; exact c3, fun p hp => ?_⟩
    obtain ⟨r3, far, d3⟩ := newC_ok r2 (dr := dr) (x := .lst (List.replicate i.toNat ts).flatten) h0 hp hj hn hx ⟨_, upd_same, paired_rep rx _⟩
    exact n.ok _ _ _ R2 _ _ h2 (n1.r.trans n2.r) far r3 d3) (fun nm cl R1 H1 a b c d => n.er nm cl m R1 as G H1 a b d)) (fun nm cl R1 H1 a b c d => n.er nm cl m R1 as G H1 a b d)
theorem vm_sl {p2 : Pos} (h0 : Z.n0 ≤ j) (he : PE X e (LE X.K X.mg Z W ve)) (hl : PO X lo (LO X.K X.mg Z W vl)) (hu : PO X hi (LO X.K X.mg Z W vh)) : PE X (.Subscript e (.Slice lo hi none p2) pos) (LM X.K X.mg Z W dr [j] (vmSl j dr ve vl vh)) :=
  PE.imp (pe_slice sl_list he hl hu) fun σ H Q ⟨P, R, as, G, m, k, x, r, h, n⟩ => LE.go r h (fun d v R1 H1 h1 n1 r1 d1 =>
    ⟨P, R1, as, G, m, _, _, r1, h1, fun l R2 H2 h2 n2 r2 => ⟨P, R2, as, G, m, _, _, r2, h2, fun u R3 H3 ⟨ts, e1, hj, hn, hx, h3⟩ n3 r3 => by
      obtain ⟨a, xs, rfl, hx', rx⟩ := r3.vLst (d1.mono (n2.r.trans n3.r)) e1
      refine ⟨a, xs, rfl, .of hx', fun p hp => ?_⟩
      obtain ⟨r4, far, d4⟩ := newC_ok r3 (dr := dr) (x := .lst (cutG ts l u)) h0 hp hj hn hx ⟨_, upd_same, paired_cut rx l u⟩
      exact n.ok _ _ _ R3 _ _ h3 ((n1.r.trans n2.r).trans n3.r) far r4 d4, fun nm cl R1 H1 a b c d => n.er nm cl m R1 as G H1 a b d⟩, fun nm cl R1 H1 a b c d => n.er nm cl m R1 as G H1 a b d⟩) (fun nm cl R1 H1 a b c d => n.er nm cl m R1 as G H1 a b d)
theorem vm_list {p : Pos} (h0 : Z.n0 ≤ j) (hg : Gl X "list") (hm : X.mg "list" = none) (h : PE X e (LE X.K X.mg Z W ve)) (he : starEach [e] X.env = (false, eval e X.env) :: starEach [] X.env := by rfl) (hpl : (backTo pos (starEach [] X.env)).any (·.1) = false := by rfl) :
    PE X (.Call (.Name "list" p) [e] [] pos) (LM X.K X.mg Z W dr [j] (vmList j dr ve)) :=
  PE.imp (pe_callTy call_list_of hg hm (by decide +kernel) (pa_cons h pa_nil he) (by decide) (by decide) he hpl) fun σ H Q ⟨P, R, as, G, m, k, x, r, h, n⟩ => LE.go r h (fun d v R1 H1 ⟨ts, e1, hj, hn, hx, h1⟩ n1 r1 d1 => by
    rcases e1 with e1 | e1
    · obtain ⟨a, xs, rfl, hx', rx⟩ := r1.vLst d1 e1
      refine ⟨a, xs, rfl, .inl (.of hx'), fun p hp => ?_⟩
      obtain ⟨r2, far, d2⟩ := newC_ok r1 (dr := dr) (x := .lst ts) h0 hp hj hn hx ⟨_, upd_same, rx⟩
      exact n.ok _ _ _ R1 _ _ h1 n1.r far r2 d2
    · obtain ⟨a, xs, rfl, hx', rx⟩ := r1.vTup d1 e1
      refine ⟨a, xs, rfl, .inr (.of hx'), fun p hp => ?_⟩
      obtain ⟨r2, far, d2⟩ := newC_ok r1 (dr := dr) (x := .lst ts) h0 hp hj hn hx ⟨_, upd_same, rx⟩
      exact n.ok _ _ _ R1 _ _ h1 n1.r far r2 d2) (fun nm cl R1 H1 a b c d => n.er nm cl m R1 as G H1 a b d)
end
end VL

/-! VL, part S: statements whose expression changes the store; comprehensions, methods at a site. -/
namespace VL
open PySem L2

abbrev vSetM (dr : Option Nat) (i : Nat) (e : VM) : VS := fun nx _ _ _ ex G m => e G m (fun d m' => nx ((drG dr G).set i (some d)) m') ex
abbrev vRetM (e : VM) : VS := fun _ rt _ _ ex G m => e G m (fun d m' => rt d m') ex
abbrev vExprM (e : VM) : VS := fun nx _ _ _ ex G m => e G m (fun _ m' => nx G m') ex
abbrev vIfM (t : VMT) (a b : VS) : VS := fun nx rt bk ct ex G m => t G m (fun c m' => (c = true → a nx rt bk ct ex G m') ∧ (c = false → b nx rt bk ct ex G m')) ex
abbrev vmtB (e : VM) : VMT := fun G m k x => e G m (fun d m' => ∃ b, view m' d = some (.bl b) ∧ k b m') x
abbrev vmtNot (t : VMT) : VMT := fun G m k x => t G m (fun c m' => k (!c) m') x
/-- sites are let go -/
def vWipe (js : List Nat) (u : VS) : VS := fun nx rt bk ct ex G m => u nx rt bk ct ex G (wipeM m js)
section
variable {X : Cx} {Z : Rsc} {W : WX} {e c : Expr} {sa sb rest : List Stmt} {vm : VM} {vt : VMT} {u w : VS} {fp : List Nat} {dr : Option Nat} {pos : Pos}
theorem vs_wipe {js : List Nat} (h : PSs X rest (LS X.K X.mg Z W u)) : PSs X rest (LS X.K X.mg Z W (vWipe js u)) :=
  PSs.imp h fun D σ H ⟨P, R, as, G, m, nx, rt, bk, ct, ex, r, h, k⟩ => ⟨P, R, as, G, _, nx, rt, bk, ct, ex, r.wipeS js, h, k⟩
theorem vs_setM {i : Nat} {x : Str} {pos' : Pos} (hN : X.N.Nodup) (hi : X.N[i]? = some x) (hx : Loc X.env.scope x) (he : PE X e (LM X.K X.mg Z W dr fp vm)) (hs : swapsWith e (some (.Name x pos')) pos.line X.env = pure false := by rfl) (hf : X.fn x = true ∨ X.env.scope.names.lookup x = some .local := by first | exact .inl rfl | exact .inr rfl | assumption) :
    PS X (.Assign [.Name x pos'] e pos) (LS X.K X.mg Z W (vSetM dr i vm)) :=
  PS.imp (ps_set hN hi hx he hs hf) fun D σ H ⟨P, R, as, G, m, nx, rt, bk, ct, ex, r, h, k⟩ => ⟨P, R, as, G, m, _, _, r, h, fun d v m' R' as' H' h' s q r' d' => k.nx _ m' R' as' _ H' h' (r'.set d'), fun nm cl m' R' as' G' H' a b c => k.ex nm cl m' R' as' G' σ H' a b c⟩
theorem vs_retM (he : PE X e (LM X.K X.mg Z W dr fp vm)) : PS X (.Return (some e) pos) (LS X.K X.mg Z W (vRetM vm)) :=
  PS.imp (ps_ret he) fun D σ H ⟨P, R, as, G, m, nx, rt, bk, ct, ex, r, h, k⟩ => ⟨P, R, as, G, m, _, _, r, h, fun d v m' R' as' H' h' s q r' d' => k.rt d m' v R' as' _ σ H' h' r' d', fun nm cl m' R' as' G' H' a b c => k.ex nm cl m' R' as' G' σ H' a b c⟩
theorem vs_exprM (he : PE X e (LM X.K X.mg Z W none fp vm)) (hs : swapsWith e none pos.line X.env = pure false := by rfl) : PS X (.Expr e pos) (LS X.K X.mg Z W (vExprM vm)) :=
  PS.imp (ps_expr he hs) fun D σ H ⟨P, R, as, G, m, nx, rt, bk, ct, ex, r, h, k⟩ => ⟨P, R, as, G, m, _, _, r, h, fun d v m' R' as' H' h' s q r' d' => k.nx _ m' R' as' σ H' h' r', fun nm cl m' R' as' G' H' a b c => k.ex nm cl m' R' as' G' σ H' a b c⟩
theorem vs_ifM (hc : PT X c (LMT X.K X.mg Z W fp vt)) (ha : PSs X sa (LS X.K X.mg Z W u)) (hb : PSs X sb (LS X.K X.mg Z W w)) : PS X (.If c sa sb pos) (LS X.K X.mg Z W (vIfM vt u w)) :=
  PS.imp (ps_if hc ha hb) fun D σ H ⟨P, R, as, G, m, nx, rt, bk, ct, ex, r, h, k⟩ => ⟨P, R, as, G, m, _, _, r, h, fun c m' R' as' H' ⟨h1, h2⟩ s q r' => by
    cases c with
    | true =>
      rw [if_pos rfl]
      exact ⟨P, R', as', G, m', nx, rt, bk, ct, ex, r', h1 rfl, k⟩
    | false =>
      rw [if_neg Bool.false_ne_true]
      exact ⟨P, R', as', G, m', nx, rt, bk, ct, ex, r', h2 rfl, k⟩, fun nm cl m' R' as' G' H' a b c => k.ex nm cl m' R' as' G' σ H' a b c⟩
theorem vmt_val (h : PE X e (LM X.K X.mg Z W none fp vm)) (he : ∀ whole, isTrue e X.env whole = (do let v ← whole; standAt e.pos; holding [v] (truthy v)) := by intro _; rfl) : PT X e (LMT X.K X.mg Z W fp (vmtB vm)) :=
  PT.imp (pt_val h he) fun σ H Q ⟨P, R, as, G, m, k, x, r, h, n⟩ => ⟨P, R, as, G, m, _, _, r, h, fun d v m' R' as' H' ⟨b, e1, h'⟩ s q r' d' => ⟨b, r'.vBl d' e1, n.ok b m' R' as' H' h' s q r'⟩, n.er⟩
theorem vmt_not (ha : PT X c (LMT X.K X.mg Z W fp vt)) : PT X (.UnaryOp .Not c pos) (LMT X.K X.mg Z W fp (vmtNot vt)) :=
  PT.imp (pt_not ha) fun σ H Q ⟨P, R, as, G, m, k, x, r, h, n⟩ => ⟨P, R, as, G, m, _, _, r, h, fun c m' R' as' H' h' s q r' => n.ok (!c) m' R' as' H' h' s q r', n.er⟩
end

/-! ### an object that stands becomes a cell -/
section
variable {K : PySem.W.Frag} {mg : Str → Option Value} {Z : Rsc} {P : Pm} {R R' H H' : Hp} {as : List Addr} {G : Env} {m : Sto} {σ : L2.St}
theorem Rel.adopt (r : Rel K mg Z P R as G m σ H) {j : Nat} {x : Tr} {p : Addr} (h0 : Z.n0 ≤ j) (hR : R p = none) (hB : ¬ P.B p) (h00 : P.H0 p = none) (hA : ∀ (j : Nat) x, m[j]? = some (some x) → as[j]? ≠ some p) (hj : j < m.length) (hn : noRef j m G = true) (ho : Own K mg R as H p x) (hx : noAt j x = true) :
    Rel K mg Z P R (as.set j p) G (m.set j (some x)) σ H := by
  have hja : j < as.length := by rw [r.la]; exact hj
  unfold noRef at hn
  rw [Bool.and_eq_true] at hn
  have old : ∀ (k : Nat) y, j ≠ k → (m.set j (some x))[k]? = some (some y) → m[k]? = some (some y) := fun k y hk e => by rw [List.getElem?_set_ne hk] at e; exact e
  have nas : ∀ (k : Nat) y, j ≠ k → (m.set j (some x))[k]? = some (some y) → (as.set j p)[k]? ≠ some p := fun k y hk e q => by
    rw [List.getElem?_set_ne hk] at q
    exact hA k y (old k y hk e) q
  have far : ∀ (y : Tr), noAt j y = true → ∀ (l : Nat) b, noAt l y = false → as[l]? = some b → (as.set j p)[l]? = some b := fun y hy l b hl hb => by
    have : j ≠ l := fun z => by subst z; rw [hy] at hl; cases hl
    rw [List.getElem?_set_ne this]
    exact hb
  refine ⟨r.ex, r.len, fun i d e => ?_, fun k y e => ?_, fun k l y z b e1 e2 e3 e4 => ?_, r.vol, r.rb, r.frame, r.dom, r.fresh, r.r0, by rw [List.length_set, List.length_set]; exact r.la, fun k hk => by rw [List.getElem?_set_ne (by omega)]; exact r.pre k hk⟩
  · obtain ⟨v, h1, h2⟩ := r.env i d e
    refine ⟨v, h1, ?_⟩
    cases h2 with
    | t h => exact .t h
    | hnd i => exact .hnd i
    | @loc k a h =>
      refine .loc ?_
      have hk : j ≠ k := fun z => noLoc_at hn.1 i (by rw [z]; exact e)
      rw [List.getElem?_set_ne hk]
      exact h
  · by_cases hk : j = k
    · subst hk
      rw [List.getElem?_set_self hj] at e
      cases e
      exact ⟨p, List.getElem?_set_self hja, ho.monoA (Same.refl R) (fun _ q => q) (far _ hx), hR, hB, .inl h00⟩
    · obtain ⟨b, q1, q2, q3, q4, q5⟩ := r.sto k y (old k y hk e)
      exact ⟨b, by rw [List.getElem?_set_ne hk]; exact q1, q2.monoA (Same.refl R) (fun u q => q) (far _ (noAtM_at hn.2 (by rw [List.getElem?_set_ne hk]; exact old k y hk e))), q3, q4, q5⟩
  · by_cases hk : j = k
    · by_cases hl : j = l
      · rw [← hk, ← hl]
      · subst hk
        rw [List.getElem?_set_self hja] at e3
        cases e3
        exact absurd e4 (nas l z hl e2)
    · by_cases hl : j = l
      · subst hl
        rw [List.getElem?_set_self hja] at e4
        cases e4
        exact absurd e3 (nas k y hk e1)
      · rw [List.getElem?_set_ne hk] at e3
        rw [List.getElem?_set_ne hl] at e4
        exact r.inj k l y z b (old k y hk e1) (old l z hl e2) e3 e4
end
/-- [.. for .. in ..] at a site -/
abbrev vmLc (j : Nat) (dr : Option Nat) (it : VI) (tg : VG) (ts : VT) (el : VE) (vs : List Nat) : VM := fun G m k x => it G m (fun us => ∃ I : Nat → List Tr → Prop, I 0 [] ∧
  (∀ (i : Nat) t acc, us[i]? = some t → I i acc → tg t (wipeG G vs) (fun G2 => ts G2 m (fun b => (b = true → el G2 m (fun d => ∃ y, d = .t y ∧ acc.length < sizeLine ∧ I (i + 1) (acc ++ [y])) noX) ∧ (b = false → I (i + 1) acc)) noX)) ∧
  ∀ acc, I us.length acc → newC j dr (.lst acc) G m k) (fun n => x n G m)
section
variable {X : Cx} {Z : Rsc} {W W' : WX}
theorem lc_ofM {j : Nat} {dr : Option Nat} (hz0 : Z.n0 ≤ j) {K : PySem.W.Frag} {mg : Str → Option Value} {it : VI} {tg : VG} {ts : VT} {el : VE} {vs : List Nat} : ∀ σ H Q, LM K mg Z W dr [j] (vmLc j dr it tg ts el vs) σ H Q → tLc (LI K mg Z W it) (LG K mg Z (some vs) tg) (LT K mg Z W' ts) (LE K mg Z W' el) vs σ H Q :=
  fun σ H Q ⟨P, R, as, G, m, k, x, r, h, n⟩ => ⟨P, R, as, G, m, _, (fun nm => x nm G m), r, h, fun us J R1 H1 ⟨I, h0, hs, hd⟩ n1 r1 ok D hD => by
    have okP := ok (P.at R1) rfl rfl rfl rfl
    have b1 := r1.base
    have hR := b1.newR hD
    have hB := b1.newB hD
    have h0D : (P.at R1).H0 D = none := b1.new0 hD
    have hA : ∀ (j : Nat) x, m[j]? = some (some x) → as[j]? ≠ some D := fun j x e => b1.newA hD e
    -- what holds between the turns
    have W0 : Rel K mg Z (P.at R1) R1 as G m σ (upd H1 D (.lst [])) := b1.poke hR hB h0D hA
    refine ⟨fun i q H' => q = us.length - i ∧ i ≤ us.length ∧ ∃ R' acc xs, Rel K mg Z (P.at R1) R' as G m σ H' ∧ R' D = none ∧ H' D = some (.lst xs) ∧ Reps K mg R' xs acc ∧ I i acc ∧ Nx P R1 H1 R' H', ⟨us.length, by simp, Nat.zero_le _, R1, [], [], W0, hR, upd_same, .nil, h0, ⟨Same.refl _, fun a o ha e => by rw [upd_ne (ne_of_none e hD)]; exact e, fun a e => .inl e, fun a e => by
        by_cases hb : a = D
        · subst hb; rw [upd_same]; simp
        · rw [upd_ne hb]; exact e⟩⟩, ?_⟩
    rintro i q H' ⟨rfl, hi, R', acc, xs, r', hR', hx, rx, hI, nn⟩
    obtain ⟨ok1, ok2⟩ := okP R' as G m σ H' r' r'.r0
    by_cases hlt : i < us.length
    · have ht : us[i]? = some us[i] := List.getElem?_eq_getElem hlt
      obtain ⟨hgo, hy⟩ := ok1 i _ ht
      refine .inr ⟨hgo, fun H2 => i + 1 ≤ us.length ∧ ∃ R2 acc2 xs2, Rel K mg Z (P.at R1) R2 as G m σ H2 ∧ R2 D = none ∧ H2 D = some (.lst xs2) ∧ Reps K mg R2 xs2 acc2 ∧ I (i + 1) acc2 ∧ Nx P R1 H1 R2 H2, fun H2 ⟨a, b⟩ => ⟨us.length - (i + 1), by omega, rfl, a, b⟩, fun v H2 hv => ?_⟩
      obtain ⟨R2, s2, n2, r2, rv⟩ := hy v H2 hv
      refine ⟨P.at R1, R2, as, _, m, _, _, r2.wipe vs, rv, hs i _ acc ht hI, fun G3 σ3 h3 s3 r3 => ⟨?_, ?_⟩⟩
      · have e : ∀ (σ : L2.St) (vs : List Nat), L2.wipe (L2.wipe σ vs) vs = L2.wipe σ vs := fun σ vs => by
          have gen : ∀ us : List Nat, (∀ u ∈ us, u ∈ vs) → L2.wipe (L2.wipe σ vs) us = L2.wipe σ vs := fun us => by
            induction us with
            | nil => intro _; rfl
            | cons u us ih =>
              intro hu
              rw [L2.wipe, ih fun z hz => hu z (List.mem_cons_of_mem _ hz)]
              refine List.ext_getElem? fun j => ?_
              have hz : ∀ (ws : List Nat), u ∈ ws → u < σ.length → (L2.wipe σ ws)[u]? = some none := fun ws => by
                induction ws with
                | nil => intro h _; exact absurd h (by simp)
                | cons w ws ihw =>
                  intro h hl
                  rw [L2.wipe]
                  by_cases hw : w = u
                  · subst hw; rw [List.getElem?_set_self (by rw [wipe_length]; exact hl)]
                  · rw [List.getElem?_set_ne hw]
                    rcases List.mem_cons.mp h with z | z
                    · exact absurd z.symm hw
                    · exact ihw z hl
              by_cases hj : u = j
              · subst hj
                by_cases hl : u < σ.length
                · rw [List.getElem?_set_self (by rw [wipe_length]; exact hl), hz vs (hu u List.mem_cons_self) hl]
                · rw [List.getElem?_eq_none (by rw [List.length_set, wipe_length]; omega), List.getElem?_eq_none (by rw [wipe_length]; omega)]
              · rw [List.getElem?_set_ne hj]
          exact gen vs fun _ h => h
        exact Eq.trans s3 (e σ vs)
      · have clear : ∀ {Ra Ha Rb Hb : Hp}, Nx (P.at R1) Ra Ha Rb Hb → Ra D = none → Ha D = some (.lst xs) → Rb D = none ∧ Hb D = some (.lst xs) := fun {Ra Ha Rb Hb} n0 h1 h2 => by
          refine ⟨?_, n0.h D _ hB h2⟩
          cases q : Rb D with
          | none => rfl
          | some u =>
            rcases n0.n D (by rw [q]; simp) with z | z
            · exact absurd h1 z
            · rw [h2] at z; cases z
        have n2' : Nx (P.at R1) R' H' R2 H2 := ⟨n2.r, n2.h, n2.n, n2.d⟩
        obtain ⟨c1, c2⟩ := clear n2' hR' hx
        refine LT.go r3 h3 (fun b R4 H4 ⟨hb1, hb2⟩ n4 r4 => ?_) fun nm cl R4 H4 z => z.elim
        obtain ⟨c3, c4⟩ := clear n4 c1 c2
        have nn4 : Nx P R1 H1 R4 H4 := (nn.trans ⟨n2'.r, n2'.h, n2'.n, n2'.d⟩).trans ⟨n4.r, n4.h, n4.n, n4.d⟩
        cases b with
        | false =>
          rw [if_neg Bool.false_ne_true]
          exact ⟨hlt, R4, acc, xs, r4.names r' (s2.trans n4.r), c3, c4, Reps.mono (s2.trans n4.r) rx, hb2 rfl, nn4⟩
        | true =>
          rw [if_pos rfl]
          refine LE.go r4 (hb1 rfl) (fun d w R5 H5 ⟨y, ey, hz, hI5⟩ n5 r5 d5 => ?_) fun nm cl R4 H4 z => z.elim
          subst ey
          obtain ⟨c5, c6⟩ := clear n5 c3 c4
          have s5 : Same R' R5 := (s2.trans n4.r).trans n5.r
          have nn5 : Nx P R1 H1 R5 H5 := nn4.trans ⟨n5.r, n5.h, n5.n, n5.d⟩
          cases d5 with
          | t rw' =>
            refine ⟨xs, c6, by rw [Paired.length rx]; exact hz, hlt, R5, acc ++ [y], xs ++ [w], (r5.names r' s5).poke c5 hB h0D hA, c5, upd_same, paired_append (Reps.mono s5 rx) (.cons rw' .nil), hI5, nn5.r, fun a o ha e => ?_, nn5.n, fun a e => ?_⟩
            · have ha' : a ≠ D := fun z => by rw [z, hD] at e; cases e
              rw [upd_ne ha']
              exact nn5.h a o ha e
            · by_cases hb : a = D
              · subst hb; rw [upd_same]; simp
              · rw [upd_ne hb]; exact nn5.d a e
    · have e : i = us.length := by omega
      subst e
      obtain ⟨hj, hn, hxx, hk⟩ := hd acc hI
      have rf := (r1.unbase r').drS dr
      have ra := rf.adopt (x := .lst acc) hz0 hR' hB h0D hA hj hn ⟨xs, hx, rx⟩ hxx
      exact .inl ⟨ok2, n.ok (.loc j) (.ref D) _ _ _ _ hk (n1.r.trans nn.r) (fun l hl => by rw [List.getElem?_set_ne fun z => hl (by rw [z]; exact List.mem_cons_self)]) ra (.loc (List.getElem?_set_self (by rw [r'.la]; exact hj)))⟩, fun nm cl R1 H1 a b c d => n.er nm cl m R1 as G H1 a b d⟩
end
section
variable {X : Cx} {Z : Rsc} {W W' : WX} {e tg iter elt c : Expr} {ifs : List Expr} {vi : VI} {vg : VG} {vt : VT} {ve : VE} {pos spos : Pos} {j : Nat} {dr : Option Nat}
theorem vm_lc {scope : Scope} {own : List (Str × Nat)} (h0 : Z.n0 ≤ j) (hc : X.calm = true) (hN : X.N.Nodup) (hi : PI X tg iter (LI X.K X.mg Z W vi)) (ok : BlkOk X.N X.env.scope scope own)
    (hg : ∀ (s : Shared) (H : Hp) (C : Addr) (cl : List (Str × Addr)) (fp : List Addr), PG (X.blk s H scope (compEnvC scope cl C X.env) fp) tg (LG X.K X.mg Z (some (own.map (·.2))) vg))
    (ht : ∀ (s : Shared) (H : Hp) (C : Addr) (cl : List (Str × Addr)) (fp : List Addr), PTs (X.blk s H scope (compEnvC scope cl C X.env) fp) ifs (LT X.K X.mg Z W' vt))
    (he : ∀ (s : Shared) (H : Hp) (C : Addr) (cl : List (Str × Addr)) (fp : List Addr), PE (X.blk s H scope (compEnvC scope cl C X.env) fp) elt (LE X.K X.mg Z W' ve)) (hs : ∀ x, foldedSetIterable iter X.env x = pure x := by intro _; rfl) :
    PE X (.ListComp elt [⟨tg, iter, ifs, 0⟩] scope pos) (LM X.K X.mg Z W dr [j] (vmLc j dr vi vg vt ve (own.map (·.2)))) := PE.imp (pe_lc hc hN hi ok hg ht he hs) (lc_ofM h0)
theorem vs_setLcM {i : Nat} {y : Str} {py : Pos} {scope : Scope} {own : List (Str × Nat)} (h0 : Z.n0 ≤ j) (hc : X.calm = true) (hN : X.N.Nodup) (hy : X.N[i]? = some y) (hyl : X.env.scope.names.lookup y = some .local)
    (hsw : swapsWith (.ListComp elt [⟨tg, iter, ifs, 0⟩] scope pos) (some (.Name y py)) spos.line X.env = pure true) (hi : PI X tg iter (LI X.K X.mg Z W vi)) (ok : BlkOk X.N X.env.scope scope own)
    (hg : ∀ (s : Shared) (H : Hp) (C : Addr) (cl : List (Str × Addr)) (fp : List Addr), PG (X.blk s H scope (compEnvC scope cl C X.env) fp) tg (LG X.K X.mg Z (some (own.map (·.2))) vg))
    (ht : ∀ (s : Shared) (H : Hp) (C : Addr) (cl : List (Str × Addr)) (fp : List Addr), PTs (X.blk s H scope (compEnvC scope cl C X.env) fp) ifs (LT X.K X.mg Z W' vt))
    (he : ∀ (s : Shared) (H : Hp) (C : Addr) (cl : List (Str × Addr)) (fp : List Addr), PE (X.blk s H scope (compEnvC scope cl C X.env) fp) elt (LE X.K X.mg Z W' ve)) (hs : ∀ x, foldedSetIterable iter X.env x = pure x := by intro _; rfl) :
    PS X (.Assign [.Name y py] (.ListComp elt [⟨tg, iter, ifs, 0⟩] scope pos) spos) (LS X.K X.mg Z W (vSetM dr i (vmLc j dr vi vg vt ve (own.map (·.2))))) :=
  PS.imp (ps_setLc hc hN hy hyl hsw hi ok hg ht he hs) fun D σ H ⟨P, R, as, G, m, nx, rt, bk, ct, ex, r, h, k⟩ => by
    refine lc_ofM (W := W) (j := j) (dr := dr) h0 σ H _ ?_
    exact ⟨P, R, as, G, m, _, _, r, h, fun d v m' R' as' H' h' s q r' d' => k.nx _ m' R' as' _ H' h' (r'.set d'), fun nm cl m' R' as' G' H' a b c => k.ex nm cl m' R' as' G' σ H' a b c⟩
end

/-! ### methods of a list at a site -/
/-- o.reverse() -/
abbrev vRevS (o : VE) : VS := fun nx _ _ _ ex G m => o G m (fun d => ∃ j ts, d = .loc j ∧ m[j]? = some (some (.lst ts)) ∧ nx G (m.set j (some (.lst ts.reverse)))) (fun n => ex n G m)
/-- o.insert(0, e) -/
abbrev vIns0 (o i e : VE) : VS := fun nx _ _ _ ex G m => o G m (fun d => ∃ j ts, d = .loc j ∧ m[j]? = some (some (.lst ts)) ∧ i G m (fun z => ∃ n : Int, view m z = some (.int n) ∧ 0 ≤ n ∧ n < 2 ^ 63 ∧ e G m (fun y => ∃ t, y = .t t ∧ ts.length < sizeLine ∧ nx G (m.set j (some (.lst (ts.take n.toNat ++ [t] ++ ts.drop n.toNat))))) (fun n => ex n G m)) (fun n => ex n G m)) (fun n => ex n G m)
/-- o.pop(), its value -/
abbrev vmPop (o : VE) : VM := fun G m k x => o G m (fun d => ∃ j ts t, d = .loc j ∧ m[j]? = some (some (.lst ts)) ∧ ts[ts.length - 1]? = some t ∧ k (.t t) (m.set j (some (.lst ts.dropLast)))) (fun n => x n G m)
theorem paired_dropLast {α β : Type} {F : α → β → Prop} {l : List α} {l' : List β} (h : Paired F l l') : Paired F l.dropLast l'.dropLast := by
  rw [List.dropLast_eq_take, List.dropLast_eq_take, Paired.length h]
  exact paired_take _ h
section
variable {X : Cx} {Z : Rsc} {W : WX} {o e i : Expr} {vo ve vi : VE} {p1 p2 pos : Pos}
theorem vs_revS (hp : ∀ {ta : TE}, PE X o ta → PE X (.Call (.Attribute o "reverse" p1) [] [] p2) (tBM0 X.K "list" rReverse ta)) (ho : PE X o (LE X.K X.mg Z W vo)) (hs : swapsWith (.Call (.Attribute o "reverse" p1) [] [] p2) none pos.line X.env = pure false := by rfl) : PS X (.Expr (.Call (.Attribute o "reverse" p1) [] [] p2) pos) (LS X.K X.mg Z W (vRevS vo)) :=
  PS.imp (ps_expr (hp ho) hs) fun D σ H ⟨P, R, as, G, m, nx, rt, bk, ct, ex, r, h, k⟩ =>
    LE.go r h (fun d v R1 H1 ⟨j, ts, ed, ej, h1⟩ n1 r1 d1 => by
      subst ed
      obtain ⟨a, xs, rfl, ha, hx, rx⟩ := r1.vLoc d1 ej
      exact ⟨.inl ⟨rfl, xs, .of hx⟩, _, xs, rfl, rfl, hx, k.nx _ _ _ _ _ _ h1 (r1.put ej ha ⟨_, upd_same, paired_reverse rx⟩)⟩) k.er
theorem vm_pop (hp : ∀ {ta : TE}, PE X o ta → PE X (.Call (.Attribute o "pop" p1) [] [] p2) (tBM0 X.K "list" rPop ta)) (ho : PE X o (LE X.K X.mg Z W vo)) : PE X (.Call (.Attribute o "pop" p1) [] [] p2) (LM X.K X.mg Z W none [] (vmPop vo)) :=
  PE.imp (hp ho) fun σ H Q ⟨P, R, as, G, m, k, x, r, h, n⟩ =>
    LE.go r h (fun d v R1 H1 ⟨j, ts, t, ed, ej, et, h1⟩ n1 r1 d1 => by
      subst ed
      obtain ⟨a, xs, rfl, ha, hx, rx⟩ := r1.vLoc d1 ej
      obtain ⟨y, hy, ry⟩ := Reps.get rx et
      refine ⟨.inl ⟨rfl, xs, .of hx⟩, _, xs, y, rfl, rfl, hx, by rw [Paired.length rx]; exact hy, n.ok _ _ _ R1 as _ h1 n1.r (fun _ _ => rfl) (r1.put ej ha ⟨_, upd_same, paired_dropLast rx⟩) (.t ry)⟩) (fun nm cl R1 H1 a b c d => n.er nm cl m R1 as G H1 a b d)
theorem vs_ins0 (hp : ∀ {ta ti te : TE}, PE X o ta → PE X i ti → PE X e te → PE X (.Call (.Attribute o "insert" p1) [i, e] [] p2) (tBM X.K "list" (fun x vs H Q => ∃ (l : Addr) (xs : List V) (i : Int) (y : V), x = .ref l ∧ vs = [.int i, y] ∧ H l = some (.lst xs) ∧ xs.length < sizeLine ∧ 0 ≤ i ∧ i < 2 ^ 63 ∧
      Q .non (upd H l (.lst (xs.take i.toNat ++ [y] ++ xs.drop i.toNat)))) ta (tCons ti (tCons te tNil))))
    (ho : PE X o (LE X.K X.mg Z W vo)) (hi : PE X i (LE X.K X.mg Z W vi)) (he : PE X e (LE X.K X.mg Z W ve)) (hs : swapsWith (.Call (.Attribute o "insert" p1) [i, e] [] p2) none pos.line X.env = pure false := by rfl) :
    PS X (.Expr (.Call (.Attribute o "insert" p1) [i, e] [] p2) pos) (LS X.K X.mg Z W (vIns0 vo vi ve)) :=
  PS.imp (ps_expr (hp ho hi he) hs) fun D σ H ⟨P, R, as, G, m, nx, rt, bk, ct, ex, r, h, k⟩ =>
    LE.go r h (fun d v R1 H1 ⟨j, ts, ed, ej, h1⟩ n1 r1 d1 => by
      subst ed
      obtain ⟨a, xs, rfl, ha, hx, rx⟩ := r1.vLoc d1 ej
      refine ⟨.inl ⟨rfl, xs, .of hx⟩, LE.go r1 h1 (fun z w R2 H2 ⟨n, en, n0, n63, h2⟩ n2 r2 d2 => LE.go r2 h2 (fun y w3 R3 H3 ⟨t, ey, hz, h3⟩ n3 r3 d3 => ?_) k.er) k.er⟩
      subst ey
      rw [r2.vInt d2 en]
      cases d3 with
      | t rt' =>
        obtain ⟨a', xs', e3, ha', hx', rx'⟩ := r3.vLoc ((d1.mono n2.r).mono n3.r) ej
        cases e3
        exact ⟨_, xs', n, w3, rfl, rfl, hx', by rw [Paired.length rx']; exact hz, n0, n63, k.nx _ _ _ _ _ _ h3 (r3.put ej ha' ⟨_, upd_same, paired_append (paired_append (paired_take _ rx') (.cons rt' .nil)) (paired_drop _ rx')⟩)⟩) k.er
end
end VL

/-! VL, part T: expressions that borrow owned objects; steps for a driver. -/
namespace VL
open PySem L2

def borD (m : Sto) : Option Dv → Option Dv
  | some (.loc j) => (viewD m (.loc j)).map .t
  | o => o
/-- an expression whose value is flat, owned objects seen as data -/
def vBor (e : VE) : VE := fun G m k x => e (G.map (borD m)) (wipeM m (List.range m.length)) (fun d => ∃ y, d = .t y ∧ y.flat = true ∧ k (.t y)) x
section
variable {K : PySem.W.Frag} {mg : Str → Option Value} {Z : Rsc} {W : WX} {P : Pm} {R R' H H' : Hp} {as : List Addr} {G : Env} {m : Sto} {σ : L2.St}
theorem wipe_all {j : Nat} {x : Tr} (h : (wipeM m (List.range m.length))[j]? = some (some x)) : False := by
  obtain ⟨h1, h2⟩ := wipeM_at h
  exact h1 (List.mem_range.mpr (List.getElem?_eq_some_iff.mp h2).1)
theorem Rel.borrow (r : Rel K mg Z P R as G m σ H) : Rel K mg Z (P.at (around P H)) (around P H) as (G.map (borD m)) (wipeM m (List.range m.length)) σ H := by
  refine ⟨around_same P H, by rw [List.length_map]; exact r.len, fun i d e => ?_, fun j x e => (wipe_all e).elim, fun j k x y a e _ _ _ => (wipe_all e).elim, r.vol, fun a b => by unfold around; exact if_pos b, r.frame, r.dom, fun a e => .inl e, Same.refl _, by rw [wipeM_len]; exact r.la, r.pre⟩
  rw [List.getElem?_map] at e
  cases q : G[i]? with
  | none => rw [q] at e; cases e
  | some g =>
    rw [q] at e
    have e : borD m g = some d := Option.some.inj e
    cases g with
    | none => cases e
    | some d0 =>
      obtain ⟨v, q1, q2⟩ := r.env i d0 q
      refine ⟨v, q1, ?_⟩
      cases d0 with
      | t x => cases e; cases q2 with | t h => exact .t (h.mono r.same_around)
      | hnd i => cases e; cases q2; exact .hnd _
      | loc j =>
        have e : (viewD m (.loc j)).map Dv.t = some d := e
        cases w : viewD m (.loc j) with
        | none => rw [w] at e; cases e
        | some x => rw [w] at e; cases e; exact .t (r.repA q2 w)
end
/-- a test, owned objects seen as data -/
def vtBor (e : VT) : VT := fun G m k x => e (G.map (borD m)) (wipeM m (List.range m.length)) k x
section
variable {X : Cx} {Z : Rsc} {W : WX} {e : Expr} {ve : VE} {vt : VT}
theorem vt_bor (h : PT X e (LT X.K X.mg Z W vt)) : PT X e (LT X.K X.mg Z W (vtBor vt)) :=
  PT.imp h fun σ H Q ⟨P, R, as, G, m, k, x, r, h, n⟩ => by
    have back : ∀ {R' H' : Hp}, Nx (P.at (around P H)) (around P H) H R' H' → Rel X.K X.mg Z (P.at (around P H)) R' as (G.map (borD m)) (wipeM m (List.range m.length)) σ H' → Nx P R H R H' ∧ Rel X.K X.mg Z P R as G m σ H' := fun {R' H'} nx q => by
      have nx' : Nx P R H R H' := ⟨Same.refl _, nx.h, fun a e => .inl e, nx.d⟩
      exact ⟨nx', r.step nx' (fun a o e => nx.h a o (fun b => by rw [r.rb a b] at e; cases e) (r.ex a o e)) q.vol⟩
    exact ⟨P.at (around P H), around P H, as, _, _, _, x, r.borrow, h, fun b R' H' hk nx q => by
      obtain ⟨nx', r'⟩ := back nx q
      exact n.ok b R H' hk nx' r', fun nm cl R' H' a b nx q => by
      obtain ⟨nx', r'⟩ := back nx q
      exact n.er nm cl R H' a b nx' r'⟩
theorem v_bor (h : PE X e (LE X.K X.mg Z W ve)) : PE X e (LE X.K X.mg Z W (vBor ve)) :=
  PE.imp h fun σ H Q ⟨P, R, as, G, m, k, x, r, h, n⟩ => by
    have back : ∀ {R' H' : Hp}, Nx (P.at (around P H)) (around P H) H R' H' → Rel X.K X.mg Z (P.at (around P H)) R' as (G.map (borD m)) (wipeM m (List.range m.length)) σ H' → Nx P R H R H' ∧ Rel X.K X.mg Z P R as G m σ H' := fun {R' H'} nx q => by
      have nx' : Nx P R H R H' := ⟨Same.refl _, nx.h, fun a e => .inl e, nx.d⟩
      exact ⟨nx', r.step nx' (fun a o e => nx.h a o (fun b => by rw [r.rb a b] at e; cases e) (r.ex a o e)) q.vol⟩
    exact ⟨P.at (around P H), around P H, as, _, _, _, x, r.borrow, h, fun d v R' H' ⟨y, ed, hf, hk⟩ nx q dv => by
      obtain ⟨nx', r'⟩ := back nx q
      subst ed
      cases dv with
      | t rv => exact n.ok _ _ R H' hk nx' r' (.t (rv.flat hf)), fun nm cl R' H' a b nx q => by
      obtain ⟨nx', r'⟩ := back nx q
      exact n.er nm cl R H' a b nx' r'⟩
end

/-! ### o.append(e), what e makes is known from then on -/
def reachD (m : Sto) : Dv → List Nat
  | .loc j => reach m 12 (.at j)
  | _ => []
abbrev vAppM (n : Nat) (fp : List Nat) (o : VE) (e : VM) : VS := fun nx _ _ _ ex G m => o G m (fun d => ∃ j, d = .loc j ∧ (∃ us, m[j]? = some (some (.lst us))) ∧ fp.contains j = false ∧ e G m (fun y m1 => ∃ t ts l, viewD m1 y = some t ∧ reachD m1 y = l ∧ l.all (n ≤ ·) = true ∧ (wipeM m1 l)[j]? = some (some (.lst ts)) ∧ ts.length < sizeLine ∧ nx G ((wipeM m1 l).set j (some (.lst (ts ++ [t]))))) ex) (fun n => ex n G m)
section
variable {X : Cx} {Z : Rsc} {W : WX} {o e : Expr} {vo : VE} {vm : VM} {p1 p2 pos : Pos} {fp : List Nat}
theorem vs_appM {n : Nat} (h0 : Z.n0 ≤ n) (hp : ∀ {ta te : TE}, PE X o ta → PE X e te → PE X (.Call (.Attribute o "append" p1) [e] [] p2) (tBM X.K "list" rAppend ta (tCons te tNil)))
    (ho : PE X o (LE X.K X.mg Z W vo)) (he : PE X e (LM X.K X.mg Z W none fp vm)) (hs : swapsWith (.Call (.Attribute o "append" p1) [e] [] p2) none pos.line X.env = pure false := by rfl) :
    PS X (.Expr (.Call (.Attribute o "append" p1) [e] [] p2) pos) (LS X.K X.mg Z W (vAppM n fp vo vm)) :=
  PS.imp (ps_expr (hp ho he) hs) fun D σ H ⟨P, R, as, G, m, nx, rt, bk, ct, ex, r, h, k⟩ =>
    LE.go r h (fun d v R1 H1 ⟨j, ed, ⟨us, eu⟩, hfp, h1⟩ n1 r1 d1 => by
      subst ed
      obtain ⟨a, xs, rfl, ha, hx, rx⟩ := r1.vLoc d1 eu
      refine ⟨.inl ⟨rfl, xs, .of hx⟩, P, R1, as, G, m, _, _, r1, h1, fun y w m2 R2 as2 H2 ⟨t, ts, l, et, el, hl, ej, hz, h2⟩ s2 q2 r2 d2 => ?_, fun nm cl m' R' as' G' H' a b c => k.ex nm cl m' R' as' G' σ H' a b c⟩
      have ha2 : as2[j]? = some a := by rw [q2 j (by simpa using hfp)]; exact ha
      have fin : ∀ {R3 : Hp}, Rel X.K X.mg Z P R3 as2 G (wipeM m2 l) σ H2 → Rep X.K X.mg R3 w t → ∃ l_1 xs y, V.ref a = V.ref l_1 ∧ [w] = [y] ∧ H2 l_1 = some (.lst xs) ∧ xs.length < sizeLine ∧ D.nx σ (upd H2 l_1 (.lst (xs ++ [y]))) := fun {R3} r3 rt' => by
        obtain ⟨a', xs', e3, ha', hx', rx'⟩ := r3.vLoc (.loc ha2) ej
        cases e3
        exact ⟨_, xs', w, rfl, rfl, hx', by rw [Paired.length rx']; exact hz, k.nx _ _ _ _ _ _ h2 (r3.put ej ha' ⟨xs' ++ [w], upd_same, paired_append rx' (.cons rt' .nil)⟩)⟩
      cases d2 with
      | t rt' => cases et; cases el; exact fin r2 rt'
      | hnd i => cases et
      | @loc i b hb =>
        have el : reach m2 12 (.at i) = l := el
        obtain ⟨R3, s3, _, r3, rep⟩ := r2.frz0 (show see m2 12 (.at i) = some t from et) (fun q hq => by
          rw [el] at hq
          rw [List.all_eq_true] at hl
          have : n ≤ q := by simpa using hl q hq
          omega)
        rw [el] at r3
        exact fin { r3 with len := r2.len, env := fun i d e => let ⟨x, h1, h2⟩ := r2.env i d e; ⟨x, h1, h2.mono s3⟩ } (rep b hb)) k.er
end

/-! ### steps -/
section
variable {G : Env} {m : Sto} {k : MK} {x : XS} {nx : SK} {rt : RK} {bk ct : SK} {ex : XS} {ds : List Dv} {sp : VSpM} {js ns : List Nat} {dr : Option Nat}
theorem st_callA {cs : Sto} {ds' : List Dv} (h1 : argsM (inA js) ds = some ds') (h2 : cellsIn m (ixIn js) js = some cs) (h3 : decide ((js ++ ns).Nodup) = true) (h4 : (js ++ ns).all (· < m.length) = true) (h5 : freeOf ns (wipeM m (js ++ ns)) (drG dr G) = true)
    (q : sp ds' cs (fun d m' => AllEq (outM (js ++ ns) m m') fun m2 => ∃ d', outD (js ++ ns) d = some d' ∧ k d' m2) (fun n m' => AllEq (outM (js ++ ns) m m') fun m2 => x n (drG dr G) m2)) : callM sp js ns dr G m ds k x := ⟨h3, h4, h5, cs, h2, .inl ⟨ds', h1, q⟩⟩
theorem st_callBM {cs : Sto} {ds' : List Dv} (h1 : argsM (inB m js) ds = some ds') (h2 : cellsIn m (ixIn js) js = some cs) (h3 : decide ((js ++ ns).Nodup) = true) (h4 : (js ++ ns).all (· < m.length) = true) (h5 : freeOf ns (wipeM m (js ++ ns)) (drG dr G) = true)
    (q : sp ds' cs (fun d m' => flatD d = true ∧ (∀ i c, i < (js ++ ns).length → m'.getD i none = some c → flatC c) ∧ AllEq (outM (js ++ ns) m m') fun m2 => ∃ d', outD (js ++ ns) d = some d' ∧ k d' m2)
      (fun n m' => (∀ i c, i < (js ++ ns).length → m'.getD i none = some c → flatC c) ∧ AllEq (outM (js ++ ns) m m') fun m2 => x n (drG dr G) m2)) : callM sp js ns dr G m ds k x := ⟨h3, h4, h5, cs, h2, .inr ⟨ds', h1, q⟩⟩
theorem st_out {ρ : List Nat} {d d' : Dv} {A : Dv → Prop} (h : outD ρ d = some d') (q : A d') : ∃ d', outD ρ d = some d' ∧ A d' := ⟨d', h, q⟩
theorem st_newCM {j : Nat} {t : Tr} (h1 : j < m.length) (h2 : noRef j m (drG dr G) = true) (h3 : noAt j t = true) (q : k (.loc j) (m.set j (some t))) : newC j dr t G m k := ⟨h1, h2, h3, q⟩
theorem st_chTs {ts : List Tr} {A : List Tr → Prop} (h : chTs ds = some ts) (hz : ts.length ≤ sizeLine) (q : A ts) : ∃ ts', chTs ds = some ts' ∧ ts'.length ≤ sizeLine ∧ A ts' := ⟨ts, h, hz, q⟩
theorem st_ni {fp : List Nat} {d : Dv} {A : Prop} (h : notIn fp d = true) (q : A) : notIn fp d = true ∧ A := ⟨h, q⟩
theorem st_rev1 {n : Nat} {ts : List Tr} (h : m[n]? = some (some (.lst ts))) {A : Nat → List Tr → Prop} (q : A n ts) : ∃ j' ts', Dv.loc n = .loc j' ∧ m[j']? = some (some (.lst ts')) ∧ A j' ts' := ⟨n, ts, rfl, h, q⟩
theorem st_pop1 {n : Nat} {ts : List Tr} {t : Tr} (h : m[n]? = some (some (.lst ts))) (h2 : ts[ts.length - 1]? = some t) {A : Nat → List Tr → Tr → Prop} (q : A n ts t) : ∃ j' ts' t', Dv.loc n = .loc j' ∧ m[j']? = some (some (.lst ts')) ∧ ts'[ts'.length - 1]? = some t' ∧ A j' ts' t' := ⟨n, ts, t, rfl, h, h2, q⟩
theorem st_ins1 {d : Dv} {n : Int} {A : Int → Prop} (h : view m d = some (.int n)) (q : A n) (h1 : 0 ≤ n) (h2 : n < 2 ^ 63) : ∃ n : Int, view m d = some (.int n) ∧ 0 ≤ n ∧ n < 2 ^ 63 ∧ A n := ⟨n, h, h1, h2, q⟩
theorem st_lst1 {d : Dv} {ts : List Tr} {A : List Tr → Prop} (h : view m d = some (.lst ts)) (q : A ts) : ∃ ts', (view m d = some (.lst ts') ∨ view m d = some (.tup ts')) ∧ A ts' := ⟨ts, .inl h, q⟩
theorem st_lst2 {d : Dv} {ts : List Tr} {A : List Tr → Prop} (h : view m d = some (.tup ts)) (q : A ts) : ∃ ts', (view m d = some (.lst ts') ∨ view m d = some (.tup ts')) ∧ A ts' := ⟨ts, .inr h, q⟩
theorem st_rp1 {d e : Dv} {ts : List Tr} {i : Int} {A : List Tr → Int → Prop} (h1 : view m d = some (.lst ts)) (h2 : view m e = some (.int i)) (q : A ts i) (c1 : -(2 ^ 63) ≤ i) (c2 : i < 2 ^ 63) (c3 : ts.length * i.toNat ≤ sizeLine) : ∃ xs j, view m d = some (.lst xs) ∧ view m e = some (.int j) ∧ -(2 ^ 63) ≤ j ∧ j < 2 ^ 63 ∧ xs.length * j.toNat ≤ sizeLine ∧ A xs j := ⟨ts, i, h1, h2, c1, c2, c3, q⟩
theorem st_bor {e : VE} {k : DK} {x : XK} {G' : Env} {m' : Sto} (h1 : G.map (borD m) = G') (h2 : wipeM m (List.range m.length) = m') (h : e G' m' (fun d => ∃ y, d = .t y ∧ y.flat = true ∧ k (.t y)) x) : vBor e G m k x := by
  unfold vBor
  rw [h1, h2]
  exact h
theorem st_tbor {e : VT} {k : Bool → Prop} {x : XK} {G' : Env} {m' : Sto} (h1 : G.map (borD m) = G') (h2 : wipeM m (List.range m.length) = m') (h : e G' m' k x) : vtBor e G m k x := by
  unfold vtBor
  rw [h1, h2]
  exact h
theorem st_fl {y : Tr} {A : Tr → Prop} (h : y.flat = true) (q : A y) : ∃ y', Dv.t y = .t y' ∧ y'.flat = true ∧ A y' := ⟨y, rfl, h, q⟩
theorem st_flc {y : Tr} {A : Prop} (h : y.flat = true) (q : A) : y.flat = true ∧ A := ⟨h, q⟩
theorem st_am1 {n : Nat} {us : List Tr} {fp : List Nat} {A : Nat → Prop} (h : m[n]? = some (some (.lst us))) (h2 : fp.contains n = false) (q : A n) : ∃ j, Dv.loc n = .loc j ∧ (∃ us, m[j]? = some (some (.lst us))) ∧ fp.contains j = false ∧ A j := ⟨n, rfl, ⟨us, h⟩, h2, q⟩
theorem st_am2 {n j : Nat} {t : Tr} {ts : List Tr} {l : List Nat} {y : Dv} {A : Tr → List Tr → List Nat → Prop} (h1 : viewD m y = some t) (h2 : reachD m y = l) (h3 : l.all (n ≤ ·) = true) (h4 : (wipeM m l)[j]? = some (some (.lst ts))) (q : A t ts l) (h5 : ts.length < sizeLine) : ∃ t ts l, viewD m y = some t ∧ reachD m y = l ∧ l.all (n ≤ ·) = true ∧ (wipeM m l)[j]? = some (some (.lst ts)) ∧ ts.length < sizeLine ∧ A t ts l := ⟨t, ts, l, h1, h2, h3, h4, h5, q⟩
theorem st_fld {d : Dv} {A : Prop} (h : flatD d = true) (q : A) : flatD d = true ∧ A := ⟨h, q⟩
theorem st_wipe {u : VS} {l : List Nat} {m' : Sto} (h1 : wipeM m l = m') (h : u nx rt bk ct ex G m') : vWipe l u nx rt bk ct ex G m := by
  unfold vWipe
  rw [h1]
  exact h
end
section
variable {m : Sto} {k : DK} {e : Dv} {i : Int} {ts : List Tr} {t : Tr}
theorem sp_ixDs {n l : Nat} (h1 : m[n]? = some (some (.dt ts))) (h2 : view m e = some (.int i)) (h3 : atI ts i = some (.at l)) (q : k (.loc l)) : fIdx m (.loc n) e k := sp_ixDT h1 h2 h3 q
theorem sp_ixDk {n : Nat} (h1 : m[n]? = some (some (.dt ts))) (h2 : view m e = some (.int i)) (h3 : atI ts i = some t) (h4 : chD t = .t t) (q : k (.t t)) : fIdx m (.loc n) e k := sp_ixDT h1 h2 h3 (by rw [h4]; exact q)
theorem sp_ixLs {n l : Nat} (h1 : m[n]? = some (some (.dl ts))) (h2 : view m e = some (.int i)) (h3 : atI ts i = some (.at l)) (q : k (.loc l)) : fIdx m (.loc n) e k := sp_ixDL h1 h2 h3 q
end
theorem flat_ints {ns : List Int} : flatC (.lst (ns.map .int)) := fun t ht => by
  obtain ⟨n, _, rfl⟩ := List.mem_map.mp ht
  rfl
/-- the first cells hold flat things alone -/
def FlatN : Nat → Sto → Prop
  | 0, _ => True
  | _ + 1, [] => True
  | n + 1, none :: r => FlatN n r
  | n + 1, some c :: r => flatC c ∧ FlatN n r
theorem flatN_at : ∀ {n : Nat} {m : Sto}, FlatN n m → ∀ i c, i < n → m.getD i none = some c → flatC c
  | 0, _, _, i, c, h, _ => by omega
  | n + 1, [], _, i, c, _, e => by simp at e
  | n + 1, none :: r, h, 0, c, _, e => by simp at e
  | n + 1, none :: r, h, i + 1, c, hi, e => flatN_at (n := n) (m := r) h i c (by omega) (by simpa using e)
  | n + 1, some c :: r, h, 0, d, _, e => by simp at e; subst e; exact h.1
  | n + 1, some c :: r, h, i + 1, d, hi, e => flatN_at (n := n) (m := r) h.2 i d (by omega) (by simpa using e)
theorem fn_0 {m : Sto} : FlatN 0 m := trivial
theorem fn_s {n : Nat} {c : Tr} {r : Sto} (h : flatC c) (q : FlatN n r) : FlatN (n + 1) (some c :: r) := ⟨h, q⟩
theorem fn_n {n : Nat} {r : Sto} (q : FlatN n r) : FlatN (n + 1) (none :: r) := q
theorem st_fc {n : Nat} {m' : Sto} {A : Prop} (h : FlatN n m') (q : A) : (∀ i c, i < n → m'.getD i none = some c → flatC c) ∧ A := ⟨flatN_at h, q⟩
theorem flat_dt3 {b : Int} {j k : Nat} : flatC (.dt [.int b, .at j, .at k]) := fun t ht hn => by
  simp only [List.mem_cons, List.not_mem_nil, or_false] at ht
  rcases ht with rfl | rfl | rfl
  · rfl
  · exact absurd rfl (hn _)
  · exact absurd rfl (hn _)
def okC : Tr → Bool
  | .at _ => true
  | t => t.flat
theorem okC_flat {t : Tr} (h : okC t = true) (n : ∀ j, t ≠ .at j) : t.flat = true := by
  cases t <;> first | exact h | exact absurd rfl (n _)
theorem flat_dtb {ts : List Tr} (h : ts.all okC = true) : flatC (.dt ts) := fun t ht hn => okC_flat (List.all_eq_true.mp h t ht) hn
theorem flat_dlb {ts : List Tr} (h : ts.all okC = true) : flatC (.dl ts) := fun t ht hn => okC_flat (List.all_eq_true.mp h t ht) hn
theorem flat_dib {c : Str} {ts : List (Str × Tr)} (h : (ts.all fun t => okC t.2) = true) : flatC (.di c ts) := fun t ht hn => okC_flat (List.all_eq_true.mp h t ht) hn
theorem st_seqN {a b : VS} {nx : SK} {rt : RK} {bk ct : SK} {ex : XS} {G G2 : Env} {m m2 : Sto} (hG : G = G2) (hm : m = m2) (h : a (fun G' m' => b nx rt bk ct ex G' m') rt bk ct ex G2 m2) : vSeq a b nx rt bk ct ex G m := by subst hG; subst hm; exact h
theorem st_fe {m : Sto} {P : Sto → Prop} {m2 : Sto} (h : m = m2) (q : P m2) : AllEq m P := fun m3 e => by rw [← e, h]; exact q
theorem st_newCMN {G : Env} {m : Sto} {k : MK} {dr : Option Nat} {j : Nat} {t : Tr} {m2 : Sto} (h1 : j < m.length) (h2 : noRef j m (drG dr G) = true) (h3 : noAt j t = true) (hm : m.set j (some t) = m2) (q : k (.loc j) m2) : newC j dr t G m k := ⟨h1, h2, h3, by rw [hm]; exact q⟩
theorem st_am2N {m : Sto} {n j : Nat} {t : Tr} {ts : List Tr} {l : List Nat} {y : Dv} {m2 : Sto} {A : Sto → Prop} (h1 : viewD m y = some t) (h2 : reachD m y = l) (h3 : l.all (n ≤ ·) = true) (h6 : wipeM m l = m2) (h4 : m2[j]? = some (some (.lst ts))) {m3 : Sto} (h7 : m2.set j (some (.lst (ts ++ [t]))) = m3) (q : A m3) (h5 : ts.length < sizeLine) :
    ∃ t ts l, viewD m y = some t ∧ reachD m y = l ∧ l.all (n ≤ ·) = true ∧ (wipeM m l)[j]? = some (some (.lst ts)) ∧ ts.length < sizeLine ∧ A ((wipeM m l).set j (some (.lst (ts ++ [t])))) := ⟨t, ts, l, h1, h2, h3, by rw [h6]; exact h4, h5, by rw [h6, h7]; exact q⟩
end VL

/-! VL, part U: dicts walked, the dict locked meanwhile. -/
namespace VL
open PySem L2
section
variable {K : PySem.W.Frag} {mg : Str → Option Value} {R R' H H' : Hp} {as : List Addr}
/-- R' is R, but for a dict's lock -/
structure Alike (d : Addr) (xs : List (Key × V)) (R R' : Hp) : Prop where
  off : ∀ a, a ≠ d → R' a = R a
  at0 : Rd R d (.dK xs)
  at1 : Rd R' d (.dK xs)
theorem Alike.symm {d : Addr} {xs : List (Key × V)} (h : Alike d xs R R') : Alike d xs R' R := ⟨fun a n => (h.off a n).symm, h.at1, h.at0⟩
theorem Alike.ne {d : Addr} {xs : List (Key × V)} (h : Alike d xs R R') {a : Addr} {o : HO} (e : R a = some o) (n1 : ∀ ys, o ≠ .dK ys) (n2 : ∀ q ys, o ≠ .frz q (.dK ys)) : a ≠ d := fun z => by
  subst z
  rcases h.at0 with q | ⟨w, q⟩
  · rw [q] at e; cases e; exact n1 _ rfl
  · rw [q] at e; cases e; exact n2 _ _ rfl
theorem Alike.rd {d : Addr} {xs : List (Key × V)} (h : Alike d xs R R') {a : Addr} {ys : List (Key × V)} (e : Rd R a (.dK ys)) : Rd R' a (.dK ys) := by
  by_cases z : a = d
  · subst z
    have : ys = xs := by
      rcases e with e | ⟨o, e⟩ <;> rcases h.at0 with q | ⟨w, q⟩ <;> rw [q] at e <;> cases e <;> rfl
    rw [this]
    exact h.at1
  · rcases e with e | ⟨o, e⟩
    · exact .inl (by rw [h.off a z]; exact e)
    · exact .inr ⟨o, by rw [h.off a z]; exact e⟩
theorem Rep.alike {d : Addr} {xs : List (Key × V)} (s : Alike d xs R R') {v : V} {x : Tr} (h : Rep K mg R v x) : Rep K mg R' v x := by
  induction h with
  | non => exact .non
  | bl b => exact .bl b
  | int i => exact .int i
  | str x => exact .str x
  | ty n => exact .ty n
  | cls h => exact .cls h
  | @scr a ns h =>
    refine .scr ?_
    rcases h with (h | ⟨o, h⟩) | h
    · exact .inl (.inl (by rw [s.off a (s.ne h (fun _ z => nomatch z) fun _ _ z => nomatch z)]; exact h))
    · exact .inl (.inr ⟨o, by rw [s.off a (s.ne h (fun _ z => nomatch z) fun _ _ z => nomatch z)]; exact h⟩)
    · exact .inr h
  | lst h l _ ih => exact .lst (by rw [s.off _ (s.ne h (fun _ z => nomatch z) fun _ _ z => nomatch z)]; exact h) l ih
  | tup h l _ ih => exact .tup (by rw [s.off _ (s.ne h (fun _ z => nomatch z) fun _ _ z => nomatch z)]; exact h) l ih
  | dic h l _ ih => exact .dic (s.rd h) l ih
  | ins m h l _ ih => exact .ins m (by rw [s.off _ (s.ne h (fun _ z => nomatch z) fun _ _ z => nomatch z)]; exact h) l ih
  | exc m h => exact .exc m (by rw [s.off _ (s.ne h (fun _ z => by unfold ExD at z; cases z) fun _ _ z => by unfold ExD at z; cases z)]; exact h)
theorem Reps.alike {d : Addr} {xs : List (Key × V)} (s : Alike d xs R R') {l : List V} {ts : List Tr} (h : Reps K mg R l ts) : Reps K mg R' l ts := Paired.mapP h fun _ _ r => r.alike s
theorem RepsP.alike {κ : Type} {d : Addr} {xs : List (Key × V)} (s : Alike d xs R R') {l : List (κ × V)} {ts : List (κ × Tr)} (h : RepsP K mg R l ts) : RepsP K mg R' l ts := Paired.mapP h fun _ _ r => ⟨r.1, r.2.alike s⟩
theorem ChR.alike {d : Addr} {xs : List (Key × V)} (s : Alike d xs R R') {v : V} {x : Tr} (h : ChR K mg R as v x) : ChR K mg R' as v x := by
  cases h with
  | k h => exact .k (h.alike s)
  | s h => exact .s h
theorem DRep.alike {d : Addr} {xs : List (Key × V)} (s : Alike d xs R R') {hd : Nat → Addr} {v : V} {x : Dv} (h : DRep K mg R hd as v x) : DRep K mg R' hd as v x := by
  cases h with
  | t h => exact .t (h.alike s)
  | loc h => exact .loc h
  | hnd i => exact .hnd i
theorem Own.alike {d : Addr} {xs : List (Key × V)} (s : Alike d xs R R') {a : Addr} {x : Tr} (e : H' a = H a) (h : Own K mg R as H a x) : Own K mg R' as H' a x := by
  cases x with
  | lst ts => obtain ⟨xs, q, r⟩ := h; exact ⟨xs, by rw [e]; exact q, r.alike s⟩
  | dic ts => obtain ⟨xs, q, r⟩ := h; exact ⟨xs, by rw [e]; exact q, r.alike s⟩
  | ins c ts => obtain ⟨C, dx, xs, z, q, r⟩ := h; exact ⟨C, dx, xs, z, by rw [e]; exact q, r.alike s⟩
  | dt ts => obtain ⟨xs, q, r⟩ := h; exact ⟨xs, by rw [e]; exact q, Paired.mapP r fun _ _ r => r.alike s⟩
  | dl ts => obtain ⟨xs, q, r⟩ := h; exact ⟨xs, by rw [e]; exact q, Paired.mapP r fun _ _ r => r.alike s⟩
  | di c ts => obtain ⟨C, dx, xs, z, q, r⟩ := h; exact ⟨C, dx, xs, z, by rw [e]; exact q, Paired.mapP r fun _ _ r => ⟨r.1, r.2.alike s⟩⟩
  | _ => exact h.elim
def Pm.lk (P : Pm) (d : Addr) (o : HO) : Pm := { P with R0 := upd P.R0 d o, H0 := fun a => if a = d then (P.H0 d).map fun _ => o else P.H0 a }
variable {Z : Rsc} {P : Pm} {G : Env} {m : Sto} {σ : L2.St}
theorem lk_H0 {P : Pm} {d a : Addr} {o q : HO} (h : (P.lk d o).H0 a = some q) : (a = d ∧ q = o ∧ P.H0 d ≠ none) ∨ (a ≠ d ∧ P.H0 a = some q) := by
  by_cases z : a = d
  · subst z
    cases e : P.H0 a with
    | none => simp [Pm.lk, e] at h
    | some w => simp [Pm.lk, e] at h; exact .inl ⟨rfl, h.symm, fun z => nomatch z⟩
  · simp [Pm.lk, z] at h; exact .inr ⟨z, h⟩
theorem lk_none {P : Pm} {d a : Addr} {o : HO} : (P.lk d o).H0 a = none ↔ P.H0 a = none := by
  by_cases z : a = d
  · subst z; simp [Pm.lk]
  · simp [Pm.lk, z]
theorem Rel.lock {d : Addr} {od : Obj} {xs : List (Key × V)} (r : Rel K mg Z P R as G m σ H) (h : R d = some (.dK xs)) :
    Rel K mg Z (P.lk d (.frz od (.dK xs))) (upd R d (.frz od (.dK xs))) as G m σ (upd H d (.frz od (.dK xs))) := by
  have s : Alike d xs R (upd R d (.frz od (.dK xs))) := ⟨fun a n => upd_ne n, .inl h, .inr ⟨od, upd_same⟩⟩
  have hB : ¬ P.B d := fun z => by have := r.rb d z; rw [h] at this; cases this
  refine ⟨fun a o e => ?_, r.len, fun i dv e => ?_, fun j x e => ?_, r.inj, Z.st H _ _ _ (fun a b => upd_ne fun z => hB (by rw [← z]; exact b)) r.vol, fun a b => ?_, fun a o e n1 n2 => ?_, fun a e => ?_, fun a e => ?_, fun a o e => ?_, r.la, r.pre⟩
  · by_cases z : a = d
    · subst z; rw [upd_same] at e ⊢; exact e
    · rw [upd_ne z] at e ⊢; exact r.ex _ _ e
  · obtain ⟨x, q1, q2⟩ := r.env i dv e; exact ⟨x, q1, q2.alike s⟩
  · obtain ⟨a, q1, q2, q3, q4, q5⟩ := r.sto j x e
    have n : a ≠ d := fun z => by rw [z, h] at q3; cases q3
    exact ⟨a, q1, q2.alike s (upd_ne n), by rw [upd_ne n]; exact q3, q4, q5.imp (fun q => lk_none.mpr q) id⟩
  · rw [upd_ne (show a ≠ d from fun z => hB (by rw [← z]; exact b))]; exact r.rb a b
  · rcases lk_H0 e with ⟨rfl, rfl, _⟩ | ⟨z, e⟩
    · exact upd_same
    · rw [upd_ne z]; exact r.frame a o e n1 n2
  · by_cases z : a = d
    · subst z; rw [upd_same]; exact fun q => nomatch q
    · rw [upd_ne z]; exact r.dom a fun q => e (lk_none.mpr q)
  · by_cases z : a = d
    · subst z; exact .inl (by show upd P.R0 a _ a ≠ none; rw [upd_same]; exact fun q => nomatch q)
    · rw [upd_ne z] at e
      exact (r.fresh a e).imp (fun q => by show upd P.R0 d _ a ≠ none; rw [upd_ne z]; exact q) fun q => lk_none.mpr q
  · by_cases z : a = d
    · subst z
      have e' : some (HO.frz od (.dK xs)) = some o := by rw [← e]; exact upd_same.symm
      rw [upd_same]; exact e'
    · have e' : P.R0 a = some o := by rw [← e]; exact (upd_ne z).symm
      rw [upd_ne z]; exact r.r0 a o e'
theorem Rel.unlock {as' : List Addr} {G' : Env} {m' : Sto} {σ' : L2.St} {d : Addr} {od : Obj} {xs : List (Key × V)} (r0 : Rel K mg Z P R as G m σ H) (h : R d = some (.dK xs)) (r : Rel K mg Z (P.lk d (.frz od (.dK xs))) R' as' G' m' σ' H') :
    Alike d xs R' (upd R' d (.dK xs)) ∧ Rel K mg Z P (upd R' d (.dK xs)) as' G' m' σ' (upd H' d (.dK xs)) := by
  have e1 : R' d = some (.frz od (.dK xs)) := r.r0 d _ (by show upd P.R0 d _ d = _; exact upd_same)
  have s : Alike d xs R' (upd R' d (.dK xs)) := ⟨fun a n => upd_ne n, .inr ⟨od, e1⟩, .inl upd_same⟩
  have hB : ¬ P.B d := fun z => by have := r0.rb d z; rw [h] at this; cases this
  refine ⟨s, fun a o e => ?_, r.len, fun i dv e => ?_, fun j x e => ?_, r.inj, Z.st H' _ _ _ (fun a b => upd_ne fun z => hB (by rw [← z]; exact b)) r.vol, fun a b => ?_, fun a o e n1 n2 => ?_, fun a e => ?_, fun a e => ?_, fun a o e => ?_, r.la, r.pre⟩
  · by_cases z : a = d
    · subst z; rw [upd_same] at e ⊢; exact e
    · rw [upd_ne z] at e ⊢; exact r.ex _ _ e
  · obtain ⟨x, q1, q2⟩ := r.env i dv e; exact ⟨x, q1, q2.alike s⟩
  · obtain ⟨a, q1, q2, q3, q4, q5⟩ := r.sto j x e
    have n : a ≠ d := fun z => by rw [z, e1] at q3; cases q3
    exact ⟨a, q1, q2.alike s (upd_ne n), by rw [upd_ne n]; exact q3, q4, q5.imp (fun q => lk_none.mp q) id⟩
  · rw [upd_ne (show a ≠ d from fun z => hB (by rw [← z]; exact b))]; exact r.rb a b
  · by_cases z : a = d
    · subst z
      have q := r0.frame a o e n1 n2
      rw [r0.ex _ _ h] at q
      rw [upd_same]; exact q
    · rw [upd_ne z]; exact r.frame a o (by simp [Pm.lk, z]; exact e) n1 n2
  · by_cases z : a = d
    · subst z; rw [upd_same]; exact fun q => nomatch q
    · rw [upd_ne z]; exact r.dom a fun q => e (lk_none.mp q)
  · by_cases z : a = d
    · subst z; exact r0.fresh a (by rw [h]; exact fun q => nomatch q)
    · rw [upd_ne z] at e
      exact (r.fresh a e).imp (fun q z2 => q (by show upd P.R0 d _ a = none; rw [upd_ne z]; exact z2)) fun q => lk_none.mp q
  · by_cases z : a = d
    · subst z
      have q := r0.r0 a o e
      rw [h] at q
      rw [upd_same]; exact q
    · rw [upd_ne z]; exact r.r0 a o (by show upd P.R0 d _ a = _; rw [upd_ne z]; exact e)
end

/-! ### locks, ghost steps -/
section
variable {X : Cx}
def NF (X : Cx) (d : Addr) : Prop := ∀ o' u', X.H_0 d ≠ some (.frz o' u')
/-- behind e the dict that it tells is locked -/
def tLk (X : Cx) (t : TE) : TE := fun σ H Q => t σ H fun v H1 => Q v H1 ∨ ∃ d u, H1 d = some u ∧ Mut (some u) ∧ (NF X d → ∀ od, Q v (upd H1 d (.frz od u)))
theorem pe_lk {e : Expr} {t : TE} (h : PE X e t) : PE X e (tLk X t) := by
  refine ⟨fun pins s σ H Q I hw => ?_⟩
  refine thn (h.run pins s σ _ _ I hw) fun v s1 ⟨x, H1, I1, r, q⟩ => ?_
  rcases q with q | ⟨d, u, hd, mu, q⟩
  · exact ⟨x, H1, I1, r, q⟩
  · obtain ⟨od, I2⟩ := I1.lock hd mu
    exact ⟨x, _, I2, r, q (I1.nofrz hd mu) od⟩
def UnK (X : Cx) (q : Hp → Prop) (H : Hp) : Prop := q H ∨ ∃ d od u, H d = some (.frz od u) ∧ NF X d ∧ q (upd H d u)
def tUn (X : Cx) (t : TS) : TS := fun D σ H => t ⟨fun σ' => UnK X (D.nx σ'), fun v => UnK X (D.rt v), fun σ' => UnK X (D.bk σ'), fun σ' => UnK X (D.ct σ')⟩ σ H
theorem UnK.go {pins : List (Addr × Obj)} {σ : St} {H : Hp} {s : Shared} {q : Hp → Prop} (I : Inv X pins σ H s) (h : UnK X q H) : ∃ H', Inv X pins σ H' s ∧ q H' := by
  rcases h with h | ⟨d, od, u, hd, n, h⟩
  · exact ⟨H, I, h⟩
  · exact ⟨_, I.unlock hd n, h⟩
theorem ps_un {st : Stmt} {t : TS} (h : PS X st t) : PS X st (tUn X t) := by
  refine ⟨fun pins s σ H D I hw => ?_⟩
  refine thn (h.run pins s σ _ _ I hw) fun f s1 q => ?_
  cases f with
  | next => obtain ⟨σ', H', I2, q⟩ := q; obtain ⟨H2, I3, q⟩ := q.go I2; exact ⟨σ', _, I3, q⟩
  | brk => obtain ⟨σ', H', I2, q⟩ := q; obtain ⟨H2, I3, q⟩ := q.go I2; exact ⟨σ', _, I3, q⟩
  | cont => obtain ⟨σ', H', I2, q⟩ := q; obtain ⟨H2, I3, q⟩ := q.go I2; exact ⟨σ', _, I3, q⟩
  | ret v => obtain ⟨x, σ', H', I2, r, q⟩ := q; obtain ⟨H2, I3, q⟩ := q.go I2; exact ⟨x, σ', _, I3, r, q⟩
def tUnE (X : Cx) (t : TE) : TE := fun σ H Q => t σ H fun v => UnK X (Q v)
theorem pe_un {e : Expr} {t : TE} (h : PE X e t) : PE X e (tUnE X t) := by
  refine ⟨fun pins s σ H Q I hw => ?_⟩
  refine thn (h.run pins s σ _ _ I hw) fun v s1 ⟨x, H1, I1, r, q⟩ => ?_
  obtain ⟨H2, I3, q⟩ := q.go I1
  exact ⟨x, _, I3, r, q⟩
end

/-! ### the items of a dict -/
def itemsT (ts : List (Key × Tr)) : List Tr := ts.map fun p => .tup [kT p.1, p.2]
theorem items_len (ts : List (Key × Tr)) : (itemsT ts).length = ts.length := by unfold itemsT; rw [List.length_map]
section
variable {K : PySem.W.Frag} {mg : Str → Option Value} {Z : Rsc} {P : Pm} {R R' H H' : Hp} {as : List Addr} {G : Env} {m : Sto} {σ : L2.St}
theorem kT_rep (k : Key) : Rep K mg R (kV k) (kT k) := by
  cases k with
  | inl i => exact .int i
  | inr x => exact .str x
theorem itok_items {d : Addr} {o : Obj} {kvs : List (Key × V)} {ts : List (Key × Tr)} (h : R d = some (.frz o (.dK kvs))) (rx : RepsP K mg R kvs ts) : ItOk K mg Z P R (Iti d o kvs) (itemsT ts) := fun R' as' G' m' σ' H' r s => by
  have hx : H' d = some (.frz o (.dK kvs)) := r.ex _ _ (s _ _ h)
  refine ⟨fun i t e => ?_, ⟨hx, by rw [items_len, Paired.length rx]; exact Nat.le_refl _⟩⟩
  unfold itemsT at e
  rw [List.getElem?_map] at e
  cases q : ts[i]? with
  | none => rw [q] at e; cases e
  | some p =>
    rw [q] at e
    cases e
    have hl := Paired.length rx
    have hi : i < ts.length := (List.getElem?_eq_some_iff.mp q).1
    have e1 : kvs[i]? = some (kvs[i]'(by omega)) := List.getElem?_eq_getElem (by omega)
    have pr := paired_at rx i _ _ e1 q
    refine ⟨⟨hx, by omega⟩, fun z H2 ⟨T, k, v, g, ez, hT, eH⟩ => ?_⟩
    subst ez eH
    rw [g] at e1
    have e1 := Option.some.inj e1
    rw [← e1] at pr
    obtain ⟨r', n'⟩ := r.laid (o := .tup [kV k, v]) hT
    refine ⟨_, n'.r, n', r', .tupP upd_same (.cons ?_ (.cons (pr.2.mono (s.trans n'.r)) .nil))⟩
    rw [← pr.1]
    exact kT_rep _
end
abbrev viItems (e : VE) : VI := fun G m k x => e G m (fun d => ∃ ts, d = .t (.dic ts) ∧ k (itemsT ts)) x
/-- nothing is raised within -/
def vNoX (u : VS) : VS := fun nx rt bk ct _ G m => u nx rt bk ct (fun _ _ _ => False) G m
section
variable {X : Cx} {Z : Rsc} {W : WX} {tg e : Expr} {ve : VE} {vg : VG} {body : List Stmt} {u : VS} {p pos apos cpos tpos : Pos} {elts : List Expr} {kk : Nat}
theorem vs_forI (hp : PassesOwn (model X.prog X.w) X.A X.env X.xe) (hc : X.calm = true) (hi : PE X e (LE X.K X.mg Z W ve)) (hg : PG X (.Tuple elts kk tpos) (LG X.K X.mg Z none vg)) (hb : PSs X body (LS X.K X.mg Z W u))
    (hbase : attributeBase e "items" X.env (eval e X.env) = eval e X.env := by rfl) (hline : (apos.endLine == cpos.line) = true := by rfl)
    (hs : ∀ x, foldedSetIterable (.Call (.Attribute e "items" apos) [] [] cpos) X.env x = pure x := by intro _; rfl) :
    PS X (.For (.Tuple elts kk tpos) (.Call (.Attribute e "items" apos) [] [] cpos) body [] pos) (LS X.K X.mg Z W (vFor (viItems ve) vg (vNoX u))) :=
  PS.imp (ps_un (ps_for hp hc (pi_items (pe_lk hi) hbase hline) hg hb hs)) fun D σ H ⟨P, R, as, G, m, nx, rt, bk, ct, ex, r, h, k⟩ => LE.go r h (fun dv v R1 H1 ⟨ts, ed, I, h0, hs, hd⟩ n1 r1 d1 => by
    subst ed
    have core : ∀ (P1 : Pm) (R2 H2 : Hp) (d : Addr) (o : Obj) (xs : List (Key × V)) (D' : Ends), P1.hd = P.hd → Rel X.K X.mg Z P1 R2 as G m σ H2 → R2 d = some (.frz o (.dK xs)) → RepsP X.K X.mg R2 xs ts → Ke X.K X.mg Z W P1 nx rt bk ct (fun _ _ _ => False) D' →
        ∃ Wv : Nat → Nat → St → Hp → Prop, (∃ m, Wv 0 m σ H2) ∧ ∀ i m σ H, Wv i m σ H → ((Iti d o xs).stop i H ∧ D'.nx σ H) ∨ ((Iti d o xs).go i H ∧ ∃ N : St → Hp → Prop, (∀ σ' H', N σ' H' → ∃ m', m' < m ∧ Wv (i + 1) m' σ' H') ∧ ∀ x H', (Iti d o xs).yld i H x H' → LG X.K X.mg Z none vg x σ H' fun σ2 H2 => LS X.K X.mg Z W u { D' with nx := N, ct := N, bk := D'.nx } σ2 H2) := by
      intro P1 R2 H2 d o xs D' ehd r2 hd2 rx k
      have okP : ItOk X.K X.mg Z (P1.at R2) R2 (Iti d o xs) (itemsT ts) := itok_items hd2 rx
      refine ⟨fun i q σ' H' => q = (itemsT ts).length - i ∧ i ≤ (itemsT ts).length ∧ ∃ R' as' G' m', Rel X.K X.mg Z (P1.at R2) R' as' G' m' σ' H' ∧ I i G' m', ⟨(itemsT ts).length, by simp, Nat.zero_le _, R2, as, G, m, r2.base, h0⟩, ?_⟩
      rintro i q σ' H' ⟨rfl, hi, R', as', G', m', r', hI⟩
      obtain ⟨ok1, ok2⟩ := okP R' as' G' m' σ' H' r' r'.r0
      by_cases hlt : i < (itemsT ts).length
      · have ht : (itemsT ts)[i]? = some (itemsT ts)[i] := List.getElem?_eq_getElem hlt
        obtain ⟨hgo, hy⟩ := ok1 i _ ht
        refine .inr ⟨hgo, fun σ2 H2 => i + 1 ≤ (itemsT ts).length ∧ ∃ R3 as2 G2 m2, Rel X.K X.mg Z (P1.at R2) R3 as2 G2 m2 σ2 H2 ∧ I (i + 1) G2 m2, fun σ2 H2 ⟨a, b⟩ => ⟨(itemsT ts).length - (i + 1), by omega, rfl, a, b⟩, fun x H2 hx => ?_⟩
        obtain ⟨R3, _, _, r3, rv⟩ := hy x H2 hx
        refine ⟨P1.at R2, R3, as', G', m', _, _, r3, rv, hs i _ G' m' ht hI, fun G3 σ3 h3 _ r3 => ⟨P1.at R2, R3, as', G3, m', _, _, _, _, _, r3, h3, ?_⟩⟩
        have kk := k.at r2
        exact ⟨fun G m R as σ H a b => ⟨hlt, R, as, G, m, b, a⟩, kk.rt, kk.nx, fun G m R as σ H a b => ⟨hlt, R, as, G, m, b, a⟩, kk.ex⟩
      · have e : i = (itemsT ts).length := by omega
        subst e
        exact .inl ⟨ok2, k.nx G' m' R' as' σ' H' (hd G' m' hI) (r2.unbase r')⟩
    cases d1 with
    | t rv =>
      obtain ⟨d, xs, rfl, hx, rx⟩ := rv.dic_inv
      rcases hx with hx | ⟨o, hx⟩
      · refine .inr ⟨d, .dK xs, r1.ex _ _ hx, trivial, fun nf od => ⟨d, od, xs, rfl, upd_same, ?_⟩⟩
        have s : Alike d xs R1 (upd R1 d (.frz od (.dK xs))) := ⟨fun a n => upd_ne n, .inl hx, .inr ⟨od, upd_same⟩⟩
        refine core (P.lk d (.frz od (.dK xs))) (upd R1 d (.frz od (.dK xs))) (upd H1 d (.frz od (.dK xs))) d od xs _ rfl (r1.lock hx) upd_same (rx.alike s) ?_
        have dn : ∀ {R' as' G' m' σ' H'}, Rel X.K X.mg Z (P.lk d (.frz od (.dK xs))) R' as' G' m' σ' H' → H' d = some (.frz od (.dK xs)) := fun b => b.ex _ _ (b.r0 d _ (by show upd P.R0 d _ d = _; exact upd_same))
        exact ⟨fun G m R as σ H a b => .inr ⟨d, od, .dK xs, dn b, nf, k.nx _ _ _ _ _ _ a (r1.unlock hx b).2⟩,
          fun dv m v R as G σ H a b c => .inr ⟨d, od, .dK xs, dn b, nf, k.rt _ _ _ _ _ _ _ _ a (r1.unlock hx b).2 (c.alike (r1.unlock hx b).1)⟩,
          fun G m R as σ H a b => .inr ⟨d, od, .dK xs, dn b, nf, k.bk _ _ _ _ _ _ a (r1.unlock hx b).2⟩,
          fun G m R as σ H a b => .inr ⟨d, od, .dK xs, dn b, nf, k.ct _ _ _ _ _ _ a (r1.unlock hx b).2⟩, fun _ _ _ _ _ _ _ _ a => a.elim⟩
      · refine .inl ⟨d, o, xs, rfl, r1.ex _ _ hx, core P R1 H1 d o xs _ rfl r1 hx rx ?_⟩
        exact ⟨fun G m R as σ H a b => .inl (k.nx _ _ _ _ _ _ a b), fun dv m v R as G σ H a b c => .inl (k.rt _ _ _ _ _ _ _ _ a b c), fun G m R as σ H a b => .inl (k.bk _ _ _ _ _ _ a b), fun G m R as σ H a b => .inl (k.ct _ _ _ _ _ _ a b), fun _ _ _ _ _ _ _ _ a => a.elim⟩) k.er
end
end VL

/-! VL, part V: dicts: get, displays, pairs, keys, values, ==. -/
namespace VL
open PySem L2
section
variable {X : Cx} {Z : Rsc} {W : WX} {o e f : Expr} {vo ve vf : VE} {p apos cpos pos : Pos} {j : Nat} {dr : Option Nat}
theorem orRd {R H : Hp} {a : Addr} {xs : List (Key × V)} (s : Same R H) (h : Rd R a (.dK xs)) : Rd H a (.dK xs) := same_rd s h
def getD (ts : List (Key × Tr)) (ky : Key) (z : Dv) : Dv := match lookT ts ky with
  | some t => .t t
  | none => z
/-- d.get(k, z) -/
abbrev vGet2 (d k z : VE) : VE := fun G m q x => d G m (fun dd => (∃ ts, view m dd = some (.dic ts)) ∧ k G m (fun kd => z G m (fun zd => ∃ ts ky, view m dd = some (.dic ts) ∧ view m kd = some (kT ky) ∧ q (getD ts ky zd)) x) x) x
theorem v_get2 (hu : X.A.units + 1 < cLine) (ho : PE X o (LE X.K X.mg Z W vo)) (he : PE X e (LE X.K X.mg Z W ve)) (hf : PE X f (LE X.K X.mg Z W vf)) (m : M2 X o "get" apos e f cpos) :
    PE X (.Call (.Attribute o "get" apos) [e, f] [] cpos) (LE X.K X.mg Z W (vGet2 vo ve vf)) :=
  PE.imp (pe_dget2 hu ho he hf m) fun σ H Q ⟨P, R, as, G, m, k, x, r, h, n⟩ => LE.go r h (fun d v R1 H1 ⟨⟨ts0, e0⟩, h1⟩ n1 r1 d1 => by
    obtain ⟨a, xs0, rfl, hx0, _⟩ := r1.vDic d1 e0
    refine ⟨a, rfl, .inl ⟨_, hx0⟩, LE.go r1 h1 (fun kd w R2 H2 h2 n2 r2 d2 => LE.go r2 h2 (fun zd z R3 H3 ⟨ts, ky, e1, e2, h3⟩ n3 r3 d3 => ?_) fun nm cl R' H' a b c d => n.er nm cl R' H' a b ((n1.trans n2).trans c) d) fun nm cl R' H' a b c d => n.er nm cl R' H' a b (n1.trans c) d⟩
    obtain ⟨a', xs, e3, hx, rx⟩ := r3.vDic ((d1.mono n2.r).mono n3.r) e1
    cases e3
    rw [r3.vKey (d2.mono n3.r) e2]
    refine ⟨valV xs ky, .inl ⟨xs, ky, hx, rfl, rfl⟩, n.ok _ _ _ _ h3 ((n1.trans n2).trans n3) r3 ?_⟩
    obtain ⟨q1, q2⟩ := val_pair rx ky
    unfold getD
    cases q : lookT ts ky with
    | none => rw [q2 q]; exact d3
    | some t => obtain ⟨y, y1, y2⟩ := q1 t q; rw [y1]; exact .t y2) n.er
/-! ### dict(pairs) -/
def keyT : Tr → Option Key
  | .int i => some (.inl i)
  | .str x => some (.inr x)
  | _ => none
def pairT : Tr → Option (Key × Tr)
  | .tup [a, b] => (keyT a).map fun k => (k, b)
  | _ => none
def pairsT : List Tr → Option (List (Key × Tr))
  | [] => some []
  | x :: r => match pairT x, pairsT r with
    | some p, some q => some (p :: q)
    | _, _ => none
def mergeT (ts more : List (Key × Tr)) : List (Key × Tr) := more.foldl (fun acc kv => putT acc kv.1 kv.2) ts
theorem keyT_kT {a : Tr} {k : Key} (h : keyT a = some k) : a = kT k := by
  cases a <;> cases h <;> rfl
theorem pairT_eq {x : Tr} {p : Key × Tr} (h : pairT x = some p) : x = .tup [kT p.1, p.2] := by
  unfold pairT at h
  split at h
  · rename_i a b
    cases q : keyT a with
    | none => rw [q] at h; cases h
    | some k => rw [q] at h; cases h; rw [keyT_kT q]
  · cases h
theorem pairsT_eq : ∀ {ts : List Tr} {kvs : List (Key × Tr)}, pairsT ts = some kvs → ts = itemsT kvs
  | [], _, h => by cases h; rfl
  | x :: r, kvs, h => by
    unfold pairsT at h
    cases q1 : pairT x with
    | none => rw [q1] at h; cases h
    | some p =>
      cases q2 : pairsT r with
      | none => rw [q1, q2] at h; cases h
      | some q =>
        rw [q1, q2] at h
        cases h
        show x :: r = .tup [kT p.1, p.2] :: itemsT q
        rw [pairT_eq q1, pairsT_eq q2]
theorem keyT_of (k : Key) : keyT (kT k) = some k := by cases k <;> rfl
theorem pairsT_items : ∀ kvs : List (Key × Tr), pairsT (itemsT kvs) = some kvs
  | [] => rfl
  | p :: r => by
    show (match pairT (.tup [kT p.1, p.2]), pairsT (itemsT r) with
      | some p, some q => some (p :: q)
      | _, _ => none) = some (p :: r)
    rw [pairsT_items r]
    show (match (keyT (kT p.1)).map fun k => (k, p.2), some r with
      | some p, some q => some (p :: q)
      | _, _ => none) = some (p :: r)
    rw [keyT_of]
    rfl
section
variable {K : PySem.W.Frag} {mg : Str → Option Value} {R H : Hp}
theorem merge_pair : ∀ {more : List (Key × V)} {ts : List (Key × Tr)} {acc : List (Key × V)} {us : List (Key × Tr)}, RepsP K mg R more ts → RepsP K mg R acc us → RepsP K mg R (mergeK acc more) (mergeT us ts)
  | _, _, _, _, .nil, h => h
  | _, _, acc, us, .cons (a := p) (b := q) r t, h => by
    show RepsP K mg R (mergeK (putK acc p.1 p.2) _) (mergeT (putT us q.1 q.2) _)
    rw [r.1]
    exact merge_pair t (put_pair r.2 q.1 h)
theorem pairs_reps (s : Same R H) : ∀ {kvs : List (Key × Tr)} {xs : List V}, Reps K mg R xs (itemsT kvs) → ∃ ps ys, xs = ps.map V.ref ∧ Paired (fun (p : Addr) (kv : Key × V) => SqT K H p [kV kv.1, kv.2]) ps ys ∧ RepsP K mg R ys kvs
  | [], _, .nil => ⟨[], [], rfl, .nil, .nil⟩
  | p :: r, _, .cons h t => by
    obtain ⟨ps, ys, e, q1, q2⟩ := pairs_reps s t
    obtain ⟨a, zs, rfl, ha, hz⟩ := Rep.tup_inv (ts := [kT p.1, p.2]) h
    cases hz with
    | cons z1 z2 => cases z2 with
      | @cons v _ _ _ z2 z3 =>
        cases z3
        rw [key_rep z1] at ha
        exact ⟨a :: ps, (p.1, v) :: ys, by rw [e]; rfl, .cons (.of (s _ _ ha)) q1, .cons ⟨rfl, z2⟩ q2⟩
end
def fDictP : OC := fun m ds k => ∃ d ts kvs, ds = [d] ∧ view m d = some (.lst ts) ∧ pairsT ts = some kvs ∧ k (.t (.dic (mergeT [] kvs)))
theorem lo_dictP {K : PySem.W.Frag} {mg : Str → Option Value} : LoC K mg (fun xs H Q => ∃ (a : Addr) (ps : List Addr) (kvs : List (Key × V)), xs = [.ref a] ∧ SqL K H a (ps.map V.ref) ∧ Paired (fun p kv => SqT K H p [kV kv.1, kv.2]) ps kvs ∧
    ∀ p, H p = none → Q (.ref p) (upd H p (.dK (mergeK [] kvs)))) fDictP := by
  rintro Z P R as G m σ H vs ds k Q r h ⟨d, ts, kvs, rfl, e1, e2, q⟩ nn
  obtain ⟨v, rfl, dv⟩ := pone h
  obtain ⟨a, xs, rfl, hx, rx⟩ := r.vLst dv e1
  rw [pairsT_eq e2] at rx
  obtain ⟨ps, ys, e, q1, q2⟩ := pairs_reps r.ex rx
  subst e
  refine ⟨a, ps, ys, rfl, .of hx, q1, fun p hp => ?_⟩
  obtain ⟨r', n'⟩ := r.laid (o := .dK (mergeK [] ys)) hp
  exact nn _ _ _ _ q n' r' (.t (.dicP (.inl upd_same) (RepsP.mono n'.r (merge_pair q2 .nil))))
theorem v_dictc (hc : X.calm = true) (hg : Gl X "dict") (hm : X.mg "dict" = none) (h : PA X [e] (LA X.K X.mg Z W va)) (he : starEach [e] X.env = (false, eval e X.env) :: starEach [] X.env := by rfl) (hpl : (backTo pos (starEach [] X.env)).any (·.1) = false := by rfl) :
    PE X (.Call (.Name "dict" p) [e] [] pos) (LE X.K X.mg Z W (vCB fDictP va)) := v_callTy (call_dictP hc) lo_dictP hg hm (by decide +kernel) h (by decide) (by decide) he hpl
abbrev vmDictP (j : Nat) (dr : Option Nat) (e : VE) : VM := fun G m k x => e G m (fun d => ∃ ts kvs, view m d = some (.lst ts) ∧ pairsT ts = some kvs ∧ newC j dr (.dic (mergeT [] kvs)) G m k) (fun n => x n G m)
theorem vm_dictP (hc : X.calm = true) (h0 : Z.n0 ≤ j) (hg : Gl X "dict") (hm : X.mg "dict" = none) (h : PE X e (LE X.K X.mg Z W ve)) (he : starEach [e] X.env = (false, eval e X.env) :: starEach [] X.env := by rfl) (hpl : (backTo pos (starEach [] X.env)).any (·.1) = false := by rfl) :
    PE X (.Call (.Name "dict" p) [e] [] pos) (LM X.K X.mg Z W dr [j] (vmDictP j dr ve)) :=
  PE.imp (pe_callTy (call_dictP hc) hg hm (by decide +kernel) (pa_cons h pa_nil he) (by decide) (by decide) he hpl) fun σ H Q ⟨P, R, as, G, m, k, x, r, h, n⟩ => LE.go r h (fun d v R1 H1 ⟨ts, kvs, e1, e2, hj, hn, hx, h1⟩ n1 r1 d1 => by
    obtain ⟨a, xs, rfl, ha, rx⟩ := r1.vLst d1 e1
    rw [pairsT_eq e2] at rx
    obtain ⟨ps, ys, e, q1, q2⟩ := pairs_reps r1.ex rx
    subst e
    refine ⟨a, ps, ys, rfl, .of ha, q1, fun p hp => ?_⟩
    obtain ⟨r2, far, d2⟩ := newC_ok r1 (dr := dr) (x := .dic (mergeT [] kvs)) h0 hp hj hn hx ⟨_, upd_same, merge_pair q2 .nil⟩
    exact n.ok _ _ _ R1 _ _ h1 n1.r far r2 d2) (fun nm cl R1 H1 a b c d => n.er nm cl m R1 as G H1 a b d)
/-! ### {k: v, ..} -/
def vPairs : List (VE × VE) → Env → Sto → (List (Dv × Dv) → Prop) → XK → Prop
  | [], _, _, q, _ => q []
  | p :: r, G, m, q, x => p.1 G m (fun kd => p.2 G m (fun d => vPairs r G m (fun ds => q ((kd, d) :: ds)) x) x) x
def unPairs (m : Sto) : List (Dv × Dv) → Option (List (Key × Tr))
  | [] => some []
  | (kd, d) :: r => match (view m kd).bind keyT, d, unPairs m r with
    | some k, .t t, some l => some ((k, t) :: l)
    | _, _, _ => none
abbrev vDisp (ps : List (VE × VE)) : VE := fun G m q x => vPairs ps G m (fun ds => ∃ kvs, unPairs m ds = some kvs ∧ kvs.length ≤ 15 ∧ q (.t (.dic (mergeT [] kvs)))) x
def lePs (K : PySem.W.Frag) (mg : Str → Option Value) (Z : Rsc) (W : WX) (ps : List (VE × VE)) : List (TE × TE) := ps.map fun p => (LE K mg Z W p.1, LE K mg Z W p.2)
section
variable {K : PySem.W.Frag} {mg : Str → Option Value} {P : Pm} {as : List Addr} {G : Env} {m : Sto} {σ : L2.St} {x : XK}
abbrev DPs (K : PySem.W.Frag) (mg : Str → Option Value) (R : Hp) (hd : Nat → Addr) (as : List Addr) : List (V × V) → List (Dv × Dv) → Prop := Paired fun p q => DRep K mg R hd as p.1 q.1 ∧ DRep K mg R hd as p.2 q.2
theorem pairs_go : ∀ (ps : List (VE × VE)) {R H : Hp} {q : List (Dv × Dv) → Prop} {Q : List (V × V) → Hp → Prop}, Rel K mg Z P R as G m σ H → vPairs ps G m q x →
    (∀ ds vs R' H', q ds → Nx P R H R' H' → Rel K mg Z P R' as G m σ H' → DPs K mg R' P.hd as vs ds → Q vs H') →
    (∀ nm cl R' H', x nm → mg nm = some cl → Nx P R H R' H' → Rel K mg Z P R' as G m σ H' → W cl none σ H') → tPairs (lePs K mg Z W ps) σ H Q
  | [], R, H, q, Q, r, h, ok, er => ok _ _ R H h .refl r .nil
  | p :: ps, R, H, q, Q, r, h, ok, er => LE.go r h (fun kd v R2 H2 h2 n2 r2 d2 => LE.go r2 h2 (fun d w R3 H3 h3 n3 r3 d3 => pairs_go ps r3 h3 (fun ds vs R4 H4 h4 n4 r4 d4 =>
      ok _ _ R4 H4 h4 ((n2.trans n3).trans n4) r4 (.cons ⟨(d2.mono n3.r).mono n4.r, d3.mono n4.r⟩ d4)) fun nm cl R' H' a b c d => er nm cl R' H' a b ((n2.trans n3).trans c) d) fun nm cl R' H' a b c d => er nm cl R' H' a b (n2.trans c) d) er
theorem un_reps {R H : Hp} (r : Rel K mg Z P R as G m σ H) : ∀ {vs : List (V × V)} {ds : List (Dv × Dv)} {kvs : List (Key × Tr)}, DPs K mg R P.hd as vs ds → unPairs m ds = some kvs → ∃ ys : List (Key × V), vs = ys.map (fun kv => (kV kv.1, kv.2)) ∧ RepsP K mg R ys kvs
  | _, _, _, .nil, h => by cases h; exact ⟨[], rfl, .nil⟩
  | _, _, kvs, .cons (a := p) (b := q) (l₁ := vs) (l₂ := ds) d t, h => by
    obtain ⟨kd, dd⟩ := q
    unfold unPairs at h
    cases q1 : (view m kd).bind keyT with
    | none => rw [q1] at h; cases h
    | some ky =>
      cases dd with
      | loc j => rw [q1] at h; cases h
      | hnd j => rw [q1] at h; cases h
      | t tt =>
        cases q2 : unPairs m ds with
        | none => rw [q1, q2] at h; cases h
        | some l =>
          rw [q1, q2] at h
          cases h
          obtain ⟨ys, e, rr⟩ := un_reps r t q2
          have ev : view m kd = some (kT ky) := by
            cases q3 : view m kd with
            | none => rw [q3] at q1; cases q1
            | some z => rw [q3] at q1; rw [keyT_kT (a := z) (k := ky) q1]
          obtain ⟨pv, pw⟩ := p
          have e1 : pv = kV ky := r.vKey d.1 ev
          cases d.2 with
          | t rt => exact ⟨(ky, pw) :: ys, by rw [e, e1]; rfl, .cons ⟨rfl, rt⟩ rr⟩
end
theorem v_disp {keys : List (Option Expr)} {values : List Expr} {ps : List (VE × VE)} (hp : PPs X pos keys values (lePs X.K X.mg Z W ps)) (hall : keys.all (·.isSome) = true := by rfl) (hl : keys.length = values.length := by rfl) (h0 : keys ≠ [] := by simp) (h15 : keys.length ≤ 15 := by decide) :
    PE X (.Dict keys values pos) (LE X.K X.mg Z W (vDisp ps)) :=
  PE.imp (pe_disp hp hall hl h0 h15) fun σ H Q ⟨P, R, as, G, m, k, x, r, h, n⟩ => fun p hp => by
    have rR := r.newR hp
    have rB := r.newB hp
    have r00 := r.new0 hp
    have r1 : Rel X.K X.mg Z P R as G m σ (upd H p (.dK [])) := r.poke rR rB r00 fun j x e => r.newA hp e
    have kp : ∀ {R' H'}, Nx P R (upd H p (.dK [])) R' H' → Nx P R H R' H' := fun {R' H'} c => ⟨c.r, fun a o b q => c.h a o b (by rw [upd_ne (show a ≠ p from fun z => by rw [z, hp] at q; cases q)]; exact q), fun a q => by
      rcases c.n a q with z | z
      · exact .inl z
      · by_cases y : a = p
        · rw [y]; exact .inr hp
        · rw [upd_ne y] at z; exact .inr z, fun a q => c.d a (by
      by_cases y : a = p
      · rw [y, upd_same]; exact fun q => nomatch q
      · rw [upd_ne y]; exact q)⟩
    refine pairs_go ps r1 h (fun ds vs R3 H3 ⟨kvs, e1, hz, h3⟩ nn r3 d3 => ?_) fun nm cl R' H' a b c d => n.er nm cl R' H' a b (kp c) d
    have hH : H3 p = some (.dK []) := nn.h p _ rB upd_same
    have hR : R3 p = none := by
      cases q : R3 p with
      | none => rfl
      | some o =>
        rcases nn.n p (by rw [q]; exact fun z => nomatch z) with z | z
        · exact absurd rR z
        · rw [upd_same] at z; cases z
    obtain ⟨ys, e2, ry⟩ := un_reps r3 d3 e1
    refine ⟨hH, ys, e2, by rw [Paired.length ry]; exact hz, ?_⟩
    have nA : ∀ (j : Nat) x, m[j]? = some (some x) → as[j]? ≠ some p := fun j x e => r.newA hp e
    have r4 : Rel X.K X.mg Z P R3 as G m σ (upd H3 p (.dK (mergeK [] ys))) := r3.poke hR rB r00 nA
    obtain ⟨s5, r5⟩ := r4.know (a := p) (o := .dK (mergeK [] ys)) upd_same hR rB r00 nA
    have n5 : Nx P R H (upd R3 p (.dK (mergeK [] ys))) (upd H3 p (.dK (mergeK [] ys))) := ⟨nn.r.trans s5, fun a o b q => by
        have y : a ≠ p := fun z => by rw [z, hp] at q; cases q
        rw [upd_ne y]; exact (kp nn).h a o b q, fun a q => by
        by_cases y : a = p
        · rw [y]; exact .inr hp
        · rw [upd_ne y] at q; exact (kp nn).n a q, fun a q => by
        by_cases y : a = p
        · rw [y, upd_same]; exact fun q => nomatch q
        · rw [upd_ne y]; exact (kp nn).d a q⟩
    exact n.ok _ _ _ _ h3 n5 r5 (.t (.dicP (.inl upd_same) (RepsP.mono s5 (merge_pair ry .nil))))
/-! ### list(d), list(d.values()) -/
def fListD : OC := fun m ds k => ∃ d ts, ds = [d] ∧ view m d = some (.dic ts) ∧ k (.t (.lst (ts.map fun p => kT p.1)))
theorem keys_reps {K : PySem.W.Frag} {mg : Str → Option Value} {R R' : Hp} : ∀ {xs : List (Key × V)} {ts : List (Key × Tr)}, RepsP K mg R xs ts → Reps K mg R' (xs.map fun kv => kV kv.1) (ts.map fun p => kT p.1)
  | _, _, .nil => .nil
  | _, _, .cons (a := p) (b := q) r t => .cons (show Rep K mg R' (kV p.1) (kT q.1) by rw [r.1]; exact kT_rep _) (keys_reps t)
theorem vals_reps {K : PySem.W.Frag} {mg : Str → Option Value} {R : Hp} : ∀ {xs : List (Key × V)} {ts : List (Key × Tr)}, RepsP K mg R xs ts → Reps K mg R (xs.map (·.2)) (ts.map (·.2))
  | _, _, .nil => .nil
  | _, _, .cons r t => .cons r.2 (vals_reps t)
theorem lo_listD {K : PySem.W.Frag} {mg : Str → Option Value} : LoC K mg (fun xs H Q => ∃ (a : Addr) (kvs : List (Key × V)), xs = [.ref a] ∧ Rd H a (.dK kvs) ∧ ∀ p, H p = none → Q (.ref p) (upd H p (.lst (kvs.map fun kv => kV kv.1)))) fListD := by
  rintro Z P R as G m σ H vs ds k Q r h ⟨d, ts, rfl, e1, q⟩ nn
  obtain ⟨v, rfl, dv⟩ := pone h
  obtain ⟨a, xs, rfl, hx, rx⟩ := r.vDic dv e1
  refine ⟨a, xs, rfl, hx, fun p hp => ?_⟩
  obtain ⟨r', n'⟩ := r.laid (o := .lst (xs.map fun kv => kV kv.1)) hp
  exact nn _ _ _ _ q n' r' (.t (.lstP upd_same (keys_reps rx)))
theorem v_listD (hc : X.calm = true) (hg : Gl X "list") (hm : X.mg "list" = none) (h : PA X [e] (LA X.K X.mg Z W va)) (he : starEach [e] X.env = (false, eval e X.env) :: starEach [] X.env := by rfl) (hpl : (backTo pos (starEach [] X.env)).any (·.1) = false := by rfl) :
    PE X (.Call (.Name "list" p) [e] [] pos) (LE X.K X.mg Z W (vCB fListD va)) := v_callTy (call_listD hc) lo_listD hg hm (by decide +kernel) h (by decide) (by decide) he hpl
theorem kv_vals : ∀ {kvs : List (Key × V)} {vs : List (Key × Value)}, KV kvs vs → Vals (kvs.map (·.2)) (vs.map (·.2))
  | _, _, .nil => .nil
  | _, _, .cons r t => .cons r.2 (kv_vals t)
def tListVals (te : TE) : TE := fun σ H Q => te σ H fun x H1 => ∃ (d : Addr) (kvs : List (Key × V)), x = .ref d ∧ Rd H1 d (.dK kvs) ∧ ∀ p, H1 p = none → Q (.ref p) (upd H1 p (.lst (kvs.map (·.2))))
open PyProof.Rows PySem.Spec in
theorem pe_listVals {te : TE} (hc : X.calm = true) (he : PE X e te) (hg : Gl X "list") (hm : X.mg "list" = none) (hv : bootBuiltins "list" = some (.type "list")) (hbase : attributeBase e "values" X.env (eval e X.env) = eval e X.env := by rfl) (hline : (apos.endLine == cpos.line) = true := by rfl)
    (hs : starEach [.Call (.Attribute e "values" apos) [] [] cpos] X.env = (false, eval (.Call (.Attribute e "values" apos) [] [] cpos) X.env) :: starEach [] X.env := by rfl) :
    PE X (.Call (.Name "list" p) [.Call (.Attribute e "values" apos) [] [] cpos] [] pos) (tListVals te) := by
  refine ⟨fun pins s σ H Q I hq => ?_⟩
  refine wpAny_Call_Name_kw (ld_blt I hg hm hv ?_)
  refine PyProof.Rows.callWith_type1 ?_ hs rfl
  rw [hs]
  show wpAny _ _ (spliced ((false, eval (.Call (.Attribute e "values" apos) [] [] cpos) X.env) :: backTo pos (starEach [] X.env))) _ _ s
  refine Calls.spliced_cons ?_
  refine wpAny_Call_method (T := "dict") (id := "dict.values") hbase rfl hline PySem.F.plainAttrs_dict PySem.F.slot_dict_values PySem.F.type_dict_values (thn (he.run pins s σ H _ I hq) fun u s1 ⟨x, H1, I1, rx, d, kvs, ex, hd, q⟩ => ?_)
  subst ex
  obtain rfl : u = Value.ref d := rx
  obtain ⟨hz, hs0, vs, kv, hdo⟩ := dk_rd I1.hok hd
  obtain ⟨ep, hat⟩ := hdo.dictAt
  have lk : kvs.length = vs.length := Paired.length kv
  have I2 : Inv X pins σ H1 { s1 with heap := s1.heap.push { cls := .type "dict_values", data := .fields #[.ref d] } } := I1.kept (t' := s1.toks) fun b ob q => Heap.get?_push_of_some _ q
  refine ⟨hdo.typeIs, hdo.mapOf.noDict, ?_⟩
  show wpAny _ _ (callWith cpos (.builtin "dict.values") [.ref d] [] []) _ X.xe s1
  refine method_meetsIn PySem.F.slot_dict_values PySem.F.entry_dict_values rfl (PySem.evalArgs_none ⟨rfl, hdo.typeIs, PySem.F.args_dict_values_1 _, _, meets_dict_values (mixKind X.prog X.w) d hs0, ⟨vs, hdo⟩, ?_⟩)
  refine Calls.spliced_nil ?_
  refine PySem.W.kdl_call (PySem.W.kdl_values (knd := mixKind X.prog X.w) (kvs := vs) (ep := ep)) (I1.ok.hd hc) ⟨⟨_, Heap.get?_push_size _ rfl, rfl, rfl⟩, hat.push _⟩ (by omega) fun h' tk acc c hk hS hacc => ?_
  have hv2 : acc.toList = vs.map (·.2) := PySem.W.kdl_vals_eq acc.toList (by rw [Array.length_toList]; exact hacc.1) fun j v e => hacc.2 j v (by rw [← Array.getElem?_toList]; exact e)
  have rv : Vals (kvs.map (·.2)) acc.toList := by
    rw [hv2]
    exact kv_vals kv
  refine ⟨.ref _, _, I2.laid (t' := tk) (fun b u e => hk b u e) (Nat.le_refl _) (show ObjOk X.prog X.w _ _ _ (.lst (kvs.map (·.2))) from ⟨by rw [List.length_map]; exact hz, acc.toList, c, rv, by rw [Array.toArray_toList]; exact hS⟩), rfl, q _ (I2.hok.fresh (Nat.le_refl _))⟩
abbrev vListV (d : VE) : VE := fun G m k x => d G m (fun dd => ∃ ts, view m dd = some (.dic ts) ∧ k (.t (.lst (ts.map (·.2))))) x
theorem v_listV (hc : X.calm = true) (hg : Gl X "list") (hm : X.mg "list" = none) (he : PE X e (LE X.K X.mg Z W ve)) (hbase : attributeBase e "values" X.env (eval e X.env) = eval e X.env := by rfl) (hline : (apos.endLine == cpos.line) = true := by rfl)
    (hs : starEach [.Call (.Attribute e "values" apos) [] [] cpos] X.env = (false, eval (.Call (.Attribute e "values" apos) [] [] cpos) X.env) :: starEach [] X.env := by rfl) :
    PE X (.Call (.Name "list" p) [.Call (.Attribute e "values" apos) [] [] cpos] [] pos) (LE X.K X.mg Z W (vListV ve)) :=
  PE.imp (pe_listVals hc he hg hm (by decide +kernel) hbase hline hs) fun σ H Q ⟨P, R, as, G, m, k, x, r, h, n⟩ => LE.go r h (fun d v R1 H1 ⟨ts, e1, h1⟩ n1 r1 d1 => by
    obtain ⟨a, xs, rfl, hx, rx⟩ := r1.vDic d1 e1
    refine ⟨a, xs, rfl, hx, fun p hp => ?_⟩
    obtain ⟨r', n'⟩ := r1.laid (o := .lst (xs.map (·.2))) hp
    exact n.ok _ _ _ _ h1 (n1.trans n') r' (.t (.lstP upd_same (Reps.mono n'.r (vals_reps rx))))) n.er
/-! ### d.get(k) -/
abbrev vGet1 (d k : VE) : VE := fun G m q x => d G m (fun dd => (∃ ts, view m dd = some (.dic ts)) ∧ k G m (fun kd => ∃ ts ky, view m dd = some (.dic ts) ∧ view m kd = some (kT ky) ∧ q (getD ts ky (.t .non))) x) x
theorem v_get1 (hu : X.A.units + 1 < cLine) (ho : PE X o (LE X.K X.mg Z W vo)) (he : PE X e (LE X.K X.mg Z W ve)) (m : M1 X o "get" apos e cpos) :
    PE X (.Call (.Attribute o "get" apos) [e] [] cpos) (LE X.K X.mg Z W (vGet1 vo ve)) :=
  PE.imp (pe_dget1 hu ho he m) fun σ H Q ⟨P, R, as, G, m, k, x, r, h, n⟩ => LE.go r h (fun d v R1 H1 ⟨⟨ts0, e0⟩, h1⟩ n1 r1 d1 => by
    obtain ⟨a, xs0, rfl, hx0, _⟩ := r1.vDic d1 e0
    refine ⟨a, rfl, .inl ⟨_, hx0⟩, LE.go r1 h1 (fun kd w R2 H2 ⟨ts, ky, e1, e2, h2⟩ n2 r2 d2 => ?_) fun nm cl R' H' a b c d => n.er nm cl R' H' a b (n1.trans c) d⟩
    obtain ⟨a', xs, e3, hx, rx⟩ := r2.vDic (d1.mono n2.r) e1
    cases e3
    rw [r2.vKey d2 e2]
    refine ⟨valV xs ky, .inl ⟨xs, ky, hx, rfl, rfl⟩, n.ok _ _ _ _ h2 (n1.trans n2) r2 ?_⟩
    obtain ⟨q1, q2⟩ := val_pair rx ky
    unfold getD
    cases q : lookT ts ky with
    | none => rw [q2 q]; exact .t .non
    | some t => obtain ⟨y, y1, y2⟩ := q1 t q; rw [y1]; exact .t y2) n.er
/-! ### == of dicts that are equal -/
def rEqK : R2 := fun x y H Q => ∃ a b ks ls, x = .ref a ∧ y = .ref b ∧ Rd H a (.dK ks) ∧ Rd H b (.dK ls) ∧ ks.length = ls.length ∧ (∀ p ∈ ks, valV ls p.1 = some p.2 ∧ flatB p.2 = true) ∧ Q (.bl true) H
def rNeK : R2 := fun x y H Q => ∃ a b ks ls, x = .ref a ∧ y = .ref b ∧ Rd H a (.dK ks) ∧ Rd H b (.dK ls) ∧ ks.length = ls.length ∧ (∀ p ∈ ks, valV ls p.1 = some p.2 ∧ flatB p.2 = true) ∧ Q (.bl false) H
theorem op_eqK (hu : X.A.units < cLine) : OpR X (compareOp .Eq) rEqK := by
  intro pins s σ H x y v u Q I rx ry h
  obtain ⟨a, b, ks, ls, rfl, rfl, ea, eb, hlen, hp, q⟩ := h
  obtain rfl : v = Value.ref a := rx
  obtain rfl : u = Value.ref b := ry
  obtain ⟨_, ya, va, ra, da⟩ := dk_rd I.hok ea
  obtain ⟨_, yb, vb, rb, db⟩ := dk_rd I.hok eb
  have hl : va.length = vb.length := by rw [← ra.length, ← rb.length]; exact hlen
  exact PySem.W.keq_eq (knd := mixKind X.prog X.w) (r := true) ya yb da db hu (fun _ => hits_all rb ra hp) (fin_bl I q (by simp [hl]))
theorem op_neK (hu : X.A.units < cLine) : OpR X (compareOp .NotEq) rNeK := by
  intro pins s σ H x y v u Q I rx ry h
  obtain ⟨a, b, ks, ls, rfl, rfl, ea, eb, hlen, hp, q⟩ := h
  obtain rfl : v = Value.ref a := rx
  obtain rfl : u = Value.ref b := ry
  obtain ⟨_, ya, va, ra, da⟩ := dk_rd I.hok ea
  obtain ⟨_, yb, vb, rb, db⟩ := dk_rd I.hok eb
  have hl : va.length = vb.length := by rw [← ra.length, ← rb.length]; exact hlen
  exact PySem.W.keq_ne (knd := mixKind X.prog X.w) (r := true) ya yb da db hu (fun _ => hits_all rb ra hp) (fin_bl I q (by simp [hl]))
/-- the same numbers at the same keys, both ways -/
def sameK (ks ls : List (Key × Tr)) : Prop := ks.length = ls.length ∧ ∀ p ∈ ks, ∃ i, p.2 = .int i ∧ lookT ls p.1 = some (.int i)
def fEqK : O2 := fun m d e k => ∃ ks ls, view m d = some (.dic ks) ∧ view m e = some (.dic ls) ∧ sameK ks ls ∧ k (.t (.bl true))
def fNeK : O2 := fun m d e k => ∃ ks ls, view m d = some (.dic ks) ∧ view m e = some (.dic ls) ∧ sameK ks ls ∧ k (.t (.bl false))
theorem sameK_vals {K : PySem.W.Frag} {mg : Str → Option Value} {R : Hp} {xs ys : List (Key × V)} {ks ls : List (Key × Tr)} (h1 : RepsP K mg R xs ks) (h2 : RepsP K mg R ys ls) (h : sameK ks ls) : xs.length = ys.length ∧ ∀ p ∈ xs, valV ys p.1 = some p.2 ∧ flatB p.2 = true := by
  refine ⟨by rw [Paired.length h1, Paired.length h2]; exact h.1, fun p hp => ?_⟩
  obtain ⟨i, hi⟩ := List.getElem?_of_mem hp
  have hl := Paired.length h1
  have hlt : i < xs.length := (List.getElem?_eq_some_iff.mp hi).1
  have hk : ks[i]? = some (ks[i]'(by omega)) := List.getElem?_eq_getElem (by omega)
  obtain ⟨e1, e2⟩ := paired_at h1 i _ _ hi hk
  obtain ⟨n, q1, q2⟩ := h.2 _ (List.getElem_mem (by omega : i < ks.length))
  rw [q1] at e2
  have ev : p.2 = .int n := by cases h : p.2 <;> rw [h] at e2 <;> cases e2; rfl
  obtain ⟨y, y1, y2⟩ := (val_pair h2 _).1 _ q2
  have ey : y = .int n := by cases y <;> cases y2; rfl
  rw [e1, y1, ey, ev]
  exact ⟨rfl, rfl⟩
theorem lo_eqK {K : PySem.W.Frag} {mg : Str → Option Value} : Lo2 K mg rEqK fEqK := by
  rintro Z P R as G m σ H v w d e k Q r h1 h2 ⟨ks, ls, e1, e2, s, q⟩ n
  obtain ⟨a, xs, rfl, hx, rx⟩ := r.vDic h1 e1
  obtain ⟨b, ys, rfl, hy, ry⟩ := r.vDic h2 e2
  obtain ⟨z1, z2⟩ := sameK_vals rx ry s
  exact ⟨a, b, xs, ys, rfl, rfl, hx, hy, z1, z2, n _ _ R H q .refl r (.t (.bl _))⟩
theorem lo_neK {K : PySem.W.Frag} {mg : Str → Option Value} : Lo2 K mg rNeK fNeK := by
  rintro Z P R as G m σ H v w d e k Q r h1 h2 ⟨ks, ls, e1, e2, s, q⟩ n
  obtain ⟨a, xs, rfl, hx, rx⟩ := r.vDic h1 e1
  obtain ⟨b, ys, rfl, hy, ry⟩ := r.vDic h2 e2
  obtain ⟨z1, z2⟩ := sameK_vals rx ry s
  exact ⟨a, b, xs, ys, rfl, rfl, hx, hy, z1, z2, n _ _ R H q .refl r (.t (.bl _))⟩
variable {a b : Expr} {ea eb : VE} {k : Nat}
theorem v_eqK (hr : Room k X.A) (ha : PE X a (LE X.K X.mg Z W ea)) (hb : PE X b (LE X.K X.mg Z W eb)) : PE X (.Compare a [.Eq] [b] pos) (LE X.K X.mg Z W (vOp fEqK ea eb)) := v_cmp (op_eqK (Nat.lt_of_le_of_lt (Nat.le_add_right _ 64) hr.units)) lo_eqK ha hb (nomark _)
theorem v_neK (hr : Room k X.A) (ha : PE X a (LE X.K X.mg Z W ea)) (hb : PE X b (LE X.K X.mg Z W eb)) : PE X (.Compare a [.NotEq] [b] pos) (LE X.K X.mg Z W (vOp fNeK ea eb)) := v_cmp (op_neK (Nat.lt_of_le_of_lt (Nat.le_add_right _ 64) hr.units)) lo_neK ha hb (nomark _)
theorem vt_eqK (hr : Room k X.A) (ha : PE X a (LE X.K X.mg Z W ea)) (hb : PE X b (LE X.K X.mg Z W eb)) : PT X (.Compare a [.Eq] [b] pos) (LT X.K X.mg Z W (vtB (vOp fEqK ea eb))) := vt_cmp (op_eqK (Nat.lt_of_le_of_lt (Nat.le_add_right _ 64) hr.units)) lo_eqK ha hb (nomark _)
theorem vt_neK (hr : Room k X.A) (ha : PE X a (LE X.K X.mg Z W ea)) (hb : PE X b (LE X.K X.mg Z W eb)) : PT X (.Compare a [.NotEq] [b] pos) (LT X.K X.mg Z W (vtB (vOp fNeK ea eb))) := vt_cmp (op_neK (Nat.lt_of_le_of_lt (Nat.le_add_right _ 64) hr.units)) lo_neK ha hb (nomark _)
/-! ### d.clear() -/
theorem mt_clearD : MtR X "dict.clear" (fun x vs H Q => ∃ (a : Addr) (kvs : List (Key × V)), x = .ref a ∧ vs = [] ∧ H a = some (.dK kvs) ∧ Q .non (upd H a (.dK []))) := by
  intro pins s σ H x vs v us Q I rx rv h
  obtain ⟨a, kvs, rfl, rfl, hH, q⟩ := h
  cases rx
  cases rv
  exact d_clear I hH fun s' I' => ⟨.non, _, I', rfl, q⟩
abbrev vClear (o : VE) : VS := fun nx _ _ _ ex G m => o G m (fun d => ∃ j ts, d = .loc j ∧ m[j]? = some (some (.dic ts)) ∧ nx G (m.set j (some (.dic [])))) (fun n => ex n G m)
theorem vs_clear {p1 p2 : Pos} (ho : PE X o (LE X.K X.mg Z W vo)) (hbase : attributeBase o "clear" X.env (eval o X.env) = eval o X.env := by rfl) (hline : (p1.endLine == p2.line) = true := by rfl) (hs : swapsWith (.Call (.Attribute o "clear" p1) [] [] p2) none pos.line X.env = pure false := by rfl) :
    PS X (.Expr (.Call (.Attribute o "clear" p1) [] [] p2) pos) (LS X.K X.mg Z W (vClear vo)) :=
  PS.imp (ps_expr (pe_bm0 PySem.F.plainAttrs_dict PySem.F.slot_dict_clear PySem.F.type_dict_clear mt_clearD ho hbase hline) hs) fun D σ H ⟨P, R, as, G, m, nx, rt, bk, ct, ex, r, h, k⟩ =>
    LE.go r h (fun d v R1 H1 ⟨j, ts, ed, ej, h1⟩ n1 r1 d1 => by
      subst ed
      obtain ⟨a, xs, rfl, ha, hx, rx⟩ := r1.vLocD d1 ej
      exact ⟨.inr (.inr (.inl ⟨rfl, .inl ⟨xs, hx⟩⟩)), a, xs, rfl, rfl, hx, k.nx _ _ _ _ _ _ h1 (r1.put ej ha ⟨[], upd_same, .nil⟩)⟩) k.er
end
end VL

/-! VL, part W: owned objects given to an ambient. -/
namespace VL
open PySem L2
/-- x's object, the site i, and what it holds, the site j, become the ambient -/
def vGive (C : Tr → Tr → Prop) (x i j : Nat) (u : VS) : VS := fun nx rt bk ct ex G m => (∃ ci cj, m[i]? = some (some ci) ∧ m[j]? = some (some cj) ∧ C ci cj) ∧ i ≠ j ∧ noHnd G = true ∧ G[x]? = some (some (.loc i)) ∧
  u (fun G' m' => nx (noH G') m') (fun d m' => ∃ y, d = .t y ∧ rt d m') (fun G' m' => bk (noH G') m') (fun G' m' => ct (noH G') m') (fun n G' m' => ex n (noH G') m') (G.set x (some (.hnd 0))) (wipeM m [i, j])
section
variable {X : Cx} {Z : Rsc} {W : WX} {x i j : Nat} {rest : List Stmt} {u : VS} {C : Tr → Tr → Prop}
theorem vs_give (hz : Z.n0 = 0) (hC : ∀ (R H : Hp) as a b ci cj, C ci cj → as[i]? = some a → as[j]? = some b → Own X.K X.mg R as H a ci → Own X.K X.mg R as H b cj → a ≠ b → Z.Z H (fun _ => a) (fun c => c = a ∨ c = b))
    (h : PSs X rest (LS X.K X.mg Z W u)) : PSs X rest (LS X.K X.mg Z0 W (vGive C x i j u)) :=
  PSs.imp h fun D σ H ⟨P, R, as, G, m, nx, rt, bk, ct, ex, r, ⟨⟨ci, cj, ei, ej, hc⟩, hij, hh, hx, hu⟩, kk⟩ => by
    have nB : ∀ a, ¬ P.B a := r.vol
    obtain ⟨a, a1, a2, a3, a4, a5⟩ := r.sto i ci ei
    obtain ⟨b, b1, b2, b3, b4, b5⟩ := r.sto j cj ej
    have hab : a ≠ b := fun z => hij (r.inj i j ci cj a ei ej a1 (by rw [z]; exact b1))
    have ha0 : P.H0 a = none := a5.elim id fun z => absurd z.2 (Nat.not_lt_zero _)
    have hb0 : P.H0 b = none := b5.elim id fun z => absurd z.2 (Nat.not_lt_zero _)
    have hB0 : ∀ c, (c = a ∨ c = b) → P.H0 c = none := fun c hc => by rcases hc with rfl | rfl <;> assumption
    obtain ⟨va, hv, dv⟩ := r.env x _ hx
    have ev : va = .ref a := by
      cases dv with
      | loc q => rw [a1] at q; cases q; rfl
    subst ev
    have r' : Rel X.K X.mg Z ⟨P.H0, P.R0, P.mu, fun _ => a, (fun c => c = a ∨ c = b), P.as0⟩ R as (G.set x (some (.hnd 0))) (wipeM m [i, j]) σ H := by
      refine ⟨r.ex, by rw [List.length_set]; exact r.len, fun l dd e => ?_, fun l t e => ?_, fun l k x y c e1 e2 => r.inj l k x y c (wipeM_at e1).2 (wipeM_at e2).2, hC R H as a b ci cj hc a1 b1 a2 b2 hab, fun c q => ?_, fun c o e n1 n2 => r.frame c o e n1 (nB c), r.dom, r.fresh, r.r0, ?_, fun l hl => by omega⟩
      · by_cases hl : x = l
        · subst hl
          rw [List.getElem?_set_self (List.getElem?_eq_some_iff.mp hx).1] at e
          cases e
          exact ⟨_, hv, .hnd (hd := fun _ => a) 0⟩
        · rw [List.getElem?_set_ne hl] at e
          obtain ⟨v, q1, q2⟩ := r.env l dd e
          refine ⟨v, q1, ?_⟩
          cases q2 with
          | t q => exact .t q
          | loc q => exact .loc q
          | hnd q => exact absurd e (noHnd_at hh)
      · obtain ⟨w1, w2⟩ := wipeM_at e
        obtain ⟨c, q1, q2, q3, q4, q5⟩ := r.sto l t w2
        refine ⟨c, q1, q2, q3, fun z => ?_, q5.imp id fun z => absurd z.2 (Nat.not_lt_zero _)⟩
        rcases z with z | z
        · exact w1 (by rw [r.inj l i t ci c w2 ei q1 (by rw [z]; exact a1)]; simp)
        · exact w1 (by rw [r.inj l j t cj c w2 ej q1 (by rw [z]; exact b1)]; simp)
      · rcases q with rfl | rfl <;> assumption
      · rw [wipeM_len]; exact r.la
    refine ⟨_, R, as, _, _, _, _, _, _, _, r', hu, ⟨fun G2 m2 R2 as2 σ2 H2 q r2 => kk.nx _ m2 R2 as2 σ2 H2 q (Rel.leave hz nB hB0 r2), fun dd m2 v2 R2 as2 G2 σ2 H2 ⟨y2, ey, q⟩ r2 d2 => ?_, fun G2 m2 R2 as2 σ2 H2 q r2 => kk.bk _ m2 R2 as2 σ2 H2 q (Rel.leave hz nB hB0 r2), fun G2 m2 R2 as2 σ2 H2 q r2 => kk.ct _ m2 R2 as2 σ2 H2 q (Rel.leave hz nB hB0 r2), fun nm cl m2 R2 as2 G2 σ2 H2 q hcl r2 => kk.ex nm cl m2 R2 as2 _ σ2 H2 q hcl (Rel.leave hz nB hB0 r2)⟩⟩
    subst ey
    cases d2 with
    | t rv2 => exact kk.rt _ m2 v2 R2 as2 _ σ2 H2 q (Rel.leave hz nB hB0 r2) (.t rv2)
end
end VL

/-! VL, part X: dicts as functions; steps for a driver. -/
namespace VL
open PySem L2
/-- a dict of whole numbers: f where it is above 0 -/
structure DictIs (f : Int → Int) (D : List (Key × Tr)) : Prop where
  nd : (D.map (·.1)).Nodup
  ks : ∀ p ∈ D, ∃ s : Int, p = (.inl s, .int (f s)) ∧ 0 < f s
  al : ∀ s, 0 < f s → ∃ p ∈ D, p.1 = .inl s
  nn : ∀ s, 0 ≤ f s
def addAt (g : Int → Int) (t m : Int) : Int → Int := fun u => if u = t then g u + m else g u
theorem DictIs.look {f : Int → Int} {D : List (Key × Tr)} (h : DictIs f D) (s : Int) : lookT D (.inl s) = if 0 < f s then some (.int (f s)) else none := by
  unfold lookT
  cases q : D.find? fun p => decide (p.1 = .inl s) with
  | none =>
    rw [if_neg]
    · rfl
    · intro hp
      obtain ⟨p, hp, e⟩ := h.al s hp
      have := List.find?_eq_none.mp q p hp
      simp [e] at this
  | some p =>
    have h1 := List.find?_some q
    have h1 : p.1 = .inl s := by simpa using h1
    obtain ⟨s', e, hs⟩ := h.ks p (List.mem_of_find?_eq_some q)
    rw [e] at h1
    cases h1
    rw [if_pos hs, e]
    rfl
theorem DictIs.get {f : Int → Int} {D : List (Key × Tr)} (h : DictIs f D) (s : Int) : getD D (.inl s) (.t (.int 0)) = .t (.int (f s)) := by
  unfold getD
  rw [h.look]
  have := h.nn s
  by_cases q : 0 < f s
  · rw [if_pos q]
  · rw [if_neg q, show f s = 0 by omega]
theorem DictIs.nil : DictIs (fun _ => 0) [] := ⟨List.nodup_nil, fun p h => (by cases h), fun s h => absurd h (Int.lt_irrefl _), fun _ => Int.le_refl _⟩
theorem DictIs.put {g : Int → Int} {D : List (Key × Tr)} (h : DictIs g D) (t m : Int) (hm : 0 < m) : DictIs (addAt g t m) (putT D (.inl t) (.int (g t + m))) := by
  have hat : addAt g t m t = g t + m := if_pos rfl
  have hof : ∀ s, s ≠ t → addAt g t m s = g s := fun s n => if_neg n
  have hpos : 0 < addAt g t m t := by rw [hat]; have := h.nn t; omega
  have nn : ∀ s, 0 ≤ addAt g t m s := fun s => by
    by_cases e : s = t
    · rw [e]; omega
    · rw [hof s e]; exact h.nn s
  unfold putT
  split
  · rename_i hany
    refine ⟨?_, fun p hp => ?_, fun s hs => ?_, nn⟩
    · have : (D.map fun kv => if kv.1 = .inl t then (kv.1, Tr.int (g t + m)) else kv).map (·.1) = D.map (·.1) := by
        rw [List.map_map]
        refine List.map_congr_left fun a _ => ?_
        show (if a.1 = .inl t then (a.1, Tr.int (g t + m)) else a).1 = a.1
        split <;> rfl
      rw [this]; exact h.nd
    · obtain ⟨a, ha, rfl⟩ := List.mem_map.mp hp
      obtain ⟨s, e, hs⟩ := h.ks a ha
      subst e
      by_cases hst : s = t
      · subst hst
        exact ⟨s, by rw [if_pos rfl, hat], hpos⟩
      · refine ⟨s, by rw [if_neg (fun z => hst (Sum.inl.inj z)), hof s hst], by rw [hof s hst]; exact hs⟩
    · by_cases hst : s = t
      · subst hst
        obtain ⟨a, ha, e⟩ := List.any_eq_true.mp hany
        have e : a.1 = .inl s := by simpa using e
        exact ⟨_, List.mem_map.mpr ⟨a, ha, rfl⟩, by rw [if_pos e]; exact e⟩
      · rw [hof s hst] at hs
        obtain ⟨a, ha, e⟩ := h.al s hs
        exact ⟨_, List.mem_map.mpr ⟨a, ha, rfl⟩, by rw [if_neg (by rw [e]; exact fun z => hst (Sum.inl.inj z))]; exact e⟩
  · rename_i hany
    have hno : ∀ p ∈ D, p.1 ≠ .inl t := fun p hp e => hany (List.any_eq_true.mpr ⟨p, hp, by simpa using e⟩)
    refine ⟨?_, fun p hp => ?_, fun s hs => ?_, nn⟩
    · rw [List.map_append]
      refine List.nodup_append.mpr ⟨h.nd, by simp, fun a ha b hb => ?_⟩
      obtain ⟨p, hp, rfl⟩ := List.mem_map.mp ha
      have : b = .inl t := by simpa using hb
      rw [this]; exact hno p hp
    · rcases List.mem_append.mp hp with hp | hp
      · obtain ⟨s, e, hs⟩ := h.ks p hp
        have hst : s ≠ t := fun z => hno p hp (by rw [e, z])
        exact ⟨s, by rw [hof s hst]; exact e, by rw [hof s hst]; exact hs⟩
      · have : p = (.inl t, .int (g t + m)) := by simpa using hp
        exact ⟨t, by rw [hat]; exact this, hpos⟩
    · by_cases hst : s = t
      · exact ⟨_, List.mem_append_right _ (List.mem_singleton.mpr rfl), by rw [hst]⟩
      · rw [hof s hst] at hs
        obtain ⟨p, hp, e⟩ := h.al s hs
        exact ⟨p, List.mem_append_left _ hp, e⟩
theorem nodup_le {α : Type} [DecidableEq α] : ∀ {A B : List α}, A.Nodup → (∀ a ∈ A, a ∈ B) → A.length ≤ B.length
  | [], B, _, _ => Nat.zero_le _
  | a :: A, B, n, h => by
    obtain ⟨n1, n2⟩ := List.nodup_cons.mp n
    have ha := h a List.mem_cons_self
    have := nodup_le (A := A) (B := B.erase a) n2 fun b hb => (List.mem_erase_of_ne (fun z => n1 (by rw [← z]; exact hb))).mpr (h b (List.mem_cons_of_mem _ hb))
    rw [List.length_erase_of_mem ha] at this
    have hp : 0 < B.length := List.length_pos_of_mem ha
    rw [List.length_cons]; omega
theorem DictIs.sub {f : Int → Int} {A B : List (Key × Tr)} (ha : DictIs f A) (hb : DictIs f B) : A.length ≤ B.length := by
  have := nodup_le (A := A.map (·.1)) (B := B.map (·.1)) ha.nd fun k hk => by
    obtain ⟨p, hp, rfl⟩ := List.mem_map.mp hk
    obtain ⟨s, e, hs⟩ := ha.ks p hp
    obtain ⟨q, hq, e2⟩ := hb.al s hs
    exact List.mem_map.mpr ⟨q, hq, by rw [e2, e]⟩
  rw [List.length_map, List.length_map] at this
  exact this
theorem DictIs.same {f : Int → Int} {A B : List (Key × Tr)} (ha : DictIs f A) (hb : DictIs f B) : sameK A B := by
  refine ⟨Nat.le_antisymm (ha.sub hb) (hb.sub ha), fun p hp => ?_⟩
  obtain ⟨s, e, hs⟩ := ha.ks p hp
  refine ⟨f s, by rw [e], ?_⟩
  rw [e]
  show lookT B (.inl s) = _
  rw [hb.look, if_pos hs]
theorem mergeT_nd : ∀ (more acc : List (Key × Tr)), ((acc ++ more).map (·.1)).Nodup → mergeT acc more = acc ++ more
  | [], acc, _ => by rw [List.append_nil]; rfl
  | p :: r, acc, h => by
    have hno : ¬ (acc.any fun kv => decide (kv.1 = p.1)) = true := fun z => by
      obtain ⟨a, ha, e⟩ := List.any_eq_true.mp z
      have e : a.1 = p.1 := by simpa using e
      rw [List.map_append] at h
      exact (List.nodup_append.mp h).2.2 a.1 (List.mem_map.mpr ⟨a, ha, rfl⟩) p.1 (by simp) e
    show mergeT (putT acc p.1 p.2) r = _
    have e : putT acc p.1 p.2 = acc ++ [p] := by unfold putT; rw [if_neg hno]
    rw [e, mergeT_nd r (acc ++ [p]) (by rw [List.append_assoc]; exact h), List.append_assoc]
    rfl
/-! ### steps -/
section
variable {G : Env} {m : Sto} {k : DK} {d e z : Dv} {ts us kvs : List (Key × Tr)} {t : Tr} {ky : Key} {x : XK}
theorem st_gd1 {A : Prop} (h : view m d = some (.dic ts)) (q : A) : (∃ ts, view m d = some (.dic ts)) ∧ A := ⟨⟨ts, h⟩, q⟩
theorem st_gd2 {A : List (Key × Tr) → Key → Prop} (h : view m d = some (.dic ts)) (h2 : view m e = some t) (h3 : keyT t = some ky) (q : A ts ky) : ∃ ts ky, view m d = some (.dic ts) ∧ view m e = some (kT ky) ∧ A ts ky := ⟨ts, ky, h, by rw [h2, keyT_kT h3], q⟩
theorem st_nox {u : VS} {nx : SK} {rt : RK} {bk ct : SK} {ex : XS} (h : u nx rt bk ct (fun _ _ _ => False) G m) : vNoX u nx rt bk ct ex G m := h
theorem st_items {A : List (Key × Tr) → Prop} (q : A ts) : ∃ us, Dv.t (.dic ts) = .t (.dic us) ∧ A us := ⟨ts, rfl, q⟩
theorem st_pn {q : List (Dv × Dv) → Prop} (h : q []) : vPairs [] G m q x := h
theorem st_pc {p : VE × VE} {r : List (VE × VE)} {q : List (Dv × Dv) → Prop} (h : p.1 G m (fun kd => p.2 G m (fun d => vPairs r G m (fun ds => q ((kd, d) :: ds)) x) x) x) : vPairs (p :: r) G m q x := h
theorem st_up {ds : List (Dv × Dv)} {A : List (Key × Tr) → Prop} (h : unPairs m ds = some kvs) (h2 : kvs.length ≤ 15) (q : A kvs) : ∃ kvs, unPairs m ds = some kvs ∧ kvs.length ≤ 15 ∧ A kvs := ⟨kvs, h, h2, q⟩
theorem sp_eqK {f : Int → Int} (h1 : view m d = some (.dic ts)) (h2 : view m e = some (.dic us)) (a : DictIs f ts) (b : DictIs f us) (q : k (.t (.bl true))) : fEqK m d e k := ⟨ts, us, h1, h2, a.same b, q⟩
theorem sp_neK {f : Int → Int} (h1 : view m d = some (.dic ts)) (h2 : view m e = some (.dic us)) (a : DictIs f ts) (b : DictIs f us) (q : k (.t (.bl false))) : fNeK m d e k := ⟨ts, us, h1, h2, a.same b, q⟩
theorem sp_listD (h : view m d = some (.dic ts)) (q : k (.t (.lst (ts.map fun p => kT p.1)))) : fListD m [d] k := ⟨d, ts, rfl, h, q⟩
theorem sp_dictP {xs : List Tr} (h : view m d = some (.lst xs)) (h2 : pairsT xs = some kvs) (q : k (.t (.dic (mergeT [] kvs)))) : fDictP m [d] k := ⟨d, xs, kvs, rfl, h, h2, q⟩
theorem st_lv {A : List (Key × Tr) → Prop} (h : view m d = some (.dic ts)) (q : A ts) : ∃ ts, view m d = some (.dic ts) ∧ A ts := ⟨ts, h, q⟩
theorem st_dp {xs : List Tr} {A : List Tr → List (Key × Tr) → Prop} (h : view m d = some (.lst xs)) (h2 : pairsT xs = some kvs) (q : A xs kvs) : ∃ ts kvs, view m d = some (.lst ts) ∧ pairsT ts = some kvs ∧ A ts kvs := ⟨xs, kvs, h, h2, q⟩
end
/-- a comprehension, its list told turn by turn -/
theorem lc_fun {us : List Tr} {B : List Tr → Prop} {A : Nat → Tr → List Tr → (Nat → List Tr → Prop) → Prop} (F : Nat → List Tr) (h0 : F 0 = []) (hs : ∀ (i : Nat) t, us[i]? = some t → ∀ I : Nat → List Tr → Prop, (∀ acc, acc = F (i + 1) → I (i + 1) acc) → A i t (F i) I) (hk : B (F us.length)) :
    ∃ I : Nat → List Tr → Prop, I 0 [] ∧ (∀ (i : Nat) t acc, us[i]? = some t → I i acc → A i t acc I) ∧ ∀ acc, I us.length acc → B acc :=
  ⟨fun i acc => acc = F i, h0.symm, fun i t acc e h => by subst h; exact hs i t e _ fun acc h => h, fun acc h => by subst h; exact hk⟩
/-- nothing, or data -/
def oT : Option Tr → Option Dv
  | none => none
  | some t => some (.t t)
end VL

/-! VL, part Y: a dict's keys walked, sorted; its items in a comprehension. -/
namespace VL
open PySem L2
abbrev viD (F : List (Key × Tr) → List Tr) (e : VE) : VI := fun G m k x => e G m (fun d => ∃ ts, d = .t (.dic ts) ∧ k (F ts)) x
def keysT (ts : List (Key × Tr)) : List Tr := ts.map fun p => kT p.1
section
variable {K : PySem.W.Frag} {mg : Str → Option Value} {Z : Rsc} {P : Pm} {R R' H H' : Hp} {as : List Addr} {G : Env} {m : Sto} {σ : L2.St}
theorem itok_keys {d : Addr} {o : Obj} {kvs : List (Key × V)} {ts : List (Key × Tr)} (h : R d = some (.frz o (.dK kvs))) (rx : RepsP K mg R kvs ts) : ItOk K mg Z P R (Itk d o kvs) (keysT ts) := fun R' as' G' m' σ' H' r s => by
  have hx : H' d = some (.frz o (.dK kvs)) := r.ex _ _ (s _ _ h)
  refine ⟨fun i t e => ?_, ⟨hx, by unfold keysT; rw [List.length_map, Paired.length rx]; exact Nat.le_refl _⟩⟩
  unfold keysT at e
  rw [List.getElem?_map] at e
  cases q : ts[i]? with
  | none => rw [q] at e; cases e
  | some p =>
    rw [q] at e
    cases e
    have hl := Paired.length rx
    have hi : i < ts.length := (List.getElem?_eq_some_iff.mp q).1
    have e1 : kvs[i]? = some (kvs[i]'(by omega)) := List.getElem?_eq_getElem (by omega)
    have pr := paired_at rx i _ _ e1 q
    refine ⟨⟨hx, by omega⟩, fun z H2 ⟨eH, k, v, g, ez⟩ => ?_⟩
    subst ez eH
    rw [g] at e1
    have e1 := Option.some.inj e1
    rw [← e1] at pr
    refine ⟨R', Same.refl _, .refl, r, ?_⟩
    show Rep K mg R' (kV k) (kT p.1)
    rw [← show k = p.1 from pr.1]
    exact kT_rep _
end
section
variable {X : Cx} {Z : Rsc} {W : WX} {tg e : Expr} {ve : VE} {vg : VG} {body : List Stmt} {u : VS} {p pos apos cpos tpos : Pos} {elts : List Expr} {kk : Nat}
theorem vs_forJ {iter : Expr} (J : Addr → Obj → List (Key × V) → It) (F : List (Key × Tr) → List Tr) (hok : ∀ (P : Pm) (R : Hp) (d : Addr) (o : Obj) (kvs : List (Key × V)) (ts : List (Key × Tr)), R d = some (.frz o (.dK kvs)) → RepsP X.K X.mg R kvs ts → ItOk X.K X.mg Z P R (J d o kvs) (F ts))
    (Gp : V → Hp → (It → Hp → Prop) → Prop) (hG : ∀ (d : Addr) (o : Obj) (kvs : List (Key × V)) (H1 : Hp) (R : It → Hp → Prop), H1 d = some (.frz o (.dK kvs)) → R (J d o kvs) H1 → Gp (.ref d) H1 R)
    (hpi : ∀ {td : TE}, PE X e td → PI X tg iter (fun σ H R => td σ H fun x H1 => Gp x H1 R)) (hp : PassesOwn (model X.prog X.w) X.A X.env X.xe) (hc : X.calm = true) (hi : PE X e (LE X.K X.mg Z W ve)) (hg : PG X tg (LG X.K X.mg Z none vg)) (hb : PSs X body (LS X.K X.mg Z W u))
    (hs : ∀ x, foldedSetIterable iter X.env x = pure x := by intro _; rfl) :
    PS X (.For tg iter body [] pos) (LS X.K X.mg Z W (vFor (viD F ve) vg (vNoX u))) :=
  PS.imp (ps_un (ps_for hp hc (hpi (pe_lk hi)) hg hb hs)) fun D σ H ⟨P, R, as, G, m, nx, rt, bk, ct, ex, r, h, k⟩ => LE.go r h (fun dv v R1 H1 ⟨ts, ed, I, h0, hs, hd⟩ n1 r1 d1 => by
    subst ed
    have core : ∀ (P1 : Pm) (R2 H2 : Hp) (d : Addr) (o : Obj) (xs : List (Key × V)) (D' : Ends), P1.hd = P.hd → Rel X.K X.mg Z P1 R2 as G m σ H2 → R2 d = some (.frz o (.dK xs)) → RepsP X.K X.mg R2 xs ts → Ke X.K X.mg Z W P1 nx rt bk ct (fun _ _ _ => False) D' →
        ∃ Wv : Nat → Nat → St → Hp → Prop, (∃ m, Wv 0 m σ H2) ∧ ∀ i m σ H, Wv i m σ H → ((J d o xs).stop i H ∧ D'.nx σ H) ∨ ((J d o xs).go i H ∧ ∃ N : St → Hp → Prop, (∀ σ' H', N σ' H' → ∃ m', m' < m ∧ Wv (i + 1) m' σ' H') ∧ ∀ x H', (J d o xs).yld i H x H' → LG X.K X.mg Z none vg x σ H' fun σ2 H2 => LS X.K X.mg Z W u { D' with nx := N, ct := N, bk := D'.nx } σ2 H2) := by
      intro P1 R2 H2 d o xs D' ehd r2 hd2 rx k
      have okP : ItOk X.K X.mg Z (P1.at R2) R2 (J d o xs) (F ts) := hok _ _ _ _ _ _ hd2 rx
      refine ⟨fun i q σ' H' => q = (F ts).length - i ∧ i ≤ (F ts).length ∧ ∃ R' as' G' m', Rel X.K X.mg Z (P1.at R2) R' as' G' m' σ' H' ∧ I i G' m', ⟨(F ts).length, by simp, Nat.zero_le _, R2, as, G, m, r2.base, h0⟩, ?_⟩
      rintro i q σ' H' ⟨rfl, hi, R', as', G', m', r', hI⟩
      obtain ⟨ok1, ok2⟩ := okP R' as' G' m' σ' H' r' r'.r0
      by_cases hlt : i < (F ts).length
      · have ht : (F ts)[i]? = some (F ts)[i] := List.getElem?_eq_getElem hlt
        obtain ⟨hgo, hy⟩ := ok1 i _ ht
        refine .inr ⟨hgo, fun σ2 H2 => i + 1 ≤ (F ts).length ∧ ∃ R3 as2 G2 m2, Rel X.K X.mg Z (P1.at R2) R3 as2 G2 m2 σ2 H2 ∧ I (i + 1) G2 m2, fun σ2 H2 ⟨a, b⟩ => ⟨(F ts).length - (i + 1), by omega, rfl, a, b⟩, fun x H2 hx => ?_⟩
        obtain ⟨R3, _, _, r3, rv⟩ := hy x H2 hx
        refine ⟨P1.at R2, R3, as', G', m', _, _, r3, rv, hs i _ G' m' ht hI, fun G3 σ3 h3 _ r3 => ⟨P1.at R2, R3, as', G3, m', _, _, _, _, _, r3, h3, ?_⟩⟩
        have kk := k.at r2
        exact ⟨fun G m R as σ H a b => ⟨hlt, R, as, G, m, b, a⟩, kk.rt, kk.nx, fun G m R as σ H a b => ⟨hlt, R, as, G, m, b, a⟩, kk.ex⟩
      · have e : i = (F ts).length := by omega
        subst e
        exact .inl ⟨ok2, k.nx G' m' R' as' σ' H' (hd G' m' hI) (r2.unbase r')⟩
    cases d1 with
    | t rv =>
      obtain ⟨d, xs, rfl, hx, rx⟩ := rv.dic_inv
      rcases hx with hx | ⟨o, hx⟩
      · refine .inr ⟨d, .dK xs, r1.ex _ _ hx, trivial, fun nf od => hG d od xs _ _ upd_same ?_⟩
        have s : Alike d xs R1 (upd R1 d (.frz od (.dK xs))) := ⟨fun a n => upd_ne n, .inl hx, .inr ⟨od, upd_same⟩⟩
        refine core (P.lk d (.frz od (.dK xs))) (upd R1 d (.frz od (.dK xs))) (upd H1 d (.frz od (.dK xs))) d od xs _ rfl (r1.lock hx) upd_same (rx.alike s) ?_
        have dn : ∀ {R' as' G' m' σ' H'}, Rel X.K X.mg Z (P.lk d (.frz od (.dK xs))) R' as' G' m' σ' H' → H' d = some (.frz od (.dK xs)) := fun b => b.ex _ _ (b.r0 d _ (by show upd P.R0 d _ d = _; exact upd_same))
        exact ⟨fun G m R as σ H a b => .inr ⟨d, od, .dK xs, dn b, nf, k.nx _ _ _ _ _ _ a (r1.unlock hx b).2⟩,
          fun dv m v R as G σ H a b c => .inr ⟨d, od, .dK xs, dn b, nf, k.rt _ _ _ _ _ _ _ _ a (r1.unlock hx b).2 (c.alike (r1.unlock hx b).1)⟩,
          fun G m R as σ H a b => .inr ⟨d, od, .dK xs, dn b, nf, k.bk _ _ _ _ _ _ a (r1.unlock hx b).2⟩,
          fun G m R as σ H a b => .inr ⟨d, od, .dK xs, dn b, nf, k.ct _ _ _ _ _ _ a (r1.unlock hx b).2⟩, fun _ _ _ _ _ _ _ _ a => a.elim⟩
      · refine .inl (hG d o xs _ _ (r1.ex _ _ hx) (core P R1 H1 d o xs _ rfl r1 hx rx ?_))
        exact ⟨fun G m R as σ H a b => .inl (k.nx _ _ _ _ _ _ a b), fun dv m v R as G σ H a b c => .inl (k.rt _ _ _ _ _ _ _ _ a b c), fun G m R as σ H a b => .inl (k.bk _ _ _ _ _ _ a b), fun G m R as σ H a b => .inl (k.ct _ _ _ _ _ _ a b), fun _ _ _ _ _ _ _ _ a => a.elim⟩) k.er
theorem vs_forK (hp : PassesOwn (model X.prog X.w) X.A X.env X.xe) (hc : X.calm = true) (hi : PE X e (LE X.K X.mg Z W ve)) (hg : PG X tg (LG X.K X.mg Z none vg)) (hb : PSs X body (LS X.K X.mg Z W u))
    (hs : ∀ x, foldedSetIterable e X.env x = pure x := by intro _; rfl) : PS X (.For tg e body [] pos) (LS X.K X.mg Z W (vFor (viD keysT ve) vg (vNoX u))) :=
  vs_forJ Itk keysT (fun _ _ _ _ _ _ h r => itok_keys h r) _ (fun d o kvs H1 R h q => ⟨d, o, rfl, .inl ⟨kvs, h, q⟩⟩) (fun {td} h => pi_keys h) hp hc hi hg hb hs
open PyProof.Rows PySem.Spec in
/-- sorted(d), whole numbers, any number of them -/
theorem call_sortedDK (hcalm : X.calm = true) : CallR X (.builtin "sorted") (fun xs H Q => ∃ (a : Addr) (kvs : List (Key × V)) (ks : List Int), xs = [.ref a] ∧ Rd H a (.dK kvs) ∧ kvs.map (·.1) = ks.map Sum.inl ∧
    ∀ (ys : List Int) (p : Addr), ys.Perm ks → ys.Pairwise (· ≤ ·) → H p = none → Q (.ref p) (upd H p (.lst (ys.map V.int)))) := by
  intro pins s σ H xs us Q I r q
  obtain ⟨a, kvs, ks, ex, hd, hks, q⟩ := q
  subst ex
  obtain ⟨u, eu, rx⟩ := vals1 r
  subst eu
  cases rx
  obtain ⟨z, lo, vs, rel, dd⟩ := dk_rd I.hok hd
  obtain ⟨ep, hat⟩ := dd.dictAt
  have hkeys : vs.map (·.1) = ks.map Sum.inl := rel.keys.symm.trans hks
  have hl : vs.length = ks.length := by
    have e := congrArg List.length hkeys
    rw [List.length_map, List.length_map] at e
    exact e
  have hvk : kvs.length = vs.length := rel.length
  have h16 : vs.length ≤ sizeLine := by rw [← hvk]; exact z
  refine Calls.call_function_entry PyProof.Rows.kind_sorted PyProof.Rows.plain_sorted PyProof.Rows.entry_sorted (PyProof.Rows.args_sorted1 _) ?_
  unfold Builtin.«sorted»
  refine wpAny_bind (m := checkCount "sorted" 1 1 _) (wpAny_pure ?_)
  refine wpAny_bind (PySem.W.kdu_collect (A := X.A.in1) (PySem.W.kdl_dict (knd := mixKind X.prog X.w) (kvs := vs) (ep := ep) lo) (I.ok.hd hcalm) hat h16 fun h' tk acc hk hacc => ?_)
  have hal : acc.toList.length = ks.length := by rw [Array.length_toList, hacc.1, hl]
  have hS : IntsAre acc.toList ks := ints_each hal fun j v e => by
    obtain ⟨k, x, e1, e2⟩ := hacc.2 j v (by rw [← Array.getElem?_toList]; exact e)
    have e3 : (vs.map (·.1))[j]? = some k := by rw [List.getElem?_map, e1]; rfl
    rw [hkeys, List.getElem?_map] at e3
    cases e4 : ks[j]? with
    | none => rw [e4] at e3; cases e3
    | some y =>
      rw [e4] at e3
      have e5 : Sum.inl y = k := Option.some.inj e3
      subst e5
      rcases keyIs_shape (show keyIs (Sum.inl y) v = true from e2) with ⟨i, t, ek, ev⟩ | ⟨z, t, ek, ev⟩
      · cases ek
        exact ⟨y, t, rfl, ev⟩
      · cases ek
  have I1 : Inv X pins σ H { s with heap := h', toks := tk } := I.kept hk
  have hz : acc.toList.length ≤ sizeLine := by rw [hal, ← hl]; exact h16
  refine wpAny_bind (wpAny_newList ?_ hz)
  have hoL : (h'.push (seqObj "list" acc.toList.toArray 0)).get? h'.objs.size = some (seqObj "list" acc.toList.toArray 0) := Heap.get?_push_size _ rfl
  show wpAny _ _ _ _ _ { s with heap := h'.push (seqObj "list" acc.toList.toArray 0), toks := tk }
  refine wpAny_bind (wpAny_holding (wpAny_call_entry PyProof.Rows.slot_list_sort ⟨_, hoL, rfl⟩ PyProof.Rows.entry_list_sort
    (SrtO.list_sort_ord SrtO.swo_int hoL hz (fun h2 => SrtO.ints_sortable hS h2) fun out h1 h2 => ⟨_, rfl, ?_⟩) (PyProof.Rows.args_list_sort _)))
  obtain ⟨k1, k2, k3⟩ := SrtO.ints_out hS h1 h2
  obtain ⟨e', he'⟩ := PyProof.Rows.sortedHeap_at (vs := acc.toList) (out := out.toArray) hoL
  have hlen : ((out.map SrtO.iv).map V.int).length ≤ sizeLine := by
    rw [List.length_map, k2.length_eq, ← hal]
    exact hz
  refine wpAny_pure ⟨_, rfl, .ref h'.objs.size, upd H h'.objs.size (.lst ((out.map SrtO.iv).map V.int)), I1.laid (t' := tk) (fun b u e => ?_) (Nat.le_refl _)
    (show ObjOk X.prog X.w _ _ _ (.lst ((out.map SrtO.iv).map V.int)) from ⟨hlen, out, e', vals_of_ints k1, he'⟩), rfl, q _ _ k2 k3 (I1.hok.fresh (Nat.le_refl _))⟩
  have hb : b < h'.objs.size := Heap.lt_size e
  rw [PyProof.Rows.sortedHeap_old (Nat.ne_of_lt hb) (by rw [size_push']; exact Nat.lt_succ_of_lt hb)]
  exact Heap.get?_push_of_some _ e
def fSortedD : OC := fun m ds k => ∃ d ts ks, ds = [d] ∧ view m d = some (.dic ts) ∧ ts.map (·.1) = ks.map Sum.inl ∧ ∀ ys : List Int, ys.Perm ks → ys.Pairwise (· ≤ ·) → k (.t (.lst (ys.map .int)))
theorem lo_sortedD {K : PySem.W.Frag} {mg : Str → Option Value} : LoC K mg (fun xs H Q => ∃ (a : Addr) (kvs : List (Key × V)) (ks : List Int), xs = [.ref a] ∧ Rd H a (.dK kvs) ∧ kvs.map (·.1) = ks.map Sum.inl ∧
    ∀ (ys : List Int) (p : Addr), ys.Perm ks → ys.Pairwise (· ≤ ·) → H p = none → Q (.ref p) (upd H p (.lst (ys.map V.int)))) fSortedD := by
  rintro Z P R as G m σ H vs ds k Q r h ⟨d, ts, ks, rfl, e1, e2, q⟩ nn
  obtain ⟨v, rfl, dv⟩ := pone h
  obtain ⟨a, xs, rfl, hx, rx⟩ := r.vDic dv e1
  refine ⟨a, xs, ks, rfl, hx, (paired_keys rx).trans e2, fun ys p h1 h2 hp => ?_⟩
  obtain ⟨r', n'⟩ := r.laid (o := .lst (ys.map V.int)) hp
  exact nn _ _ _ _ (q ys h1 h2) n' r' (.t (.lstP upd_same (ints_reps ys)))
theorem v_sortedD {es : VA} (hc : X.calm = true) (hg : Gl X "sorted") (hm : X.mg "sorted" = none) (h : PA X [e] (LA X.K X.mg Z W es)) (he : starEach [e] X.env = (false, eval e X.env) :: starEach [] X.env := by rfl) (hpl : (backTo pos (starEach [] X.env)).any (·.1) = false := by rfl) :
    PE X (.Call (.Name "sorted" p) [e] [] pos) (LE X.K X.mg Z W (vCB fSortedD es)) := v_callB (call_sortedDK hc) lo_sortedD hg hm (by decide +kernel) h (by decide) (by decide) he hpl
end
end VL

/-! VL, part Z: texts: join, split, int of a text. -/
namespace VL
open PySem L2
section
variable {X : Cx} {Z : Rsc} {W : WX} {o e : Expr} {vo ve : VE} {p apos pos : Pos}
theorem strs_reps {K : PySem.W.Frag} {mg : Str → Option Value} {R : Hp} : ∀ ys : List Str, Reps K mg R (ys.map V.str) (ys.map Tr.str)
  | [] => .nil
  | y :: ys => .cons (.str y) (strs_reps ys)
theorem reps_strs {K : PySem.W.Frag} {mg : Str → Option Value} {R : Hp} : ∀ {ys : List Str} {xs : List V}, Reps K mg R xs (ys.map Tr.str) → xs = ys.map V.str
  | [], _, .nil => rfl
  | y :: ys, _, .cons r t => by
    rw [reps_strs t]
    cases r
    rfl
/-- sep.join(texts) -/
abbrev vJoin (o e : VE) : VE := fun G m k x => o G m (fun d => (∃ a, view m d = some (.str a)) ∧ e G m (fun y => ∃ a ys, view m d = some (.str a) ∧ view m y = some (.lst (ys.map Tr.str)) ∧ (ys.map (·.length)).sum + ys.length * a.length ≤ 16777216 ∧ k (.t (.str (Txt.join a ys)))) x) x
theorem v_join (ho : PE X o (LE X.K X.mg Z W vo)) (he : PE X e (LE X.K X.mg Z W ve)) (hs : starEach [e] X.env = [(false, eval e X.env)] := by rfl) (hbase : attributeBase o "join" X.env (eval o X.env) = eval o X.env := by rfl) (hline : (apos.endLine == pos.line) = true := by rfl) :
    PE X (.Call (.Attribute o "join" apos) [e] [] pos) (LE X.K X.mg Z W (vJoin vo ve)) :=
  PE.imp (pe_m1 PySem.F.slot_str_join PySem.F.type_str_join mt_join ho he hs hbase hline) fun σ H Q ⟨P, R, as, G, m, k, x, r, h, n⟩ => LE.go r h (fun d v R1 H1 ⟨⟨a, ea⟩, h1⟩ n1 r1 d1 =>
    ⟨⟨a, r1.vStr d1 ea⟩, LE.go r1 h1 (fun y w R2 H2 ⟨a, ys, e1, e2, hz, h2⟩ n2 r2 d2 => by
      obtain ⟨q, xs, rfl, hq, rx⟩ := r2.vLst d2 e2
      rw [reps_strs rx] at hq
      exact ⟨a, q, ys, r2.vStr (d1.mono n2.r) e1, rfl, .inl (.of hq), hz, n.ok _ _ R2 H2 h2 (n1.trans n2) r2 (.t (.str _))⟩) fun nm cl R' H' a b c d => n.er nm cl R' H' a b (n1.trans c) d⟩) n.er
/-- x.split(sep) -/
abbrev vSplit (o e : VE) : VE := fun G m k x => o G m (fun d => (∃ a, view m d = some (.str a)) ∧ e G m (fun y => ∃ a b, view m d = some (.str a) ∧ view m y = some (.str b) ∧ (b.length == 0) = false ∧ a.length + 2 ≤ sizeLine ∧ k (.t (.lst ((Txt.split a b).map .str)))) x) x
theorem v_split (ho : PE X o (LE X.K X.mg Z W vo)) (he : PE X e (LE X.K X.mg Z W ve)) (hs : starEach [e] X.env = [(false, eval e X.env)] := by rfl) (hbase : attributeBase o "split" X.env (eval o X.env) = eval o X.env := by rfl) (hline : (apos.endLine == pos.line) = true := by rfl) :
    PE X (.Call (.Attribute o "split" apos) [e] [] pos) (LE X.K X.mg Z W (vSplit vo ve)) :=
  PE.imp (pe_split ho he hs hbase hline) fun σ H Q ⟨P, R, as, G, m, k, x, r, h, n⟩ => LE.go r h (fun d v R1 H1 ⟨⟨a, ea⟩, h1⟩ n1 r1 d1 =>
    ⟨⟨a, r1.vStr d1 ea⟩, LE.go r1 h1 (fun y w R2 H2 ⟨a, b, e1, e2, hb, hz, h2⟩ n2 r2 d2 => by
      refine ⟨a, b, r2.vStr (d1.mono n2.r) e1, by rw [r2.vStr d2 e2], hb, hz, fun q hq => ?_⟩
      obtain ⟨r', n'⟩ := r2.laid (o := .lst ((Txt.split a b).map V.str)) hq
      exact n.ok _ _ _ _ h2 ((n1.trans n2).trans n') r' (.t (.lstP upd_same (strs_reps _)))) fun nm cl R' H' a b c d => n.er nm cl R' H' a b (n1.trans c) d⟩) n.er
/-- int(text) -/
def fIntS : OC := fun m ds k => ∃ d a n, ds = [d] ∧ view m d = some (.str a) ∧ PySem.intText? a = some n ∧ a.length ≤ 640 ∧ k (.t (.int n))
theorem lo_intS {K : PySem.W.Frag} {mg : Str → Option Value} : LoC K mg (fun xs H Q => ∃ a n, xs = [.str a] ∧ PySem.intText? a = some n ∧ a.length ≤ 640 ∧ Q (.int n) H) fIntS := by
  rintro Z P R as G m σ H vs ds k Q r h ⟨d, a, i, rfl, e1, e2, e3, q⟩ nn
  obtain ⟨v, rfl, dv⟩ := pone h
  rw [r.vStr dv e1]
  exact ⟨a, i, rfl, e2, e3, nn _ _ R H q .refl r (.t (.int _))⟩
theorem v_intS {es : VA} (hg : Gl X "int") (hm : X.mg "int" = none) (h : PA X [e] (LA X.K X.mg Z W es)) (he : starEach [e] X.env = (false, eval e X.env) :: starEach [] X.env := by rfl) (hpl : (backTo pos (starEach [] X.env)).any (·.1) = false := by rfl) :
    PE X (.Call (.Name "int" p) [e] [] pos) (LE X.K X.mg Z W (vCB fIntS es)) := v_callTy call_int_str lo_intS hg hm (by decide +kernel) h (by decide) (by decide) he hpl
end
section
variable {m : Sto} {k : DK} {d e : Dv} {a b : Str} {ys : List Str} {n : Int}
theorem st_tx {A : Prop} (h : view m d = some (.str a)) (q : A) : (∃ a, view m d = some (.str a)) ∧ A := ⟨⟨a, h⟩, q⟩
theorem sp_intS (h : view m d = some (.str a)) (h2 : PySem.intText? a = some n) (h3 : a.length ≤ 640) (q : k (.t (.int n))) : fIntS m [d] k := ⟨d, a, n, rfl, h, h2, h3, q⟩
theorem st_join {A : Str → List Str → Prop} (h : view m d = some (.str a)) (h2 : view m e = some (.lst (ys.map Tr.str))) (h3 : (ys.map (·.length)).sum + ys.length * a.length ≤ 16777216) (q : A a ys) : ∃ a ys, view m d = some (.str a) ∧ view m e = some (.lst (ys.map Tr.str)) ∧ (ys.map (·.length)).sum + ys.length * a.length ≤ 16777216 ∧ A a ys := ⟨a, ys, h, h2, h3, q⟩
theorem st_split {A : Str → Str → Prop} (h : view m d = some (.str a)) (h2 : view m e = some (.str b)) (h3 : (b.length == 0) = false) (h4 : a.length + 2 ≤ sizeLine) (q : A a b) : ∃ a b, view m d = some (.str a) ∧ view m e = some (.str b) ∧ (b.length == 0) = false ∧ a.length + 2 ≤ sizeLine ∧ A a b := ⟨a, b, h, h2, h3, h4, q⟩
theorem lay_str {x : Str} (h : PyData.strOk x = true) : lay 60 (.str x) = true := by simp [lay, h]
theorem sp_eqS (h1 : viewD m d = some (.str a)) (h2 : viewD m e = some (.str b)) (q : k (.t (.bl (decide (a = b))))) (l1 : PyData.strOk a = true) (l2 : PyData.strOk b = true) : fEqD m d e k := ⟨_, _, h1, h2, lay_str l1, lay_str l2, by rw [eqT_str]; exact q⟩
theorem sp_neS (h1 : viewD m d = some (.str a)) (h2 : viewD m e = some (.str b)) (q : k (.t (.bl (!decide (a = b))))) (l1 : PyData.strOk a = true) (l2 : PyData.strOk b = true) : fNeD m d e k := ⟨_, _, h1, h2, lay_str l1, lay_str l2, by rw [eqT_str]; exact q⟩
theorem sp_slS {l u : Option Int} (h1 : view m d = some (.str a)) (q : k (.t (.str (cutS a l u)))) (h2 : a.length ≤ sizeLine) : fSlc m d l u k := .inr (.inr ⟨a, h1, h2, q⟩)
theorem sp_lenS (h1 : view m d = some (.str a)) (q : k (.t (.int a.length))) (h2 : a.length ≤ sizeLine) : fLen m [d] k := ⟨d, _, a.length, rfl, h1, rfl, fun z e => by cases e; exact h2, q⟩
theorem sp_inS {c : Nat} (h1 : view m d = some (.str ⟨#[c]⟩)) (h2 : view m e = some (.str b)) (q : k (.t (.bl (decide (c ∈ b.cps.toList))))) : fIn' m d e k := .inr (.inl ⟨c, b, h1, h2, q⟩)
theorem sp_notinS {c : Nat} (h1 : view m d = some (.str ⟨#[c]⟩)) (h2 : view m e = some (.str b)) (q : k (.t (.bl (!decide (c ∈ b.cps.toList))))) : fNotIn' m d e k := .inr (.inl ⟨c, b, h1, h2, q⟩)
theorem sp_neNil (h1 : viewD m d = some (.lst [])) (h2 : viewD m e = some (.lst [])) (q : k (.t (.bl false))) : fNeD m d e k := sp_neR h1 h2 q (lay_ints (ns := []))
end
end VL

/-! VL, part MA: instances: fields. (Under way: no law uses it yet.) -/
namespace VL
open PySem L2
section
variable {X : Cx} {Z : Rsc} {W : WX} {e : Expr} {ve : VE} {pos : Pos} {c f : Str}
theorem look_pair {K : PySem.W.Frag} {mg : Str → Option Value} {R : Hp} {f : Str} {t : Tr} : ∀ {xs : List (Str × V)} {ts : List (Str × Tr)}, RepsP K mg R xs ts → ts.lookup f = some t → ∃ x, xs.lookup f = some x ∧ Rep K mg R x t
  | _, _, .nil, h => by simp at h
  | _, _, .cons (a := p) (b := q) r s, h => by
    obtain ⟨pn, pv⟩ := p
    obtain ⟨qn, qv⟩ := q
    have en : pn = qn := r.1
    subst en
    rw [List.lookup_cons] at h ⊢
    cases z : f == pn with
    | true => rw [z] at h; cases h; exact ⟨pv, rfl, r.2⟩
    | false => rw [z] at h; exact look_pair s h
/-- e.f of an instance seen as data -/
abbrev vFld (c f : Str) (e : VE) : VE := fun G m k x => e G m (fun d => ∃ fs t, view m d = some (.ins c fs) ∧ fs.lookup f = some t ∧ k (.t t)) x
theorem v_fld (hc : ∀ C, X.mg c = some (.ref C) → Cls X.K C ∧ NoAttr X.K C f) (he : PE X e (LE X.K X.mg Z W ve)) (hb : attributeBase e f X.env (eval e X.env) = eval e X.env := by rfl) : PE X (.Attribute e f pos) (LE X.K X.mg Z W (vFld c f ve)) :=
  PE.imp (pe_fld he hb) fun σ H Q ⟨P, R, as, G, m, k, x, r, h, n⟩ => LE.go r h (fun d v R1 H1 ⟨fs, t, e1, e2, h1⟩ n1 r1 d1 => by
    obtain ⟨a, C, dx, xs, rfl, hm, ha, rx⟩ := r1.vIns d1 e1
    obtain ⟨y, q1, q2⟩ := look_pair rx e2
    exact ⟨a, C, dx, xs, y, rfl, ha, (hc C hm).1, (hc C hm).2, q1, n.ok _ _ R1 H1 h1 n1 r1 (.t q2)⟩) n.er
/-- a field set -/
def putA {α : Type} (f : Str) (v : α) : List (Str × α) → List (Str × α)
  | [] => [(f, v)]
  | (g, x) :: r => bif g == f then (g, v) :: r else (g, x) :: putA f v r
theorem put_reps {K : PySem.W.Frag} {mg : Str → Option Value} {R : Hp} {f : Str} {v : V} {t : Tr} (h : Rep K mg R v t) : ∀ {xs : List (Str × V)} {ts : List (Str × Tr)}, RepsP K mg R xs ts → RepsP K mg R (putF f v xs) (putA f t ts)
  | _, _, .nil => .cons ⟨rfl, h⟩ .nil
  | _, _, .cons (a := p) (b := q) r s => by
    obtain ⟨pn, pv⟩ := p
    obtain ⟨qn, qv⟩ := q
    have en : pn = qn := r.1
    subst en
    unfold putF putA
    by_cases z : pn = f
    · rw [if_pos z, beq_iff_eq.mpr z]; exact .cons ⟨rfl, h⟩ s
    · rw [if_neg z, beq_eq_false_iff_ne.mpr z]; exact .cons r (put_reps h s)
theorem put_ch {K : PySem.W.Frag} {mg : Str → Option Value} {R : Hp} {as : List Addr} {f : Str} {v : V} {t : Tr} (h : ChR K mg R as v t) : ∀ {xs : List (Str × V)} {ts : List (Str × Tr)}, Paired (fun p q => p.1 = q.1 ∧ ChR K mg R as p.2 q.2) xs ts → Paired (fun p q => p.1 = q.1 ∧ ChR K mg R as p.2 q.2) (putF f v xs) (putA f t ts)
  | _, _, .nil => .cons ⟨rfl, h⟩ .nil
  | _, _, .cons (a := p) (b := q) r s => by
    obtain ⟨pn, pv⟩ := p
    obtain ⟨qn, qv⟩ := q
    have en : pn = qn := r.1
    subst en
    unfold putF putA
    by_cases z : pn = f
    · rw [if_pos z, beq_iff_eq.mpr z]; exact .cons ⟨rfl, h⟩ s
    · rw [if_neg z, beq_eq_false_iff_ne.mpr z]; exact .cons r (put_ch h s)
theorem Paired.len {α β : Type} {F : α → β → Prop} {l : List α} {r : List β} (h : Paired F l r) : l.length = r.length := Paired.length h
/-- o.f = e, data, o an instance at a site -/
def fSetF (c f : Str) (m : Sto) (d od : Dv) (nx : Sto → Prop) : Prop := ∃ j t, d = .t t ∧ od = .loc j ∧
  ((∃ fs, m[j]? = some (some (.ins c fs)) ∧ fs.length < 1000 ∧ nx (m.set j (some (.ins c (putA f t fs))))) ∨
   ∃ fs, m[j]? = some (some (.di c fs)) ∧ fs.length < 1000 ∧ nx (m.set j (some (.di c (putA f t fs)))))
abbrev vSetF (c f : Str) (o e : VE) : VS := fun nx _ _ _ ex G m => e G m (fun d => o G m (fun od => fSetF c f m d od (nx G)) (fun n => ex n G m)) (fun n => ex n G m)
theorem vs_setF {o : Expr} {vo : VE} {p1 : Pos} (hc : ∀ C, X.mg c = some (.ref C) → Cls X.K C ∧ NoAttr X.K C f) (ho : PE X o (LE X.K X.mg Z W vo)) (he : PE X e (LE X.K X.mg Z W ve)) (hs : swapsWith e (some (.Attribute o f p1)) pos.line X.env = pure false := by rfl) :
    PS X (.Assign [.Attribute o f p1] e pos) (LS X.K X.mg Z W (vSetF c f vo ve)) :=
  PS.imp (ps_fld ho he hs) fun D σ H ⟨P, R, as, G, m, nx, rt, bk, ct, ex, r, h, k⟩ => LE.go r h (fun d v R1 H1 h1 n1 r1 d1 => LE.go r1 h1 (fun od w R2 H2 ⟨j, t, ed, eo, h2⟩ n2 r2 d2 => by
    subst ed eo
    have d1 := d1.mono n2.r
    cases d1 with
    | t rt' =>
    cases d2 with
    | loc ha =>
    rcases h2 with ⟨fs, ej, hz, h2⟩ | ⟨fs, ej, hz, h2⟩
    · obtain ⟨a, a1, a2, _⟩ := r2.sto _ _ ej
      rw [a1] at ha; cases ha
      obtain ⟨C, dx, xs, hm, hx, rx⟩ := a2
      exact ⟨_, C, dx, xs, rfl, hx, (hc C hm).1, (hc C hm).2, by rw [Paired.length rx]; exact hz, k.nx _ _ _ _ _ _ h2 (r2.put ej a1 ⟨C, dx, _, hm, upd_same, put_reps rt' rx⟩)⟩
    · obtain ⟨a, a1, a2, _⟩ := r2.sto _ _ ej
      rw [a1] at ha; cases ha
      obtain ⟨C, dx, xs, hm, hx, rx⟩ := a2
      exact ⟨_, C, dx, xs, rfl, hx, (hc C hm).1, (hc C hm).2, by rw [Paired.length rx]; exact hz, k.nx _ _ _ _ _ _ h2 (r2.put ej a1 ⟨C, dx, _, hm, upd_same, put_ch (.k rt') rx⟩)⟩) k.er) k.er
theorem look_ch {K : PySem.W.Frag} {mg : Str → Option Value} {R : Hp} {as : List Addr} {f : Str} {t : Tr} : ∀ {xs : List (Str × V)} {ts : List (Str × Tr)}, Paired (fun p q => p.1 = q.1 ∧ ChR K mg R as p.2 q.2) xs ts → ts.lookup f = some t → ∃ x, xs.lookup f = some x ∧ ChR K mg R as x t
  | _, _, .nil, h => by simp at h
  | _, _, .cons (a := p) (b := q) r s, h => by
    obtain ⟨pn, pv⟩ := p
    obtain ⟨qn, qv⟩ := q
    have en : pn = qn := r.1
    subst en
    rw [List.lookup_cons] at h ⊢
    cases z : f == pn with
    | true => rw [z] at h; cases h; exact ⟨pv, rfl, r.2⟩
    | false => rw [z] at h; exact look_ch s h
/-- e.f, of data or of an owned instance whose fields may be sites -/
def fFldX (c f : Str) (m : Sto) (d : Dv) (k : DK) : Prop := (∃ fs t, view m d = some (.ins c fs) ∧ fs.lookup f = some t ∧ k (.t t)) ∨ ∃ j fs t, d = .loc j ∧ m[j]? = some (some (.di c fs)) ∧ fs.lookup f = some t ∧ k (chD t)
abbrev vFldX (c f : Str) (e : VE) : VE := fun G m k x => e G m (fun d => fFldX c f m d k) x
theorem v_fldX (hc : ∀ C, X.mg c = some (.ref C) → Cls X.K C ∧ NoAttr X.K C f) (he : PE X e (LE X.K X.mg Z W ve)) (hb : attributeBase e f X.env (eval e X.env) = eval e X.env := by rfl) : PE X (.Attribute e f pos) (LE X.K X.mg Z W (vFldX c f ve)) :=
  PE.imp (pe_fld he hb) fun σ H Q ⟨P, R, as, G, m, k, x, r, h, n⟩ => LE.go r h (fun d v R1 H1 h1 n1 r1 d1 => by
    rcases h1 with ⟨fs, t, e1, e2, h1⟩ | ⟨j, fs, t, ed, ej, e2, h1⟩
    · obtain ⟨a, C, dx, xs, rfl, hm, ha, rx⟩ := r1.vIns d1 e1
      obtain ⟨y, q1, q2⟩ := look_pair rx e2
      exact ⟨a, C, dx, xs, y, rfl, ha, (hc C hm).1, (hc C hm).2, q1, n.ok _ _ R1 H1 h1 n1 r1 (.t q2)⟩
    · subst ed
      cases d1 with
      | loc ha =>
        obtain ⟨a, a1, a2, _⟩ := r1.sto _ _ ej
        rw [a1] at ha; cases ha
        obtain ⟨C, dx, xs, hm, hx, rx⟩ := a2
        obtain ⟨y, q1, q2⟩ := look_ch rx e2
        exact ⟨_, C, dx, xs, y, rfl, hx, (hc C hm).1, (hc C hm).2, q1, n.ok _ _ R1 H1 h1 n1 r1 (ch_D q2)⟩) n.er
end
section
variable {K : PySem.W.Frag} {mg : Str → Option Value} {Z Z' : Rsc} {W : WX} {P : Pm} {R R1 H H1 : Hp} {as : List Addr} {G : Env} {m : Sto} {σ : L2.St}
abbrev fCall (sp : VSp) (x : XK) (m : Sto) (ds : List Dv) (k : DK) : Prop := (allT ds = true ∧ sp ds (fun y => k (.t y)) x) ∨ ∃ ds', bors m ds = some ds' ∧ sp ds' (fun y => y.flat = true ∧ k (.t y)) x
/-- the end of a call: the arguments stand -/
theorem call_end {sp : VSp} {n : Nat} {ds : List Dv} {vs : List V} {k : DK} {x : XK} {Q : VK} (hZ : Z'.Z = Z.Z) (hz : Z'.n0 = 0) (hn : ∀ ds k x, sp ds k x → ds.length = n) (h1 : fCall sp x m ds k) (n1 : Nx P R H R1 H1) (r1 : Rel K mg Z P R1 as G m σ H1) (d1 : Paired (DRep K mg R1 P.hd as) vs ds) (nn : Kn K mg Z W P R as G m σ H k x Q) :
    liftS K mg Z' n sp vs H1 Q (WE W σ) := by
  have bare : ∀ Rn : Hp, Same Rn H1 → (∀ a, P.B a → Rn a = none) → Rel K mg Z' ⟨H1, Rn, fun _ => False, P.hd, P.B, []⟩ Rn [] [] [] [] H1 := fun Rn h1 h2 =>
    ⟨h1, rfl, fun i d e => by simp at e, fun j x e => by simp at e, fun j k x y a e => by simp at e, by rw [hZ]; exact r1.vol, h2, fun a o e _ _ => e, fun a e => e, fun a e => .inl e, Same.refl _, rfl, fun j hj => by omega⟩
  have back : ∀ {Rn R2 H2 : Hp}, Rel K mg Z' ⟨H1, Rn, fun _ => False, P.hd, P.B, []⟩ R2 [] [] [] [] H2 → (∀ a o, ¬ P.B a → H1 a = some o → H2 a = some o) ∧ (∀ a, H1 a ≠ none → H2 a ≠ none) ∧ Z.Z H2 P.hd P.B := fun {Rn R2 H2} q =>
    ⟨fun a o hb e => q.frame a o e (fun z => z) hb, q.dom, by rw [← hZ]; exact q.vol⟩
  rcases h1 with ⟨h1, h2⟩ | ⟨ds', h1, h2⟩
  · have fin : ∀ {R2 H2 : Hp}, Rel K mg Z' ⟨H1, R1, fun _ => False, P.hd, P.B, []⟩ R2 [] [] [] [] H2 → Nx P R1 H1 R2 H2 ∧ Rel K mg Z P R2 as G m σ H2 := fun {R2 H2} q => by
      obtain ⟨b1, b2, b3⟩ := back q
      have nx : Nx P R1 H1 R2 H2 := ⟨q.r0, b1, q.fresh, b2⟩
      exact ⟨nx, r1.step nx q.ex b3⟩
    refine ⟨by rw [Paired.length d1]; exact hn _ _ _ h2, _, R1, ds, _, x, rfl, rfl, fun _ z => z, bare R1 r1.ex r1.rb, allT_rep d1 h1, h2, fun y v R2 H2 hk q rv => ?_, fun nm cl R2 H2 a b q => ?_⟩
    · obtain ⟨nx, r2⟩ := fin q
      exact nn.ok _ _ _ _ hk (n1.trans nx) r2 (.t rv)
    · obtain ⟨nx, r2⟩ := fin q
      exact nn.er nm cl _ _ a b (n1.trans nx) r2
  · have fin : ∀ {R2 H2 : Hp}, Rel K mg Z' ⟨H1, around P H1, fun _ => False, P.hd, P.B, []⟩ R2 [] [] [] [] H2 → Nx P R1 H1 R1 H2 ∧ Rel K mg Z P R1 as G m σ H2 := fun {R2 H2} q => by
      obtain ⟨b1, b2, b3⟩ := back q
      have nx : Nx P R1 H1 R1 H2 := ⟨Same.refl _, b1, fun a e => .inl e, b2⟩
      exact ⟨nx, r1.step nx (fun a o e => b1 a o (fun b => by rw [r1.rb a b] at e; cases e) (r1.ex a o e)) b3⟩
    refine ⟨(Paired.length (bors_rep r1 d1 h1)).trans (hn _ _ _ h2), _, around P H1, ds', _, x, rfl, rfl, fun _ z => z, bare _ (around_same P H1) (fun a b => by unfold around; rw [if_pos b]), bors_rep r1 d1 h1, h2, fun y v R2 H2 hk q rv => ?_, fun nm cl R2 H2 a b q => ?_⟩
    · obtain ⟨nx, r2⟩ := fin q
      exact nn.ok _ _ _ _ hk.2 (n1.trans nx) r2 (.t (rv.flat hk.1))
    · obtain ⟨nx, r2⟩ := fin q
      exact nn.er nm cl _ _ a b (n1.trans nx) r2
end
/-! ### a method's call -/
def tMethE (C : Addr) (me : Str) (sp : Sp) (E : L2.St → L2.XK) (ta : TE) (t : TA) : TE := fun σ H Q => ta σ H fun x H1 => ∃ a dx fs, x = .ref a ∧ H1 a = some (.ins C dx fs) ∧ fs.lookup me = none ∧ t σ H1 fun vs H2 => sp (x :: vs) H2 Q (E σ)
section
open PyProof.Rows PySem.Spec
variable {X : Cx} {CX : CXT} {k : Nat} {f C : Addr} {fd : FuncData} {ps : List Str} {sp : Sp} {E : L2.St → L2.XK} {me : Str} {pos apos : Pos} {o e : Expr} {es : List Expr} {ta : TE} {t : TA}
theorem pe_methE {pl : Sem Bool} (he : PE X o ta) (c : Cls X.K C) (hm : Meth X.K C me f) (F : FnOk X.prog X.w X.K X.mg X.base CX k f fd ps sp) (hr : Room k X.A) (hb : Binds X.K fd ps []) (hx : ∀ σ, PassesAt CX X σ (E σ)) (ha : PA X (e :: es) t)
    (hst : starEach (e :: es) X.env = (false, eval e X.env) :: starEach es X.env := by rfl) (hpl : (backTo pos (starEach es X.env)).any (·.1) = false := by rfl)
    (ht : eval (.Call (.Attribute o me apos) (e :: es) [] pos) X.env = (do
      let ov ← eval o X.env
      standAt apos.atName
      let (f, first) ← holding [ov] (getMethod ov me pl)
      callWith pos f first (backTo pos (starEach (e :: es) X.env)) (backToKw pos (keywordEach [] X.env))) := by rfl) :
    PE X (.Call (.Attribute o me apos) (e :: es) [] pos) (tMethE C me sp E ta t) := by
  refine ⟨fun pins s σ H Q I h => ?_⟩
  refine PySem.W.methodCall_KW (pl := pl) (thn (he.run pins s σ H _ I h) fun u s1 ⟨x, H1, I1, rx, a, dx, fs, ex, ea, l, q⟩ => ?_) ht
  subst ex
  obtain rfl : u = Value.ref a := rx
  refine getmeth_ok I1 ea c hm l ?_
  refine PySem.W.callWith_K (first := [.ref a]) (h₀ := X.base) I.ok.mod.kin hm.kp (thn (ha.run pos pins s1 σ H1 _ I1 q) fun us s2 ⟨vs, H2, I2, r, q2⟩ => ⟨I2.kIn, ?_⟩) hst hpl
  exact run_fnS (us := .ref a :: us) (vs := .ref a :: vs) F hr hb (hx σ) I2 (.cons rfl r) q2
end
section
variable {X : Cx} {Z Z' : Rsc} {W : WX} {CX : CXT} {k : Nat} {f C : Addr} {fd : FuncData} {ps : List Str} {sp : VSp} {c me : Str} {pos apos : Pos} {o e : Expr} {es : List Expr} {vo : VE} {va : VA}
theorem look_none {α β : Type} {F : α → β → Prop} {me : Str} : ∀ {xs : List (Str × α)} {ts : List (Str × β)}, Paired (fun p q => p.1 = q.1 ∧ F p.2 q.2) xs ts → ts.lookup me = none → xs.lookup me = none
  | _, _, .nil, _ => rfl
  | _, _, .cons (a := p) (b := q) r s, h => by
    obtain ⟨pn, pv⟩ := p
    obtain ⟨qn, qv⟩ := q
    have en : pn = qn := r.1
    subst en
    rw [List.lookup_cons] at h ⊢
    cases z : me == pn with
    | true => rw [z] at h; cases h
    | false => rw [z] at h; exact look_none s h
/-- o.m(es) -/
abbrev vMeth (c me : Str) (sp : VSp) (o : VE) (es : VA) : VE := fun G m k x => o G m (fun d => ((∃ fs, view m d = some (.ins c fs) ∧ fs.lookup me = none) ∨ ∃ j fs, d = .loc j ∧ m[j]? = some (some (.di c fs)) ∧ fs.lookup me = none) ∧ es G m (fun ds => fCall sp x m (d :: ds) k) x) x
theorem v_meth {pl : Sem Bool} (hmg : X.mg c = some (.ref C)) (cl : Cls X.K C) (hm : Meth X.K C me f) (F : FnOk X.prog X.w X.K X.mg X.base CX k f fd ps (liftS X.K X.mg Z' ps.length sp)) (hZ : Z'.Z = Z.Z) (hz : Z'.n0 = 0) (hn : ∀ ds k x, sp ds k x → ds.length = ps.length) (hr : Room k X.A) (hb : Binds X.K fd ps []) (hx : ∀ σ, PassesAt CX X σ (WE W σ))
    (ho : PE X o (LE X.K X.mg Z W vo)) (ha : PA X (e :: es) (LA X.K X.mg Z W va))
    (hst : starEach (e :: es) X.env = (false, eval e X.env) :: starEach es X.env := by rfl) (hpl : (backTo pos (starEach es X.env)).any (·.1) = false := by rfl)
    (ht : eval (.Call (.Attribute o me apos) (e :: es) [] pos) X.env = (do
      let ov ← eval o X.env
      standAt apos.atName
      let (f, first) ← holding [ov] (getMethod ov me pl)
      callWith pos f first (backTo pos (starEach (e :: es) X.env)) (backToKw pos (keywordEach [] X.env))) := by rfl) :
    PE X (.Call (.Attribute o me apos) (e :: es) [] pos) (LE X.K X.mg Z W (vMeth c me sp vo va)) :=
  PE.imp (pe_methE (pl := pl) ho cl hm F hr hb hx ha hst hpl ht) fun σ H Q ⟨P, R, as, G, m, kk, x, r, h, n⟩ => LE.go r h (fun d v R1 H1 ⟨hi, h1⟩ n1 r1 d1 => by
    have key : ∃ a dx fs, v = .ref a ∧ H1 a = some (.ins C dx fs) ∧ fs.lookup me = none := by
      rcases hi with ⟨fs, e1, e2⟩ | ⟨j, fs, ed, ej, e2⟩
      · obtain ⟨a, C', dx, xs, rfl, hm', ha', rx⟩ := r1.vIns d1 e1
        rw [hmg] at hm'
        cases hm'
        exact ⟨a, dx, xs, rfl, ha', look_none rx e2⟩
      · subst ed
        cases d1 with
        | loc hl =>
          obtain ⟨a, a1, a2, _⟩ := r1.sto _ _ ej
          rw [a1] at hl; cases hl
          obtain ⟨C', dx, xs, hm', hx', rx⟩ := a2
          rw [hmg] at hm'
          cases hm'
          exact ⟨_, dx, xs, rfl, hx', look_none rx e2⟩
    obtain ⟨a, dx, fs, ev, hH, hl⟩ := key
    refine ⟨a, dx, fs, ev, hH, hl, LA.go r1 h1 (fun ds vs R2 H2 h2 n2 r2 d2 => ?_) fun nm cl R' H' a b c d => n.er nm cl R' H' a b (n1.trans c) d⟩
    exact call_end hZ hz hn h2 (n1.trans n2) r2 (.cons (d1.mono n2.r) d2) n) n.er
end
end VL

/-! VL, part MB: defs that are entered with no guard on the way (for repr of nested data). -/
namespace VL
open PySem L2 PySem.Spec PyProof.Rows

/-- a def's promise where no guard stands -/
structure FnG (Pg : Program) (w : World) (K : PySem.W.Frag) (mg : Str → Option Value) (base : Heap) (cx : CXT) (k : Nat) (f : Addr) (fd : FuncData) (ps : List Str) (sp : Sp) : Prop where
  lens : ∀ vs H Q E, sp vs H Q E → vs.length = ps.length
  go : ∀ (B : Around) (out : List PySem.Env) (s : Shared) (H : Hp) (as : Args) (us : List Value) (vs : List V) (Q : VK) (E : L2.XK), B.guards = some [] → Room k B → Env0 Pg w K mg base B out s H → BindsTo s fd as (ps.zip us) → Vals vs us → sp vs H Q E →
    codeAny (model Pg w) B (.call (.ref f) as) (CR cx out Pg w H s Q E) s
theorem FnG.of {Pg : Program} {w : World} {K : PySem.W.Frag} {mg : Str → Option Value} {base : Heap} {cx : CXT} {k : Nat} {f : Addr} {fd : FuncData} {ps : List Str} {sp : Sp} (F : FnOk Pg w K mg base cx k f fd ps sp) : FnG Pg w K mg base cx k f fd ps sp :=
  ⟨F.len, fun B out s H as us vs Q E _ => F.run B out s H as us vs Q E⟩
theorem FnG.imp {Pg : Program} {w : World} {K : PySem.W.Frag} {mg : Str → Option Value} {base : Heap} {cx : CXT} {k : Nat} {f : Addr} {fd : FuncData} {ps : List Str} {sp sp' : Sp} (F : FnG Pg w K mg base cx k f fd ps sp)
    (h : ∀ vs H Q E, sp' vs H Q E → sp vs H Q E) : FnG Pg w K mg base cx k f fd ps sp' :=
  ⟨fun vs H Q E q => F.lens vs H Q E (h _ _ _ _ q), fun B out s H as us vs Q E g r e b v q => F.go B out s H as us vs Q E g r e b v (h _ _ _ _ q)⟩

section
variable {Pg : Program} {w : World} {K : PySem.W.Frag} {mg : Str → Option Value} {base : Heap} {cx : CXT} {k : Nat} {f : Addr} {fd : FuncData} {N ps : List Str} {sp : Sp}
theorem FnG.body {x qual : Str} {st : Stmt} (F : Fun K x qual st f fd) (S : FnScope N ps (defScope st)) (len : ∀ vs H Q E, sp vs H Q E → vs.length = ps.length)
    (bd : ∀ (cdv : Value) (B : Around) (out : List PySem.Env) (s : Shared) (H : Hp) (vs : List V) (Q : VK) (E : L2.XK), B.guards = some [] → Room k (B.deeper (envOfC qual (defScope st) s.heap.objs.size f cdv)) → sp vs H Q E →
      ∃ t, PSs (cxOf cx Pg w K mg base N qual (defScope st) f cdv B out s H E) (defBody st) t ∧ t { nx := fun _ H' => Q .non H', rt := Q } (L2.start N vs) H) :
    FnG Pg w K mg base cx (k + 1) f fd ps sp := by
  obtain ⟨oc, od, kV, doc, pm, an, cdv, ct, osl, rfl, lk, hcd⟩ := F.ex
  constructor
  · exact len
  intro B out s H as us vs Q E hg hr e0 hb rv hq
  have hlen := len _ _ _ _ hq
  have inK : K.In s.heap := e0.mod.kin.keeps fun b o e => (e0.bs b o e).1
  have noL : s.heap.NoLimit := e0.mod.nolimit.keeps fun b o e => (e0.bs b o e).1
  refine codeAny_call_function hr.depth (inK _ _ lk) rfl S.co S.gen rfl (PySem.W.codeRec_of inK hcd) (hb _ _ _ _ ?_)
  refine wpAny_newFunctionEnv_cells S.kind (fun p hp => ?_) fun ev he s1 x => ?_
  · obtain ⟨n, v⟩ := p
    rcases S.par n (List.of_mem_zip hp).1 with q | q
    · exact .inl q
    · exact .inr ⟨q, PySem.W.cellsFrom_some _ _ _ (.inl q)⟩
  · subst he
    refine ⟨noL.keeps x.toInCall.keep, codeAny_func ?_⟩
    obtain ⟨t, ht, h2⟩ := bd cdv B out s H vs Q E hg (hr.deeper _) hq
    have I0 : Inv (cxOf cx Pg w K mg base N qual (defScope st) f cdv B out s H E) [] (L2.start N vs) H s1 := inv_start S hr.hd e0 hlen rv x
    refine wpAny_mono (ht.run [] s1 (L2.start N vs) H _ I0 h2) (fun fl s' hs => ?_) fun e s' hs => hs
    cases fl with
    | brk => obtain ⟨_, _, _, z⟩ := hs; exact z.elim
    | cont => obtain ⟨_, _, _, z⟩ := hs; exact z.elim
    | ret u =>
      obtain ⟨v, σ', H', J, r2, q⟩ := hs
      exact ⟨v, H', J.os, J.bare, J.base, J.hok, r2, q⟩
    | next =>
      obtain ⟨σ', H', J, q⟩ := hs
      exact ⟨V.non, H', J.os, J.bare, J.base, J.hok, rfl, q⟩
end

section
variable {X : Cx} {cx : CXT} {k : Nat} {f : Addr} {fd : FuncData} {ps : List Str} {sp : Sp} {E : L2.St → L2.XK} {x : Str} {p pos : Pos} {e : Expr} {es : List Expr} {t : TA}
theorem FnG.call (F : FnG X.prog X.w X.K X.mg X.base cx k f fd ps sp) (hA : X.A.guards = some []) (hr : Room k X.A) (hg : Gl X x) (hm : X.mg x = some (.ref f)) (hk : PySem.W.keepIn X.K (.ref f) = true) (hb : Binds X.K fd ps []) (hx : ∀ σ, PassesAt cx X σ (E σ))
    (ha : PA X (e :: es) t) (hdb : (x == ("__debug__" : Str)) = false := by decide) (he : starEach (e :: es) X.env = (false, eval e X.env) :: starEach es X.env := by rfl) (hpl : (backTo pos (starEach es X.env)).any (·.1) = false := by rfl) :
    PE X (.Call (.Name x p) (e :: es) [] pos) (tCallS sp E t) := by
  constructor
  intro pins s σ H Q I h
  refine wpAny_Call_Name_kw (ld_glob I hg hm ?_ hdb)
  refine PySem.W.callWith_K (h₀ := X.base) I.ok.mod.kin hk (thn (ha.run pos pins s σ H _ I h) fun us s1 hh => ?_) he hpl
  obtain ⟨vs, H1, I1, r, q⟩ := hh
  refine ⟨I1.kIn, ?_⟩
  have hl : us.length = ps.length := (r.length).symm.trans (F.lens _ _ _ _ q)
  have b := hb s1 us I1.kIn (by rw [List.append_nil]; exact hl)
  rw [List.append_nil] at b
  refine wpAny_call (codeAny_mono (F.go X.A X.stack s1 H1 ⟨us, []⟩ us vs Q (E σ) hA hr I1.env0 b r q) fun r s' hq => ?_)
  cases r with
  | error ev => exact hx σ pins H1 s1 ev s' I1 hq
  | ok fl =>
    cases fl with
    | next => exact hq.elim
    | brk => exact hq.elim
    | cont => exact hq.elim
    | ret u => exact I1.after hq
end

/-- as L2.law_call, at a law that is entered with no guard -/
theorem FnG.law {Pg : Program} {w : World} {K : PySem.W.Frag} {mg mb : Str → Option Value} {cx : CXT} {k : Nat} {fa a : Addr} {fd : FuncData} {x : Str} {sp : Sp} {s₁ : Shared} {vs : List Value} {ns : List Int}
    (inK : K.In s₁.heap) (hns : s₁.heap.Ns mainGlobals mg) (hb : s₁.heap.Ns builtinsNs mb) (hbb : ∀ x : Str, x ≠ "__name__" → mb x = bootBuiltins x) (hlim : s₁.heap.NoLimit) (hg : s₁.gens = #[])
    (ha : s₁.heap.get? a = some { cls := .type "list", data := .seq vs.toArray }) (hi : IntsAre vs ns) (hl : ns.length ≤ sizeLine) (hr : Room k callerA)
    (F : ∀ base : Heap, K.In base → base.Ns mainGlobals mg → FnG Pg w K mg base cx k fa fd [x] sp) (bnd : ∀ (s : Shared) (u : Value), BindsTo s fd ⟨[u], []⟩ [(x, u)])
    (hsp : ∀ H : Hp, Only H → SqL K H a (ns.map V.int) → sp [.ref a] H (fun v _ => v = .bl true) fun _ _ _ => False)
    (hcx : ∀ H e s', cx [] H s₁ (fun _ _ _ => False) e s' → False) :
    codeAny (model Pg w) callerA (.call (.ref fa) ⟨[.ref a], []⟩) (fun r s' => r = .ok (.ret (.bool true)) ∧ OldK s₁.heap s'.heap ∧ s'.os = s₁.os ∧ AllBare s'.gens) s₁ := by
  have rvs := vals_ints hi
  have core : ∀ H : Hp, Only H → SqL K H a (ns.map V.int) → HOk Pg w H s₁.heap → (∀ b, H b ≠ none → b = a) → (H a ≠ none → K.lookup a = none) →
      codeAny (model Pg w) callerA (.call (.ref fa) ⟨[.ref a], []⟩) (fun r s' => r = .ok (.ret (.bool true)) ∧ OldK s₁.heap s'.heap ∧ s'.os = s₁.os ∧ AllBare s'.gens) s₁ := fun H hO hS hok hA hK => by
    have gt : ∀ {b : Addr} {o : Obj}, s₁.heap.get? b = some o → H b = none → (hidT s₁.heap H).get? b = some o := fun e n => hidT_get e n
    have nodict : ∀ {b : Addr} {o : Obj} {es : Array DictEntry} {ep : Nat}, s₁.heap.get? b = some o → o.data = .dict es ep → H b = none := by
      intro b o es ep e d
      cases q : H b with
      | none => rfl
      | some u =>
        obtain rfl : b = a := hA b (by rw [q]; simp)
        rw [ha] at e
        cases e
        cases (show Data.seq vs.toArray _ = Data.dict es ep from d)
    have ns' : ∀ {b : Addr} {m : Str → Option Value}, s₁.heap.Ns b m → (hidT s₁.heap H).Ns b m := by
      intro b m ⟨o, es, ep, e, d, r⟩
      exact ⟨o, es, ep, gt e (nodict e d), d, r⟩
    have kb : K.In (hidT s₁.heap H) := by
      intro b o e
      refine gt (inK b o e) ?_
      cases q : H b with
      | none => rfl
      | some u =>
        obtain rfl : b = a := hA b (by rw [q]; simp)
        rw [hK (by rw [q]; simp)] at e
        cases e
    have md : Mod K mg (hidT s₁.heap H) := by
      refine ⟨kb, ns' hns, ⟨mb, ns' hb, hbb⟩, ?_⟩
      obtain ⟨mc, h1, h2⟩ := hlim
      exact ⟨mc, ns' h1, h2⟩
    have e0 : Env0 Pg w K mg (hidT s₁.heap H) callerA [] s₁ H := by
      refine ⟨rfl, md, fun b o e => of_hidT e, Nat.le_of_eq (hidT_size _ _), trivial, fun b hb => ?_, hok, .of_eq hg⟩
      exact absurd (show b ∈ ([] : List Addr) from hb) (by simp)
    refine codeAny_mono ((F _ kb (ns' hns)).go callerA [] s₁ H ⟨[.ref a], []⟩ [.ref a] [.ref a] _ _ rfl hr e0 (bnd s₁ (.ref a)) (.cons rfl .nil) (hsp H hO hS)) fun r s' h => ?_
    cases r with
    | error e => exact (hcx H e s' h).elim
    | ok fl =>
      cases fl with
      | next => exact h.elim
      | brk => exact h.elim
      | cont => exact h.elim
      | ret u =>
        obtain ⟨v, H', os, bare, un, hok', r', q⟩ := h
        obtain rfl : v = .bl true := q
        obtain rfl : u = Value.bool true := r'
        refine ⟨rfl, OldK.of_keep fun b o e => ?_, os, bare⟩
        cases q : H b with
        | none => exact un.keep b o e q (fun z => absurd (show b ∈ ([] : List Addr) from z) (by simp)) (by simp)
        | some u =>
          rcases hO b with z | ⟨ob, xs, z⟩
          · rw [q] at z
            cases z
          · obtain ⟨e1, _⟩ := hok b _ z
            obtain ⟨e2, _⟩ := hok' b _ (un.frzs b ob _ z)
            rw [e] at e1
            cases e1
            exact e2
  cases hk : K.lookup a with
  | some o =>
    have e := inK a o hk
    rw [ha] at e
    cases e
    refine core (fun _ => none) (fun _ => .inl rfl) (.inr ⟨_, vs.toArray, _, hk, rfl, rfl, rfl, ?_, ?_⟩) (fun b u z => ?_) (fun b z => absurd rfl z) fun z => absurd rfl z
    · rw [List.size_toArray, hi.length]
      exact hl
    · simpa using rvs
    · cases (show (none : Option HO) = some u from z)
  | none =>
    refine core (fun b => if b = a then some (.frz { cls := .type "list", data := .seq vs.toArray } (.lst (ns.map V.int))) else none) (fun b => ?_) (.inl (.inr ⟨{ cls := .type "list", data := .seq vs.toArray }, if_pos rfl⟩)) (fun b u z => ?_) (fun b z => ?_) fun _ => hk
    · by_cases h : b = a
      · exact .inr ⟨_, _, if_pos h⟩
      · exact .inl (if_neg h)
    · by_cases h : b = a
      · cases (if_pos h).symm.trans z
        subst h
        exact ⟨ha, by rw [List.length_map]; exact hl, vs, _, rvs, ha⟩
      · cases (if_neg h).symm.trans z
    · by_cases h : b = a
      · exact h
      · exact absurd (if_neg h) z
/-- as L2.walk_of -/
theorem FnG.walk {l : PySem.W.OpenLaw} {n k : Nat} {q : Program} {loose : List Str} {XP : (Str → Option Value) → Heap → Prop} {YP : World → Heap → Prop} {d : DefRec} {K : Params → PySem.W.Frag} {cx : World → CXT} {sp : World → Sp} {x : Str}
    (hn : l.most = some n) (hn2 : n ≤ sizeLine) (hdf : d.params.defaults = []) (hr : Room k callerA)
    (hY : ∀ (w : World) (h : Heap), YP w h → (K w.params).In h)
    (F : ∀ (w : World) (mg : Str → Option Value) (fa : Addr) (h : Heap), (K w.params).In h → h.Ns mainGlobals mg → mg d.name = some (.ref fa) →
      ∃ fd : FuncData, (∀ (s : Shared) (u : Value), BindsTo s fd ⟨[u], []⟩ [(x, u)]) ∧ ∀ base : Heap, (K w.params).In base → base.Ns mainGlobals mg → FnG l.prog w (K w.params) mg base (cx w) k fa fd [x] (sp w))
    (hsp : ∀ (w : World) (H : Hp) (a : Addr) (ns : List Int), ns.length ≤ n → Only H → SqL (K w.params) H a (ns.map V.int) → sp w [.ref a] H (fun v _ => v = .bl true) fun _ _ _ => False)
    (hcx : ∀ (w : World) (H : Hp) (s : Shared) (e : Value) (s' : Shared), cx w [] H s (fun _ _ _ => False) e s' → False) :
    PySem.W.WalkO q loose XP YP l.row.toRowW d [] (fun f vs => PySem.call f vs) := by
  refine Att.attach_call hn hdf fun w s₀ s₁ mg mb fa o pm cd doc a vs ns G Y ho hd hcd hmg hobj hints hlen hgn => ?_
  obtain ⟨fd, b, hF⟩ := F w mg fa _ (hY w _ Y) G.T.g hmg
  exact FnG.law (hY w _ Y) G.T.g G.T.b G.T.builtins G.T.nolimit hgn hobj hints (Nat.le_trans hlen hn2) hr hF b (fun H hO hS => hsp w H a ns hlen hO hS) fun H e s' => hcx w H s₁ e s'
end VL

/-! VL, part MC: repr of nested data. -/
namespace VL
open PySem L2

mutual
/-- the data that repr tells: dicts only empty ones -/
def pr : Tr → Option PyData
  | .non => some .none
  | .bl b => some (.bool b)
  | .int i => some (.int i)
  | .str x => some (.str x)
  | .lst xs => (prs xs).map .list
  | .tup xs => (prs xs).map .tuple
  | .dic [] => some (.dict [])
  | _ => none
def prs : List Tr → Option (List PyData)
  | [] => some []
  | x :: xs => (pr x).bind fun d => (prs xs).map (d :: ·)
end
def shT (x : Tr) : Str := match pr x with
  | some d => d.shown
  | none => ""
/-- it may be told: so long at most, so deep at most -/
def Sh (n k : Nat) (x : Tr) : Prop := ∃ d, pr x = some d ∧ d.showable = true ∧ d.depth ≤ k ∧ d.shown.length ≤ n
def ShL (n k : Nat) (xs : List Tr) : Prop := ∃ ds, prs xs = some ds ∧ PyData.showableAll ds = true ∧ PyData.depthAll ds ≤ k ∧ ((PyData.shownAll ds).map (·.length)).sum + 2 * ds.length ≤ n
theorem Sh.mono {n m k l : Nat} {x : Tr} (h : Sh n k x) (a : n ≤ m := by omega) (b : k ≤ l := by omega) : Sh m l x := let ⟨d, h1, h2, h3, h4⟩ := h; ⟨d, h1, h2, Nat.le_trans h3 b, Nat.le_trans h4 a⟩
theorem ShL.mono {n m k l : Nat} {x : List Tr} (h : ShL n k x) (a : n ≤ m := by omega) (b : k ≤ l := by omega) : ShL m l x := let ⟨d, h1, h2, h3, h4⟩ := h; ⟨d, h1, h2, Nat.le_trans h3 b, Nat.le_trans h4 a⟩
theorem sh_non : Sh 4 0 .non := ⟨.none, by unfold pr; rfl, rfl, by simp [PyData.depth], by decide +kernel⟩
theorem sh_bl (b : Bool) : Sh 5 0 (.bl b) := ⟨.bool b, by unfold pr; rfl, rfl, by simp [PyData.depth], by cases b <;> decide +kernel⟩
theorem log2_lt10 {n k : Nat} (h : n < 10 ^ k) (hk : k ≤ 400) : n.log2 < 1920 := by
  by_cases h0 : n = 0
  · subst h0; decide
  · rw [Nat.log2_lt h0]
    refine Nat.lt_of_lt_of_le h (Nat.le_trans (Nat.pow_le_pow_right (by decide) hk) (by decide +kernel))
theorem sh_int {i : Int} (k : Nat) (h : i.natAbs < 10 ^ k) (h0 : 0 < k := by decide) (hk : k ≤ 400 := by decide) : Sh (k + 1) 0 (.int i) :=
  ⟨.int i, by unfold pr; rfl, by simp only [PyData.showable]; exact decide_eq_true (log2_lt10 h hk), by simp [PyData.depth], by simp only [PyData.shown]; show (Str.ofString (toString i)).length ≤ _; rw [ofString_length]; exact int_text_length_le10 h0 h⟩
theorem sh_str {x : Str} {n : Nat} (h : (reprText x).length ≤ n) : Sh n 0 (.str x) := ⟨.str x, by unfold pr; rfl, rfl, by simp [PyData.depth], by simp only [PyData.shown]; exact h⟩
theorem sh_dic0 : Sh 2 1 (.dic []) := ⟨.dict [], by unfold pr; rfl, by simp [PyData.showable, PyData.showableKv], by simp [PyData.depth, PyData.depthKv], by decide +kernel⟩
theorem shl_nil : ShL 0 0 [] := ⟨[], by unfold prs; rfl, rfl, by simp [PyData.depthAll], by simp [PyData.shownAll]⟩
theorem shl_cons {a b k : Nat} {x : Tr} {xs : List Tr} (h : Sh a k x) (t : ShL b k xs) : ShL (a + 2 + b) k (x :: xs) := by
  obtain ⟨d, h1, h2, h3, h4⟩ := h
  obtain ⟨ds, t1, t2, t3, t4⟩ := t
  refine ⟨d :: ds, by unfold prs; rw [h1, t1]; rfl, by simp [PyData.showableAll, h2, t2], by simp only [PyData.depthAll]; omega, ?_⟩
  simp only [PyData.shownAll, List.map_cons, List.sum_cons, List.length_cons]
  omega
theorem sh_lst {n k : Nat} {xs : List Tr} (h : ShL n k xs) : Sh (n + 3) (k + 1) (.lst xs) := by
  obtain ⟨ds, h1, h2, h3, h4⟩ := h
  refine ⟨.list ds, by unfold pr; rw [h1]; rfl, by simpa [PyData.showable] using h2, by simp only [PyData.depth]; omega, ?_⟩
  have e := listText_len_le (PyData.shownAll ds)
  rw [PyData.shownAll_length] at e
  simp only [PyData.shown]
  omega
theorem sh_tup {n k : Nat} {xs : List Tr} (h : ShL n k xs) : Sh (n + 3) (k + 1) (.tup xs) := by
  obtain ⟨ds, h1, h2, h3, h4⟩ := h
  refine ⟨.tuple ds, by unfold pr; rw [h1]; rfl, by simpa [PyData.showable] using h2, by simp only [PyData.depth]; omega, ?_⟩
  have e := tupleText_len_le (PyData.shownAll ds)
  rw [PyData.shownAll_length] at e
  simp only [PyData.shown]
  omega
theorem shl_all {a k : Nat} : ∀ {xs : List Tr}, (∀ x ∈ xs, Sh a k x) → ShL (xs.length * (a + 2)) k xs
  | [], _ => shl_nil.mono (by simp) (by omega)
  | x :: xs, h => (shl_cons (h x List.mem_cons_self) (shl_all fun y hy => h y (List.mem_cons_of_mem _ hy))).mono (by rw [List.length_cons, Nat.succ_mul]; omega) (by omega)

section
variable {X : Cx} {pins : List (Addr × Obj)} {σ : L2.St} {H : Hp} {s : Shared}
mutual
theorem Rep.rk (I : Inv X pins σ H s) : ∀ (x : Tr) (v : V) (u : Value) (d : PyData), Rep X.K X.mg H v x → pr x = some d → RelV v u → d.showable = true → d.shown.length ≤ sizeLine →
    ∃ bs as, Reads s.heap u d as ∧ ReadAtMost s.heap d.depth bs ∧ ReprK X.prog X.w bs s.heap d.depth u d.shown
  | .non, _, _, _, h, e, r, _, _ => by
    unfold pr at e; cases e; cases h; cases r
    exact ⟨[], _, .none, (fun _ h => nomatch h), by simp only [PyData.shown]; exact .of_is ReprIs.none _ _ _⟩
  | .bl b, _, _, _, h, e, r, _, _ => by
    unfold pr at e; cases e; cases h; cases r
    exact ⟨[], _, .bool b, (fun _ h => nomatch h), by simp only [PyData.shown]; exact .of_is (ReprIs.bool b) _ _ _⟩
  | .int i, _, _, _, h, e, r, hs, _ => by
    unfold pr at e; cases e; cases h; obtain ⟨t, rfl⟩ := r
    exact ⟨[], _, .int i t, (fun _ h => nomatch h), by simp only [PyData.shown]; exact .of_is (ReprIs.int t (by simpa [PyData.showable] using hs)) _ _ _⟩
  | .str x, _, _, _, h, e, r, _, hz => by
    unfold pr at e; cases e; cases h; obtain ⟨t, rfl⟩ := r
    exact ⟨[], _, .str x t, (fun _ h => nomatch h), by simp only [PyData.shown]; exact .of_is (ReprIs.str x t (by simpa only [PyData.shown] using hz)) _ _ _⟩
  | .lst ts, v, u, d, h, e, r, hs, hz => by
    unfold pr at e
    cases q : prs ts with
    | none => rw [q] at e; cases e
    | some ds =>
      rw [q] at e; cases e
      obtain ⟨a, xs, rfl, h1, h2⟩ := h.lst_inv
      obtain rfl : u = Value.ref a := r
      obtain ⟨_, its, n, hv, ea⟩ := (show ObjOk X.prog X.w H s.heap a (.lst xs) from I.hok a _ h1)
      have hz' : (listText (PyData.shownAll ds)).length ≤ sizeLine := by simpa only [PyData.shown] using hz
      obtain ⟨bs, as, k1, k2, k3⟩ := Rep.rks I ts xs its ds h2 q hv (by simpa [PyData.showable] using hs) fun t ht => Nat.le_trans (listText_mem_le ht) hz'
      have rd : Reads s.heap (.ref a) (.list ds) (a :: as) := .list ea rfl rfl (by simpa using k1)
      have na : a ∉ bs := not_mem_of_deeper rd (by simp only [PyData.depth]; omega) k2
      refine ⟨a :: bs, _, rd, ReadAtMost.cons rd (by simp only [PyData.depth]; omega) k2, ?_⟩
      simp only [PyData.depth, PyData.shown]
      cases its with
      | nil =>
        cases k1
        simp only [PyData.shownAll, listText_nil]
        exact ReprK.listEmpty ea rfl rfl
      | cons y l => exact ReprK.list ea rfl rfl na (by simpa using k3.length_eq) (fun i y e => k3.item i y (by simpa using e))
  | .tup ts, v, u, d, h, e, r, hs, hz => by
    unfold pr at e
    cases q : prs ts with
    | none => rw [q] at e; cases e
    | some ds =>
      rw [q] at e; cases e
      obtain ⟨a, xs, rfl, h1, h2⟩ := h.tup_inv
      obtain rfl : u = Value.ref a := r
      obtain ⟨_, its, hv, o, ea, hc, n, hd⟩ := (show ObjOk X.prog X.w H s.heap a (.tup xs) from I.hok a _ h1)
      have hz' : (tupleText (PyData.shownAll ds)).length ≤ sizeLine := by simpa only [PyData.shown] using hz
      obtain ⟨bs, as, k1, k2, k3⟩ := Rep.rks I ts xs its ds h2 q hv (by simpa [PyData.showable] using hs) fun t ht => Nat.le_trans (tupleText_mem_le ht) hz'
      have rd : Reads s.heap (.ref a) (.tuple ds) as := .tuple ea hc hd (by simpa using k1)
      have na : a ∉ bs := not_mem_of_deeper rd (by simp only [PyData.depth]; omega) k2
      refine ⟨a :: bs, _, rd, ReadAtMost.cons rd (by simp only [PyData.depth]; omega) k2, ?_⟩
      simp only [PyData.depth, PyData.shown]
      exact ReprK.tuple ea hc hd na (by simpa using k3)
  | .dic [], v, u, d, h, e, r, hs, hz => by
    unfold pr at e; cases e
    obtain ⟨a, xs, rfl, h1, h2⟩ := h.dic_inv
    cases h2
    obtain rfl : u = Value.ref a := r
    obtain ⟨_, sm, vs, kv, o, es, ep, ea, hx, hd, _, hp, _⟩ := dk_rd I.hok h1
    have ev : vs = [] := by cases kv; rfl
    subst ev
    have el : es.toList = [] := List.eq_nil_of_length_eq_zero (by rw [hp.length]; rfl)
    have rd : Reads s.heap (.ref a) (.dict []) (a :: [] ++ []) := .dict ea hx.1 hd (by rw [el]; exact .nil) (by rw [el]; exact .nil)
    refine ⟨[a], _, rd, ReadAtMost.cons rd (Nat.zero_le _) (fun _ h => nomatch h), ?_⟩
    simp only [PyData.depth, PyData.shown, PyData.shownKv, PyData.depthKv]
    exact ReprK.dict ea hx.1 hd sm (by simp) (by rw [el]; exact .nil)
  | .dic (_ :: _), _, _, _, _, e, _, _, _ => by unfold pr at e; cases e
  | .ty _, _, _, _, _, e, _, _, _ => by unfold pr at e; cases e
  | .cls _, _, _, _, _, e, _, _, _ => by unfold pr at e; cases e
  | .scr _, _, _, _, _, e, _, _, _ => by unfold pr at e; cases e
  | .ins _ _, _, _, _, _, e, _, _, _ => by unfold pr at e; cases e
  | .exc _, _, _, _, _, e, _, _, _ => by unfold pr at e; cases e
  | .at _, _, _, _, _, e, _, _, _ => by unfold pr at e; cases e
  | .dt _, _, _, _, _, e, _, _, _ => by unfold pr at e; cases e
  | .dl _, _, _, _, _, e, _, _, _ => by unfold pr at e; cases e
  | .di _ _, _, _, _, _, e, _, _, _ => by unfold pr at e; cases e
theorem Rep.rks (I : Inv X pins σ H s) : ∀ (ts : List Tr) (xs : List V) (us : List Value) (ds : List PyData), Reps X.K X.mg H xs ts → prs ts = some ds → Vals xs us → PyData.showableAll ds = true → (∀ t ∈ PyData.shownAll ds, t.length ≤ sizeLine) →
    ∃ bs as, ReadsAll s.heap us ds as ∧ ReadAtMost s.heap (PyData.depthAll ds) bs ∧ ReprAllK X.prog X.w bs s.heap (PyData.depthAll ds) us (PyData.shownAll ds)
  | [], _, _, _, h, e, r, _, _ => by
    unfold prs at e; cases e; cases h; cases r
    exact ⟨[], _, .nil, (fun _ h => nomatch h), by simp only [PyData.shownAll]; exact .nil⟩
  | t :: ts, _, _, ds, h, e, r, hs, hz => by
    unfold prs at e
    cases h with
    | cons h1 h2 =>
    cases r with
    | cons r1 r2 =>
    cases q : pr t with
    | none => rw [q] at e; cases e
    | some d =>
      rw [q] at e
      cases q2 : prs ts with
      | none => rw [Option.bind_some, q2] at e; cases e
      | some es =>
        rw [Option.bind_some, q2] at e; cases e
        have hs' : d.showable = true ∧ PyData.showableAll es = true := by simpa [PyData.showableAll] using hs
        obtain ⟨b1, a1, x1, x2, x3⟩ := Rep.rk I t _ _ d h1 q r1 hs'.1 (hz _ (by simp only [PyData.shownAll]; exact List.mem_cons_self))
        obtain ⟨b2, a2, y1, y2, y3⟩ := Rep.rks I ts _ _ es h2 q2 r2 hs'.2 fun t ht => hz t (by simp only [PyData.shownAll]; exact List.mem_cons_of_mem _ ht)
        refine ⟨b1 ++ b2, _, .cons x1 y1, ?_, ?_⟩
        · simp only [PyData.depthAll]
          exact (x2.mono (Nat.le_max_left _ _)).append (y2.mono (Nat.le_max_right _ _))
        · simp only [PyData.depthAll, PyData.shownAll]
          exact .cons ((x3.more fun b hb => List.mem_append_left _ hb).level_le (Nat.le_max_left _ _)) (y3.more_le (fun b hb => List.mem_append_right _ hb) (Nat.le_max_right _ _))
end
end

section
variable {X : Cx}
/-- repr of data -/
theorem call_reprD (hA : X.A.guards = some []) (hu : X.A.units + 64 < cLine) : CallR X (.builtin "repr") (fun xs H Q => ∃ v x d, xs = [v] ∧ Rep X.K X.mg H v x ∧ pr x = some d ∧ d.showable = true ∧ d.depth ≤ 40 ∧ d.shown.length ≤ sizeLine ∧ Q (.str d.shown) H) := by
  intro pins s σ H xs us Q I r h
  obtain ⟨v, x, d, rfl, rp, e, hs, hd, hz, q⟩ := h
  obtain ⟨u, rfl, ru⟩ := vals1 r
  have fin : ∀ (h' : Heap) (u : Tok) (tk : Nat), (∀ b o, s.heap.get? b = some o → h'.get? b = some o) → EP X pins σ Q (.str d.shown u) { s with heap := h', toks := tk } := fun h' u tk hk => ⟨.str _, H, I.kept hk, ⟨_, rfl⟩, q⟩
  cases x with
  | non =>
    unfold pr at e; cases e; cases rp; cases ru
    simp only [PyData.shown] at fin
    exact P.repr_of_none (fin s.heap _ _ fun _ _ e => e)
  | bl b =>
    unfold pr at e; cases e; cases rp; cases ru
    simp only [PyData.shown] at fin
    exact P.repr_of_bool (fin s.heap _ _ fun _ _ e => e)
  | int i =>
    unfold pr at e; cases e; cases rp; obtain ⟨t, rfl⟩ := ru
    simp only [PyData.shown] at fin
    exact P.repr_of_int (by simpa [PyData.showable] using hs) (fin s.heap _ _ fun _ _ e => e)
  | str y =>
    unfold pr at e; cases e; cases rp; obtain ⟨t, rfl⟩ := ru
    simp only [PyData.shown] at fin hz
    exact P.repr_of_str (fin s.heap _ _ fun _ _ e => e) hz
  | lst ts =>
    unfold pr at e
    cases qp : prs ts with
    | none => rw [qp] at e; cases e
    | some ds =>
      rw [qp] at e; cases e
      obtain ⟨a, xs, rfl, h1, h2⟩ := rp.lst_inv
      obtain rfl : u = Value.ref a := ru
      obtain ⟨_, its, n, hv, ea⟩ := (show ObjOk X.prog X.w H s.heap a (.lst xs) from I.hok a _ h1)
      have hz' : (listText (PyData.shownAll ds)).length ≤ sizeLine := by simpa only [PyData.shown] using hz
      obtain ⟨bs, as, k1, k2, k3⟩ := Rep.rks I ts xs its ds h2 qp hv (by simpa [PyData.showable] using hs) fun t ht => Nat.le_trans (listText_mem_le ht) hz'
      have rd : Reads s.heap (.ref a) (.list ds) (a :: as) := .list ea rfl rfl (by simpa using k1)
      have na : a ∉ bs := not_mem_of_deeper rd (by simp only [PyData.depth]; omega) k2
      simp only [PyData.shown] at fin
      simp only [PyData.depth] at hd
      have ty : s.TypeIs (.ref a) "list" := ⟨_, ea, rfl⟩
      refine call_repr_slot (by omega) ty F.slot_list_repr.toG ?_
      cases its with
      | nil =>
        cases k1
        simp only [PyData.shownAll, listText_nil] at fin
        exact call_list_repr_empty ty ea rfl ⟨_, _, rfl, fin s.heap _ _ fun _ _ e => e⟩
      | cons y l => exact call_list_reprK ea rfl rfl na (by simpa using k3.length_eq) (fun i y e => k3.item i y (by simpa using e)) hA (fun b _ => Clear.nil b) (by show X.A.units + 1 + _ < _; omega) (fun _ _ e => e) (fun h' u tk hk => ⟨_, _, rfl, fin h' u tk hk⟩) hz'
  | tup ts =>
    unfold pr at e
    cases qp : prs ts with
    | none => rw [qp] at e; cases e
    | some ds =>
      rw [qp] at e; cases e
      obtain ⟨a, xs, rfl, h1, h2⟩ := rp.tup_inv
      obtain rfl : u = Value.ref a := ru
      obtain ⟨_, its, hv, o, ea, hc, n, hdt⟩ := (show ObjOk X.prog X.w H s.heap a (.tup xs) from I.hok a _ h1)
      have hz' : (tupleText (PyData.shownAll ds)).length ≤ sizeLine := by simpa only [PyData.shown] using hz
      obtain ⟨bs, as, k1, k2, k3⟩ := Rep.rks I ts xs its ds h2 qp hv (by simpa [PyData.showable] using hs) fun t ht => Nat.le_trans (tupleText_mem_le ht) hz'
      have rd : Reads s.heap (.ref a) (.tuple ds) as := .tuple ea hc hdt (by simpa using k1)
      have na : a ∉ bs := not_mem_of_deeper rd (by simp only [PyData.depth]; omega) k2
      simp only [PyData.shown] at fin
      simp only [PyData.depth] at hd
      refine call_repr_slot (by omega) (T := "tuple") ⟨_, ea, hc⟩ F.slot_tuple_repr ?_
      exact call_tuple_reprK ea hc hdt na (by simpa using k3) hA (fun b _ => Clear.nil b) (by show X.A.units + 1 + _ < _; omega) (fun _ _ e => e) (fun h' u tk hk => ⟨_, _, rfl, fin h' u tk hk⟩) hz'
  | dic kvs =>
    cases kvs with
    | cons _ _ => unfold pr at e; cases e
    | nil =>
      unfold pr at e; cases e
      obtain ⟨a, xs, rfl, h1, h2⟩ := rp.dic_inv
      cases h2
      obtain rfl : u = Value.ref a := ru
      obtain ⟨_, sm, vs, kv, o, es, ep, ea, hx, hdt, _, hp, _⟩ := dk_rd I.hok h1
      have ev : vs = [] := by cases kv; rfl
      subst ev
      have el : es.toList = [] := List.eq_nil_of_length_eq_zero (by rw [hp.length]; rfl)
      simp only [PyData.shown, PyData.shownKv] at fin hz
      simp only [PyData.depth, PyData.depthKv] at hd
      refine call_repr_slot (by omega) (T := "dict") ⟨_, ea, hx.1⟩ F.slot_dict_repr ?_
      exact call_dict_reprK (as := []) (d := 0) (ps := []) ea hx.1 hdt sm (by simp) (by rw [el]; exact .nil) hA (fun b _ => Clear.nil b) (by show X.A.units + 1 + _ < _; omega) (fun _ _ e => e) (fun h' u tk hk => ⟨_, _, rfl, fin h' u tk hk⟩) hz
  | _ => unfold pr at e; cases e
end
section
variable {K : PySem.W.Frag} {mg : Str → Option Value}
def fRepr : OC := fun m ds k => ∃ d x, ds = [d] ∧ viewD m d = some x ∧ Sh sizeLine 40 x ∧ k (.t (.str (shT x)))
theorem lo_repr : LoC K mg (fun xs H Q => ∃ v x d, xs = [v] ∧ Rep K mg H v x ∧ pr x = some d ∧ d.showable = true ∧ d.depth ≤ 40 ∧ d.shown.length ≤ sizeLine ∧ Q (.str d.shown) H) fRepr := by
  rintro Z P R as G m σ H vs ds k Q r h ⟨d, x, rfl, e, ⟨p, h1, h2, h3, h4⟩, q⟩ n
  obtain ⟨v, rfl, h5⟩ := pone h
  refine ⟨v, x, p, rfl, r.repD h5 e, h1, h2, h3, h4, n (.t (.str p.shown)) _ R H ?_ .refl r (.t (.str _))⟩
  unfold shT at q
  rw [h1] at q
  exact q
end
section
variable {X : Cx} {Z : Rsc} {W : WX} {e : Expr} {es : List Expr} {va : VA} {p pos : Pos}
theorem v_repr (hA : X.A.guards = some []) (hu : X.A.units + 64 < cLine) (hg : Gl X "repr") (hm : X.mg "repr" = none) (h : PA X (e :: es) (LA X.K X.mg Z W va)) (he : starEach (e :: es) X.env = (false, eval e X.env) :: starEach es X.env := by rfl) (hpl : (backTo pos (starEach es X.env)).any (·.1) = false := by rfl) :
    PE X (.Call (.Name "repr" p) (e :: es) [] pos) (LE X.K X.mg Z W (vCB fRepr va)) := v_callB (call_reprD hA hu) lo_repr hg hm (by decide +kernel) h (by decide) (by decide) he hpl
end
theorem sp_repr {m : Sto} {d : Dv} {x : Tr} {k : DK} (e : viewD m d = some x) (h : Sh sizeLine 40 x) (q : k (.t (.str (shT x)))) : fRepr m [d] k := ⟨d, x, rfl, e, h, q⟩
end VL

/-! VL, part MD: == [] of any list; defs entered with no guard, by values. -/
namespace VL
open PySem L2

section
variable {X : Cx}
def rEqN (ng : Bool) : R2 := fun x y H Q => ∃ a b xs, x = .ref a ∧ y = .ref b ∧ H a = some (.lst xs) ∧ H b = some (.lst []) ∧ Q (.bl (ng != xs.isEmpty)) H
theorem op_eqN (hu : X.A.units + 64 < cLine) : OpR X (compareOp .Eq) (rEqN false) := by
  intro pins s σ H x y v u Q I rx ry h
  obtain ⟨a, b, xs, rfl, rfl, ha, hb, q⟩ := h
  cases xs with
  | nil => exact op_eqD hu pins s σ H _ _ v u Q I rx ry ⟨.list [], .list [], .lst (.of ha) .nil, .lst (.of hb) .nil, rfl, rfl, q⟩
  | cons z zs =>
    obtain rfl : v = Value.ref a := rx
    obtain rfl : u = Value.ref b := ry
    obtain ⟨_, its, n, hv, e⟩ := (show ObjOk X.prog X.w H s.heap a (.lst (z :: zs)) from I.hok a _ ha)
    obtain ⟨_, its2, n2, hv2, e2⟩ := (show ObjOk X.prog X.w H s.heap b (.lst []) from I.hok b _ hb)
    cases hv2
    cases hv with
    | cons _ _ => exact SeqAt.eq_list_lengthsAt ⟨_, e, rfl, _, rfl⟩ ⟨_, e2, rfl, _, rfl⟩ (by simp) (by omega) ⟨.bl _, H, I, rfl, q⟩
theorem op_neN (hu : X.A.units + 64 < cLine) : OpR X (compareOp .NotEq) (rEqN true) := by
  intro pins s σ H x y v u Q I rx ry h
  obtain ⟨a, b, xs, rfl, rfl, ha, hb, q⟩ := h
  cases xs with
  | nil => exact op_neD hu pins s σ H _ _ v u Q I rx ry ⟨.list [], .list [], .lst (.of ha) .nil, .lst (.of hb) .nil, rfl, rfl, q⟩
  | cons z zs =>
    obtain rfl : v = Value.ref a := rx
    obtain rfl : u = Value.ref b := ry
    obtain ⟨_, its, n, hv, e⟩ := (show ObjOk X.prog X.w H s.heap a (.lst (z :: zs)) from I.hok a _ ha)
    obtain ⟨_, its2, n2, hv2, e2⟩ := (show ObjOk X.prog X.w H s.heap b (.lst []) from I.hok b _ hb)
    cases hv2
    cases hv with
    | cons _ _ => exact SeqAt.RcNeAt.lists_lengths ⟨_, e, rfl, _, rfl⟩ ⟨_, e2, rfl, _, rfl⟩ (by simp) (by omega) X.prog X.w _ _ ⟨.bl _, H, I, rfl, q⟩
end
section
variable {K : PySem.W.Frag} {mg : Str → Option Value}
def fEqN : O2 := fun m d e k => ∃ ts, view m d = some (.lst ts) ∧ view m e = some (.lst []) ∧ k (.t (.bl ts.isEmpty))
def fNeN : O2 := fun m d e k => ∃ ts, view m d = some (.lst ts) ∧ view m e = some (.lst []) ∧ k (.t (.bl (!ts.isEmpty)))
theorem lo_eqN : Lo2 K mg (rEqN false) fEqN := by
  rintro Z P R as G m σ H v w d e k Q r h1 h2 ⟨ts, e1, e2, q⟩ n
  obtain ⟨a, xs, rfl, ha, ra⟩ := r.vLst h1 e1
  obtain ⟨b, ys, rfl, hb, rb⟩ := r.vLst h2 e2
  cases rb
  have el : xs.isEmpty = ts.isEmpty := by cases ra <;> rfl
  refine ⟨a, b, xs, rfl, rfl, ha, hb, n (.t (.bl ts.isEmpty)) _ R H q .refl r (.t ?_)⟩
  rw [el]
  cases ts.isEmpty <;> exact .bl _
theorem lo_neN : Lo2 K mg (rEqN true) fNeN := by
  rintro Z P R as G m σ H v w d e k Q r h1 h2 ⟨ts, e1, e2, q⟩ n
  obtain ⟨a, xs, rfl, ha, ra⟩ := r.vLst h1 e1
  obtain ⟨b, ys, rfl, hb, rb⟩ := r.vLst h2 e2
  cases rb
  have el : xs.isEmpty = ts.isEmpty := by cases ra <;> rfl
  refine ⟨a, b, xs, rfl, rfl, ha, hb, n (.t (.bl (!ts.isEmpty))) _ R H q .refl r (.t ?_)⟩
  rw [el]
  cases ts.isEmpty <;> exact .bl _
end
section
variable {X : Cx} {Z : Rsc} {W : WX} {a b : Expr} {ea eb : VE} {pos : Pos} {k : Nat}
theorem v_eqN (hr : Room k X.A) (ha : PE X a (LE X.K X.mg Z W ea)) (hb : PE X b (LE X.K X.mg Z W eb)) : PE X (.Compare a [.Eq] [b] pos) (LE X.K X.mg Z W (vOp fEqN ea eb)) := v_cmp (op_eqN hr.units) lo_eqN ha hb (nomark _)
theorem v_neN (hr : Room k X.A) (ha : PE X a (LE X.K X.mg Z W ea)) (hb : PE X b (LE X.K X.mg Z W eb)) : PE X (.Compare a [.NotEq] [b] pos) (LE X.K X.mg Z W (vOp fNeN ea eb)) := v_cmp (op_neN hr.units) lo_neN ha hb (nomark _)
theorem vt_eqN (hr : Room k X.A) (ha : PE X a (LE X.K X.mg Z W ea)) (hb : PE X b (LE X.K X.mg Z W eb)) : PT X (.Compare a [.Eq] [b] pos) (LT X.K X.mg Z W (vtB (vOp fEqN ea eb))) := vt_cmp (op_eqN hr.units) lo_eqN ha hb (nomark _)
theorem vt_neN (hr : Room k X.A) (ha : PE X a (LE X.K X.mg Z W ea)) (hb : PE X b (LE X.K X.mg Z W eb)) : PT X (.Compare a [.NotEq] [b] pos) (LT X.K X.mg Z W (vtB (vOp fNeN ea eb))) := vt_cmp (op_neN hr.units) lo_neN ha hb (nomark _)
end
theorem sp_eqN {m : Sto} {d e : Dv} {ts : List Tr} {k : DK} (h1 : view m d = some (.lst ts)) (h2 : view m e = some (.lst [])) (q : k (.t (.bl ts.isEmpty))) : fEqN m d e k := ⟨ts, h1, h2, q⟩
theorem sp_neN {m : Sto} {d e : Dv} {ts : List Tr} {k : DK} (h1 : view m d = some (.lst ts)) (h2 : view m e = some (.lst [])) (q : k (.t (.bl (!ts.isEmpty)))) : fNeN m d e k := ⟨ts, h1, h2, q⟩

/-! ### defs that are entered with no guard -/
section
variable {Pg : Program} {w : World} {K : PySem.W.Frag} {mg : Str → Option Value} {base : Heap}
theorem fun_SG {x qual : Str} {st : Stmt} {f : Addr} {fd : FuncData} {N ps : List Str} {k : Nat} (Z : Rsc) (hz : Z.n0 = 0) {sp : VSp} {u : VS} (nst : Nat) (F : Fun K x qual st f fd) (S : FnScope N ps (defScope st))
    (body : ∀ (cdv : Value) (A : Around) (outer : List PySem.Env) (s : Shared) (H : Hp) (E : L2.XK), A.guards = some [] → Room k (A.deeper (PyProof.Rows.envOfC qual (defScope st) s.heap.objs.size f cdv)) →
      PSs (cxOf CX0 Pg w K mg base N qual (defScope st) f cdv A outer s H E).nox (defBody st) (LS K mg Z W0 u))
    (hu : ∀ ds k x, ds.length = ps.length → sp ds k x → u (fun _ _ => k .non) (fun d _ => ∃ y, d = .t y ∧ k y) (fun _ _ => False) (fun _ _ => False) (fun _ _ _ => False) (startG N ds) (blank nst)) :
    FnG Pg w K mg base CX0 (k + 1) f fd ps (liftS K mg Z ps.length sp) := by
  have hpl : ps.length ≤ N.length := by have := congrArg List.length S.pre; rw [List.length_take] at this; omega
  refine FnG.body F S (fun vs H Q E h => h.1) (fun cdv A outer s H vs Q E hA hr h => ⟨_, (body cdv A outer s H E hA hr).nox, ?_⟩)
  obtain ⟨hl, P, R, ds, k, x, e0, e1, e2, r, rv, hs, hq, he⟩ := h
  refine ⟨P, R, _, startG N ds, blank nst, _, _, _, _, _, r.begin nst hz rv (by omega), hu ds k x (by rw [← Paired.length rv]; exact hl) hs, ?_⟩
  exact ⟨fun G m R as σ H' a b => hq .non .non R H' a (b.bare hz) .non, fun d m v R as G σ H' ⟨y, ed, a⟩ b c => by
    subst ed
    cases c with
    | t c => exact hq y v R H' a (b.bare hz) c, fun _ _ _ _ _ _ a _ => a, fun _ _ _ _ _ _ a _ => a, fun _ _ _ _ _ _ _ _ a => a.elim⟩
/-- all that a call of the def named x wants -/
def DfG (Pg : Program) (w : World) (K : PySem.W.Frag) (mg : Str → Option Value) (base : Heap) (CX : CXT) (k : Nat) (x : Str) (ps : List Str) (Z : Rsc) (sp : VSp) : Prop :=
  ∃ f fd, FnG Pg w K mg base CX k f fd ps (liftS K mg Z ps.length sp) ∧ mg x = some (.ref f) ∧ PySem.W.keepIn K (.ref f) = true ∧ Binds K fd ps []
end
section
variable {X : Cx} {Z Z' : Rsc} {W : WX} {CX : CXT} {k : Nat} {ps : List Str} {sp : VSp} {x : Str} {p pos : Pos} {e : Expr} {es : List Expr} {va : VA}
theorem v_callG (D : DfG X.prog X.w X.K X.mg X.base CX k x ps Z' sp) (hA : X.A.guards = some []) (hZ : Z'.Z = Z.Z) (hz : Z'.n0 = 0) (hn : ∀ ds k x, sp ds k x → ds.length = ps.length) (hr : Room k X.A) (hg : Gl X x) (hx : ∀ σ, PassesAt CX X σ (WE W σ))
    (ha : PA X (e :: es) (LA X.K X.mg Z W va)) (hdb : (x == ("__debug__" : Str)) = false := by decide) (he : starEach (e :: es) X.env = (false, eval e X.env) :: starEach es X.env := by rfl) (hpl : (backTo pos (starEach es X.env)).any (·.1) = false := by rfl) :
    PE X (.Call (.Name x p) (e :: es) [] pos) (LE X.K X.mg Z W (vCall sp va)) := by
  obtain ⟨f, fd, F, hm, hk, hb⟩ := D
  exact PE.imp (F.call hA hr hg hm hk hb hx ha hdb he hpl) (callS hZ hz hn)
end
end VL

/-! VM, part E: exceptions: raised, caught and kept. -/
namespace VL
open PySem L2

/-! ### raise C('..') -/
abbrev vRaise (nm : Str) : VS := fun _ _ _ _ ex G m => ex nm G m
section
variable {X : Cx} {Z : Rsc} {W : WX} {C : Addr} {bmB : List Value} {B newId initId : String}
theorem vs_raise {x msg : Str} {j : Nat} {p p2 p3 pos : Pos} (tk : Takes X W) (F : ExcBaseFacts B newId initId bmB) (q : PySem.W.excIn X.K C bmB newId = true) (gC : X.mg x = some (.ref C)) (kC : PySem.W.keepIn X.K (.ref C) = true) (r : Raises X (.ref C))
    (hc : X.calm = true := by rfl) (hg : Gl X x := by rfl) (hdb : (x == ("__debug__" : Str)) = false := by decide) :
    PS X (.Raise (some (.Call (.Name x p) [.Constant (.str msg) j p2] [] p3)) none pos) (LS X.K X.mg Z W (vRaise x)) :=
  PS.imp (ps_raise hc tk (pmk_own F q gC kC r hg hdb)) fun D σ H ⟨P, R, as, G, m, nx, rt, bk, ct, ex, r, h, k⟩ => k.ex x _ m R as G σ H h gC r
end

/-! ### an exception's object, tracked -/
section
variable {X : Cx} {pins : List (Addr × Obj)} {σ : L2.St} {H : Hp} {s : Shared}
theorem _root_.L2.Inv.track (I : Inv X pins σ H s) {a C : Addr} {oe : Obj} {vs : Array Value} (ha : s.heap.get? a = some oe) (hz : Zc (.ref C) none oe) (hd : oe.data = .fields vs) (na : H a = none) (n0 : X.s_0.heap.get? a = none) (nL : a ≠ X.env.locals)
    (np : ∀ p ∈ X.pn ++ pins, p.1 ≠ a) : Inv X pins σ (upd H a (ExD C a)) s where
  ok := I.ok
  os := I.os
  bare := I.bare
  base := ⟨I.base.keep, I.base.slot, fun b o e n hx => by
      rw [upd_ne fun z => by rw [z, n0] at e; cases e]
      exact I.base.free b o e n hx, I.base.there, fun b xs e => by
      have := I.base.tups b xs e
      rw [upd_ne (ne_of_none this na)]; exact this, fun b o u e => by
      have := I.base.frzs b o u e
      rw [upd_ne (ne_of_none this na)]; exact this, fun b ps e => by
      obtain ⟨more, this⟩ := I.base.tbls b ps e
      exact ⟨more, by rw [upd_ne (ne_of_none this na)]; exact this⟩⟩
  loc := I.loc
  cell := I.cell
  free := by rw [upd_ne (Ne.symm nL)]; exact I.free
  freeC := fun x c e => by
    rw [upd_ne fun z => ?_]
    · exact I.freeC x c e
    · obtain ⟨v, o, e1, e2⟩ := I.cell x c e
      rw [z, ha] at e1
      cases e1
      rw [hd] at e2; cases e2
  pin := fun p hp => by
    obtain ⟨e, n, r⟩ := I.pin p hp
    exact ⟨e, by rw [upd_ne (np p hp)]; exact n, r⟩
  hok := fun b o e => by
    by_cases hb : b = a
    · subst hb
      rw [upd_same] at e
      cases e
      exact ⟨⟨oe, vs, ha, hz, hd⟩, ⟨oe, ha⟩, fun h1 h2 ⟨o1, v1, e1, z1, d1⟩ k => ⟨o1, v1, k _ e1, z1, d1⟩⟩
    · rw [upd_ne hb] at e
      exact (I.hok b o e).stay (fun c v _ q => q) (fun c q => by rw [upd_ne (ne_of_none q na)]; exact q) fun c xs q => by rw [upd_ne (ne_of_none q na)]; exact q
  len := I.len
/-- into an except suite, the exception tracked -/
theorem _root_.L2.Inv.suiteK (I : Inv X pins σ H s) (a : Addr) : Inv (X.suite a (X.pn ++ pins)) [] σ H s :=
  ⟨I.ok.suite _ _, I.os, I.bare, I.base, I.loc, I.cell, I.free, I.freeC, fun p hp => I.pin p (by rw [List.append_nil] at hp; exact hp), I.hok, I.len⟩
theorem _root_.L2.Inv.unsuiteK {a : Addr} {pn' : List (Addr × Obj)} (I : Inv (X.suite a (X.pn ++ pins)) pn' σ H s) (ok : X.Ok) : Inv X pins σ H s :=
  ⟨ok, I.os, I.bare, I.base, I.loc, I.cell, I.free, I.freeC, fun p hp => I.pin p (List.mem_append_left _ hp), I.hok, I.len⟩
end

/-- what the clause wishes of an exception of the body: caught, and tracked from then on -/
def wKp (K : PySem.W.Frag) (c : Value) (i : Nat) (ts : TS) (D : Ends) : WX := fun cls d σ H =>
  ∃ C, cls = .ref C ∧ d = none ∧ PySem.W.exmOne K cls c = some true ∧ ∀ a, H a = none → ts { nx := fun σ' H' => D.nx (σ'.set i none) H', rt := D.rt, bk := fun σ' H' => D.bk (σ'.set i none) H', ct := fun σ' H' => D.ct (σ'.set i none) H' } (σ.set i (some (.ref a))) (upd H a (ExD C a))

section
variable {X : Cx} {x n : Str} {c : Value} {i : Nat} {body suite : List Stmt} {b₀ : Stmt} {np pos pos' : Pos} {tb : WX → TS} {ts : TS}
theorem ps_try_kp (hst : X.stack = X.env :: X.outer) (hf : X.env.frame = some X.env.locals) (hex : X.ex = []) (hN : X.N.Nodup) (hi : X.N[i]? = some n) (hln : X.env.kindOf n = some .local) (hc : Names X x c)
    (hb : ∀ (W : WX) (pn : List (Addr × Obj)) (xe : Value → Shared → Prop), Takes (X.tr pn xe) W → PassesOwn (model X.prog X.w) X.A X.env xe → PSs (X.tr pn xe) body (tb W))
    (hsu : ∀ (a : Addr) (pn : List (Addr × Obj)), PSs (X.suite a pn) (b₀ :: suite) ts) :
    PS X (.Try body [.ExceptHandler (some (.Name x np)) (some n) (b₀ :: suite) pos'] [] [] pos) (fun D σ H => tb (wKp X.K c i ts D) D σ H) := by
  refine ⟨fun pins s σ H D I h => ?_⟩
  have ok := I.ok
  have hfr : X.A.frames = some (X.env :: X.outer) := by rw [ok.frames, hst]
  have hloc : Loc X.env.scope n := .inl hln
  refine wpAny_Try_except ?_
  refine wpAny_mono ((hb (wKp X.K c i ts D) (X.pn ++ pins) (fun e s₁ => wpAny (model X.prog X.w) X.A (noteFrame e X.env) (fun _ s₂ => wpAny (model X.prog X.w) X.A (setFlight e none) (fun _ s₃ =>
    wpAny (model X.prog X.w) X.A (handleBy e X.env [.ExceptHandler (some (.Name x np)) (some n) (b₀ :: suite) pos']) (SP X pins D) X.xe s₃) X.xe s₂) X.xe s₁) (fun u s' xx => ?_) PassesOwn.looking).run [] s σ H D (I.toTry _) h) (fun f s1 hsp => ?_) (fun e s1 he => he)
  · obtain ⟨a, B, sI, pins', σ', H', cls, d, rfl, J', nb, up, sky, na, os, ag, C, rfl, rfl, hb1, hyes⟩ := xx
    have J : Inv X pins σ' H' sI := J'.ofTry ok
    have sky' : Sky B (X.env :: X.outer) a (Zc (.ref C) none) X.env.locals s'.heap := by rw [← hst]; exact sky
    show wpAny (model X.prog X.w) X.A (noteFrame (.ref a) X.env) _ _ _
    refine Sky.land Zc.steady hfr hf sky' fun h3 fl3 up3 => ?_
    have J3 : Inv X pins σ' H' { s' with heap := h3 } := J.landed nb fl3.1 (up.trans up3) os ag
    obtain ⟨oe3, vs3, he3, hz3, hd3⟩ := fl3.there
    have notFr : ∀ {h : Heap} {o : Obj} {vs : Array Value}, h.FunFrames B (X.env :: X.outer) → h.get? a = some o → o.data = .fields vs → a ∉ frs (X.env :: X.outer) := fun {h o vs} ff e dd hm => by
      obtain ⟨_, o', e', hnf⟩ := ff.mem hm
      rw [e] at e'; cases e'
      exact hnf _ dd
    have nfr := notFr fl3.2.2.1 he3 hd3
    have nL : a ≠ X.env.locals := fun z => nfr (List.mem_filterMap.mpr ⟨X.env, List.mem_cons_self, by rw [hf, z]⟩)
    have nfr' : a ∉ frs X.stack := by rw [hst]; exact nfr
    -- a stands not yet where the body ended
    have nB : B.get? a = none := fl3.2.1
    have nI : sI.heap.get? a = none := by
      cases q : sI.heap.get? a with
      | none => rfl
      | some o => have := nb a o q nfr'; rw [nB] at this; cases this
    have n0 : X.s_0.heap.get? a = none := by
      cases q : X.s_0.heap.get? a with
      | none => rfl
      | some o =>
        obtain ⟨o', e'⟩ := J.base.there a o q (by rw [hex]; simp)
        rw [nI] at e'; cases e'
    have npi : ∀ p ∈ X.pn ++ pins, p.1 ≠ a := fun p hp z => by
      have := (J.pin p hp).1
      rw [z, nI] at this; cases this
    refine wpAny_handleBy_cons (codeAny_handlers_test ?_) (by intro q; cases q)
    have LT : PySem.W.Looks (model X.prog X.w) h3 (typeOf (.ref a)) (.ref C) := fun A Q E s k q => wpAny_typeOf_ref (k _ _ he3) (by rw [hz3.1]; exact q)
    have LM := PySem.W.exm_one (M := model X.prog X.w) (J3.kIn) LT hb1
    have S3 := (L2.Inv.track J3 he3 hz3 hd3 na n0 nL npi).suiteK a
    have test : ∀ {Q : Value → Shared → Prop} {E : Value → Shared → Prop}, Q c { s' with heap := h3 } → wpAny (model X.prog X.w) (X.A.mark (some (.ref a))) (eval (.Name x np) X.env) Q E { s' with heap := h3 } := fun {Q E} q => by
      obtain ⟨hg, hdbg, hm | ⟨hm, hv, hnn⟩⟩ := hc
      · exact ld_glob (X := X.suite a (X.pn ++ pins)) S3 hg hm q hdbg
      · exact ld_blt (X := X.suite a (X.pn ++ pins)) S3 hg hm hv q hnn hdbg
    refine test (LM.here ?_)
    refine codeAny_handlers_suite_as ?_
    refine HandSPX.lands_againZ fl3 fun h4 fl4 up4 => ?_
    have J4 : Inv X pins σ' H' { s' with heap := h4 } := J.landed nb fl4.1 ((up.trans up3).trans up4) os ag
    obtain ⟨oe4, vs4, he4, hz4, hd4⟩ := fl4.there
    have S4 := (L2.Inv.track J4 he4 hz4 hd4 na n0 nL npi).suiteK a
    refine store_ok (X := X.suite a (X.pn ++ pins)) (v := .ref a) S4 hN hi hloc rfl (fun s5 S5 => ?_) (.inr hln)
    refine wpAny_mono ((hsu a (X.pn ++ pins)).run [] s5 _ _ _ S5 (hyes a na)) (fun f s6 hsp => ?_) (fun _ _ z => False.elim z)
    have end_ : ∀ {σ6 : L2.St} {H6 : Hp} {Q : Shared → Prop}, Inv (X.suite a (X.pn ++ pins)) [] σ6 H6 s6 → (∀ s7, Inv X pins (σ6.set i none) H6 s7 → Q s7) →
        wpAny (model X.prog X.w) X.A (do bindName X.env n .none; unbindBehindTheSuite X.env n pos') (fun _ s7 => Q s7) X.xe s6 := fun {σ6 H6 Q} S6 hq => gone_ok (S6.unsuiteK ok) hN hi hln hq
    cases f with
    | next =>
      obtain ⟨σ6, H6, S6, q6⟩ := hsp
      exact end_ S6 fun s7 J7 => ⟨_, _, J7, q6⟩
    | brk =>
      obtain ⟨σ6, H6, S6, q6⟩ := hsp
      exact end_ S6 fun s7 J7 => ⟨_, _, J7, q6⟩
    | cont =>
      obtain ⟨σ6, H6, S6, q6⟩ := hsp
      exact end_ S6 fun s7 J7 => ⟨_, _, J7, q6⟩
    | ret u =>
      obtain ⟨v6, σ6, H6, S6, r6, q6⟩ := hsp
      exact end_ S6 fun s7 J7 => ⟨_, _, _, J7, r6, q6⟩
  · cases f with
    | next =>
      obtain ⟨σ', H', J', q⟩ := hsp
      exact wpAny_execs_nil ⟨σ', H', J'.ofTry ok, q⟩
    | brk =>
      obtain ⟨σ', H', J', q⟩ := hsp
      exact ⟨σ', H', J'.ofTry ok, q⟩
    | cont =>
      obtain ⟨σ', H', J', q⟩ := hsp
      exact ⟨σ', H', J'.ofTry ok, q⟩
    | ret u =>
      obtain ⟨v, σ', H', J', r, q⟩ := hsp
      exact ⟨v, σ', H', J'.ofTry ok, r, q⟩
end

/-! ### try: body, except x as n: suite, every exception of the body caught -/
def vTry (ok : Str → Bool) (i : Nat) (body hnd : VS) : VS := fun nx rt bk ct _ G m =>
  body nx rt bk ct (fun nm G' m' => ok nm = true ∧ hnd (fun G2 m2 => nx (G2.set i none) m2) rt (fun G2 m2 => bk (G2.set i none) m2) (fun G2 m2 => ct (G2.set i none) m2) (fun _ _ _ => False) (G'.set i (some (.t (.exc nm)))) m') G m
section
variable {K : PySem.W.Frag} {mg : Str → Option Value} {Z : Rsc} {P : Pm} {R H : Hp} {as : List Addr} {G : Env} {m : Sto} {σ : L2.St}
/-- a name goes -/
theorem Rel.goes (r : Rel K mg Z P R as G m σ H) (i : Nat) : Rel K mg Z P R as (G.set i none) m (σ.set i none) H :=
  { r with
    len := by rw [List.length_set, List.length_set]; exact r.len
    env := fun i' d e => by
      by_cases hi : i = i'
      · subst hi
        by_cases hl : i < G.length
        · rw [List.getElem?_set_self hl] at e; cases e
        · rw [List.getElem?_eq_none (by rw [List.length_set]; omega)] at e; cases e
      · rw [List.getElem?_set_ne hi] at e
        obtain ⟨x, h1, h2⟩ := r.env i' d e
        exact ⟨x, by rw [List.getElem?_set_ne hi]; exact h1, h2⟩ }
end
section
variable {X : Cx} {Z : Rsc} {W : WX} {x n : Str} {c : Value} {i : Nat} {body suite : List Stmt} {b₀ : Stmt} {np pos pos' : Pos} {u w : VS} {ok : Str → Bool}
theorem vs_try (hst : X.stack = X.env :: X.outer) (hf : X.env.frame = some X.env.locals) (hex : X.ex = []) (hN : X.N.Nodup) (hi : X.N[i]? = some n) (hln : X.env.kindOf n = some .local) (hc : Names X x c)
    (hok : ∀ nm, ok nm = true → ∃ C, X.mg nm = some (.ref C) ∧ PySem.W.exmOne X.K (.ref C) c = some true)
    (hb : ∀ (W : WX) (pn : List (Addr × Obj)) (xe : Value → Shared → Prop), Takes (X.tr pn xe) W → PassesOwn (model X.prog X.w) X.A X.env xe → PSs (X.tr pn xe) body (LS X.K X.mg Z W u))
    (hsu : ∀ (a : Addr) (pn : List (Addr × Obj)), PSs (X.suite a pn) (b₀ :: suite) (LS X.K X.mg Z W0 w)) :
    PS X (.Try body [.ExceptHandler (some (.Name x np)) (some n) (b₀ :: suite) pos'] [] [] pos) (LS X.K X.mg Z W (vTry ok i u w)) :=
  PS.imp (ps_try_kp hst hf hex hN hi hln hc hb hsu) fun D σ H ⟨P, R, as, G, m, nx, rt, bk, ct, ex, r, h, k⟩ =>
    ⟨P, R, as, G, m, nx, rt, bk, ct, _, r, h, k.nx, k.rt, k.bk, k.ct, fun nm cl m' R' as' G' σ' H' ⟨h1, h2⟩ hm r' => by
      obtain ⟨C, e1, e2⟩ := hok nm h1
      rw [hm] at e1
      cases e1
      refine ⟨C, rfl, rfl, e2, fun a na => ?_⟩
      obtain ⟨r2, _⟩ := r'.laid (o := ExD C a) na
      refine ⟨P, upd R' a (ExD C a), as', G'.set i (some (.t (.exc nm))), m', _, rt, _, _, _, r2.set (.t (.exc hm upd_same)), h2, ?_⟩
      exact ⟨fun G m R as σ H q r => k.nx _ m R as _ H q (r.goes i), fun d m v R as G σ H a b c => k.rt d m v R as G σ H a b c, fun G m R as σ H q r => k.bk _ m R as _ H q (r.goes i), fun G m R as σ H q r => k.ct _ m R as _ H q (r.goes i), fun _ _ _ _ _ _ _ _ z => z.elim⟩⟩
end
end VL

/-! VM, part F: the classes of refusals; isinstance of a kept exception. -/
namespace VL
open PySem L2

/-- what must be known of a class that is raised -/
structure ExK (K : PySem.W.Frag) (mg : Str → Option Value) (C0 : Addr) (nm : Str) (D : Addr) : Prop where
  gl : mg nm = some (.ref D)
  ke : PySem.W.keepIn K (.ref D) = true
  ex : PySem.W.excIn K D [.type "ValueError", .type "Exception", .type "BaseException", .type "object"] "ValueError.__new__" = true
  su : PySem.W.subIn K (.ref D) (.type "BaseException") = some true
  ty : PySem.W.typeIn K (.ref D) = some (.type "type")
  hg : PySem.W.findIn K (.ref D) "__getattribute__" = some (some (.builtin "BaseException.__getattribute__"))
  hk : PySem.W.findIn K (.ref D) "__getattr__" = some none
  hd : PySem.W.hasDictIn K D = true
  ha : PySem.W.findIn K (.ref D) "__class__" = some (some (.builtin "object.__class__"))
  hm : PySem.W.mroIn K D (.type "object") = some true
  up : PySem.W.subIn K (.ref D) (.ref C0) = some true
  ve : PySem.W.kitOne K (.ref D) (.type "ValueError") = some true
/-- the classes: HalfError at C0, those that are raised, those that are asked for -/
structure ExT (K : PySem.W.Frag) (mg : Str → Option Value) (ns cs : List Str) : Prop where
  C0 : ∃ C0, mg "HalfError" = some (.ref C0) ∧ PySem.W.subIn K (.ref C0) (.type "BaseException") = some true ∧ PySem.W.hasDictIn K C0 = true ∧ PySem.W.typeIn K (.ref C0) = some (.type "type") ∧ ∀ nm, ns.contains nm = true → ∃ D, ExK K mg C0 nm D
  hn : PySem.W.specialIn K (.builtin "object.__class__") "__get__" = some (some (.builtin "getset_descriptor.__get__"))
  ht : PySem.W.takesIn K (.builtin "object.__class__") = some true
  cl : ∀ c, cs.contains c = true → ∃ C, mg c = some (.ref C)
  is : ∀ nm c D C, ns.contains nm = true → cs.contains c = true → mg nm = some (.ref D) → mg c = some (.ref C) → PySem.W.kitOne K (.ref D) (.ref C) = some (nm == c)
theorem mem_mk {ns : List Str} {P : Str → Prop} (h : ∀ nm ∈ ns, P nm) : ∀ nm, ns.contains nm = true → P nm := fun nm q => h nm (by simpa using q)

section
variable {K : PySem.W.Frag} {mg : Str → Option Value} {ns cs : List Str}
theorem ExT.exk (T : ExT K mg ns cs) {nm : Str} (h : ns.contains nm = true) : ∃ C0 D, ExK K mg C0 nm D := let ⟨C0, _, _, _, _, q⟩ := T.C0; ⟨C0, q nm h⟩
theorem ExT.excC (T : ExT K mg ns cs) {nm : Str} {D : Addr} (h : ns.contains nm = true) (e : mg nm = some (.ref D)) : ExcC K D := by
  obtain ⟨C0, D', q⟩ := T.exk h
  have := q.gl
  rw [e] at this
  cases this
  exact ⟨q.hg, q.hk, q.su, q.hd, q.ha, T.hn, T.ht, q.hm⟩
theorem ExT.ok (T : ExT K mg ns cs) : ∃ C0, mg "HalfError" = some (.ref C0) ∧ ∀ nm, ns.contains nm = true → ∃ D, mg nm = some (.ref D) ∧ PySem.W.exmOne K (.ref D) (.ref C0) = some true := by
  obtain ⟨C0, e, h1, h2, h3, q⟩ := T.C0
  refine ⟨C0, e, fun nm h => ?_⟩
  obtain ⟨D, k⟩ := q nm h
  exact ⟨D, k.gl, PySem.W.exm_ref h1 h2 h3 k.up⟩
end

section
variable {X : Cx} {Z : Rsc} {W : WX} {ns cs : List Str}
theorem v_cls {x : Str} {pos : Pos} (T : ExT X.K X.mg ns cs) (hc : cs.contains x = true) (hg : Gl X x) (hd : (x == ("__debug__" : Str)) = false := by decide) : PE X (.Name x pos) (LE X.K X.mg Z W (vC (.cls x))) := by
  obtain ⟨C, h⟩ := T.cl x hc
  exact v_glob (v := .ref C) hg h rfl (fun R => .cls h) hd
theorem vs_raiseT {x msg : Str} {j : Nat} {p p2 p3 pos : Pos} (T : ExT X.K X.mg ns cs) (tk : Takes X W) (hn : ns.contains x = true) (hc : X.calm = true := by rfl) (hg : Gl X x := by rfl) (hdb : (x == ("__debug__" : Str)) = false := by decide) :
    PS X (.Raise (some (.Call (.Name x p) [.Constant (.str msg) j p2] [] p3)) none pos) (LS X.K X.mg Z W (vRaise x)) := by
  obtain ⟨C0, D, q⟩ := T.exk hn
  exact vs_raise tk PySem.F.excBase_ValueError q.ex q.gl q.ke (raises_own q.su q.ty) hc hg hdb
theorem vs_tryT {n : Str} {i : Nat} {body suite : List Stmt} {b₀ : Stmt} {np pos pos' : Pos} {u w : VS} (T : ExT X.K X.mg ns cs) (hst : X.stack = X.env :: X.outer) (hf : X.env.frame = some X.env.locals) (hex : X.ex = []) (hN : X.N.Nodup) (hi : X.N[i]? = some n) (hln : X.env.kindOf n = some .local) (hg : Gl X "HalfError")
    (hb : ∀ (W : WX) (pn : List (Addr × Obj)) (xe : Value → Shared → Prop), Takes (X.tr pn xe) W → PassesOwn (model X.prog X.w) X.A X.env xe → PSs (X.tr pn xe) body (LS X.K X.mg Z W u))
    (hsu : ∀ (a : Addr) (pn : List (Addr × Obj)), PSs (X.suite a pn) (b₀ :: suite) (LS X.K X.mg Z W0 w)) :
    PS X (.Try body [.ExceptHandler (some (.Name "HalfError" np)) (some n) (b₀ :: suite) pos'] [] [] pos) (LS X.K X.mg Z W (vTry (fun nm => ns.contains nm) i u w)) := by
  obtain ⟨C0, e, q⟩ := T.ok
  exact vs_try hst hf hex hN hi hln ⟨hg, by decide, .inl e⟩ q hb hsu
end

/-! ### isinstance(e, C), e a kept exception -/
def rIsX (K : PySem.W.Frag) : List V → Hp → VK → Prop := fun xs H Q => ∃ (a D : Addr) (c : V) (cv : Value) (b : Bool), xs = [.ref a, c] ∧ H a = some (ExD D a) ∧ ExcC K D ∧ (∀ u, RelV c u → u = cv) ∧ PySem.W.kitOne K (.ref D) cv = some b ∧ Q (.bl b) H
theorem call_isX {X : Cx} : CallR X (.builtin "isinstance") (rIsX X.K) := by
  intro pins s σ H xs us Q I r h
  obtain ⟨a, D, c, cv, b, rfl, hH, C, hcv, e, q⟩ := h
  cases r with
  | cons rx rr =>
    cases rr with
    | cons rt rr =>
      cases rr
      cases rx
      have ec := hcv _ rt
      subst ec
      obtain ⟨⟨oe, vs, hget, hz, hv⟩, _⟩ := (show ObjOk X.prog X.w H s.heap a (ExD D a) from I.hok a _ hH)
      have J : PySem.W.InstAt s.heap a oe D none := by
        obtain ⟨oc, od, oda, osl⟩ := oe
        obtain ⟨h1, h2⟩ := hz
        dsimp only at h1 h2 hv
        subst h1 h2 hv
        exact ⟨hget, rfl, rfl, trivial⟩
      exact PySem.W.kia_one (PySem.W.handS_kitx_exc C.hg C.hk C.hs C.hd C.ha C.hn C.ht C.hm) I.kIn J e (fun z => nomatch z) fun tk => ⟨.bl b, H, I.kept (t' := tk) fun _ _ z => z, rfl, q⟩
/-- .. a tuple of classes -/
def rIsXT (K : PySem.W.Frag) : List V → Hp → VK → Prop := fun xs H Q => ∃ (a D tp : Addr) (cs : List V) (us : List Value) (b : Bool), xs = [.ref a, .ref tp] ∧ H a = some (ExD D a) ∧ ExcC K D ∧ H tp = some (.tup cs) ∧ Paired ClsV cs us ∧ PySem.W.kitAny K (.ref D) us = some b ∧ Q (.bl b) H
theorem call_isXT {X : Cx} : CallR X (.builtin "isinstance") (rIsXT X.K) := by
  intro pins s σ H xs us Q I r h
  obtain ⟨a, D, tp, cs, ws, b, rfl, hH, C, hT, k, e, q⟩ := h
  obtain ⟨u1, u2, rfl, r1, r2⟩ := vals2 r
  cases (show u1 = Value.ref a from r1)
  cases (show u2 = Value.ref tp from r2)
  obtain ⟨⟨oe, vs, hget, hz, hv⟩, _⟩ := (show ObjOk X.prog X.w H s.heap a (ExD D a) from I.hok a _ hH)
  have J : PySem.W.InstAt s.heap a oe D none := by
    obtain ⟨oc, od, oda, osl⟩ := oe
    obtain ⟨h1, h2⟩ := hz
    dsimp only at h1 h2 hv
    subst h1 h2 hv
    exact ⟨hget, rfl, rfl, trivial⟩
  obtain ⟨_, its, rv, o, h1, h2, n, h3⟩ := (show ObjOk X.prog X.w H s.heap tp (.tup cs) from I.hok tp _ hT)
  have e3 := ClsV.all k rv
  subst e3
  obtain ⟨oc, od, dt, sl⟩ := o
  simp only at h2 h3
  subst h2 h3
  exact PySem.W.kia_tup (PySem.W.handS_kitx_exc C.hg C.hk C.hs C.hd C.ha C.hn C.ht C.hm) I.kIn J h1 e (fun z => nomatch z) fun tk => ⟨.bl b, H, I.tok tk, rfl, q⟩

def fIsX (ns cs : List Str) : OC := fun m ds k => ∃ d nm c, ds = [d, .t (.cls c)] ∧ view m d = some (.exc nm) ∧ ns.contains nm = true ∧ cs.contains c = true ∧ k (.t (.bl (nm == c)))
def fIsV (ns : List Str) : OC := fun m ds k => ∃ d nm, ds = [d, .t (.ty "ValueError")] ∧ view m d = some (.exc nm) ∧ ns.contains nm = true ∧ k (.t (.bl true))
def clsL : List Tr → Option (List Str)
  | [] => some []
  | .cls c :: r => (clsL r).map (c :: ·)
  | _ => none
def fIsXT (ns cs : List Str) : OC := fun m ds k => ∃ d e nm ts l, ds = [d, e] ∧ view m d = some (.exc nm) ∧ view m e = some (.tup ts) ∧ clsL ts = some l ∧ ns.contains nm = true ∧ l.all (cs.contains ·) = true ∧ k (.t (.bl (l.any (nm == ·))))
section
variable {K : PySem.W.Frag} {mg : Str → Option Value} {ns cs : List Str}
theorem Rel.vExc {Z : Rsc} {P : Pm} {R H : Hp} {as : List Addr} {G : Env} {m : Sto} {σ : L2.St} {v : V} {d : Dv} {n : Str} (r : Rel K mg Z P R as G m σ H) (h : DRep K mg R P.hd as v d) (e : view m d = some (.exc n)) :
    ∃ a C, v = .ref a ∧ mg n = some (.ref C) ∧ H a = some (ExD C a) := by
  have q := r.repd h e
  cases q with
  | exc gm gh => exact ⟨_, _, rfl, gm, gh⟩
theorem lo_isX (T : ExT K mg ns cs) : LoC K mg (rIsX K) (fIsX ns cs) := by
  rintro Z P R as G m σ H vs ds k Q r h0 ⟨d, nm, c, rfl, e1, e2, e3, q⟩ nn
  obtain ⟨v, w, rfl, dv, dw⟩ := ptwo h0
  obtain ⟨a, D, rfl, e4, e5⟩ := r.vExc dv e1
  cases dw with
  | t rw' =>
    cases rw' with
    | @cls _ C e6 => exact ⟨a, D, .ref C, .ref C, _, rfl, e5, T.excC e2 e4, fun u z => z, T.is nm c D C e2 e3 e4 e6, nn _ _ R H q .refl r (.t (.bl _))⟩
theorem lo_isV (T : ExT K mg ns cs) : LoC K mg (rIsX K) (fIsV ns) := by
  rintro Z P R as G m σ H vs ds k Q r h0 ⟨d, nm, rfl, e1, e2, q⟩ nn
  obtain ⟨v, w, rfl, dv, dw⟩ := ptwo h0
  obtain ⟨a, D, rfl, e4, e5⟩ := r.vExc dv e1
  obtain ⟨C0, D', q'⟩ := T.exk e2
  have := q'.gl
  rw [e4] at this
  cases this
  cases dw with
  | t rw' =>
    cases rw' with
    | ty n => exact ⟨a, D, .ty "ValueError", .type "ValueError", _, rfl, e5, T.excC e2 e4, fun u z => z, q'.ve, nn _ _ R H q .refl r (.t (.bl _))⟩
theorem lo_isXT (T : ExT K mg ns cs) : LoC K mg (rIsXT K) (fIsXT ns cs) := by
  rintro Z P R as G m σ H vs ds k Q r h0 ⟨d, e, nm, ts, l, rfl, e1, e1', el, e2, e3, q⟩ nn
  obtain ⟨v, w, rfl, dv, dw⟩ := ptwo h0
  obtain ⟨a, D, rfl, e4, e5⟩ := r.vExc dv e1
  obtain ⟨b, xs, rfl, hb, rb⟩ := r.vTup dw e1'
  have main : ∀ (ts : List Tr) (l : List Str) (xs : List V), Reps K mg R xs ts → clsL ts = some l → l.all (cs.contains ·) = true → ∃ us, Paired ClsV xs us ∧ PySem.W.kitAny K (.ref D) us = some (l.any (nm == ·)) := by
    intro ts
    induction ts with
    | nil => intro l xs rb el ha; cases rb; simp [clsL] at el; subst el; exact ⟨[], .nil, kitAny_nil⟩
    | cons t ts ih =>
      intro l xs rb el ha
      cases t <;> simp [clsL] at el
      obtain ⟨l', h1, rfl⟩ := el
      rename_i c
      cases rb with
      | cons r1 r2 =>
        cases r1 with
        | @cls _ C e6 =>
          simp only [List.all_cons, Bool.and_eq_true] at ha
          obtain ⟨us, p1, p2⟩ := ih l' _ r2 h1 ha.2
          refine ⟨.ref C :: us, .cons (.own C) p1, kitAny_cons (T.is nm c D C e2 ha.1 e4 e6) (fun hf => ?_) fun ht => ?_⟩
          · rw [List.any_cons, hf, Bool.false_or]; exact p2
          · rw [List.any_cons, ht, Bool.true_or]
  obtain ⟨us, p1, p2⟩ := main ts l xs rb el e3
  exact ⟨a, D, b, xs, us, _, rfl, e5, T.excC e2 e4, hb, p1, p2, nn _ _ R H q .refl r (.t (.bl _))⟩
end
section
variable {X : Cx} {Z : Rsc} {W : WX} {ns cs : List Str} {p pos : Pos} {a : Expr} {es : List Expr} {va : VA}
theorem v_isX (T : ExT X.K X.mg ns cs) (hg : Gl X "isinstance") (hm : X.mg "isinstance" = none) (ha : PA X (a :: es) (LA X.K X.mg Z W va)) (he : starEach (a :: es) X.env = (false, eval a X.env) :: starEach es X.env := by rfl) (hpl : (backTo pos (starEach es X.env)).any (·.1) = false := by rfl) : PE X (.Call (.Name "isinstance" p) (a :: es) [] pos) (LE X.K X.mg Z W (vCB (fIsX ns cs) va)) :=
  v_callB call_isX (lo_isX T) hg hm (by decide +kernel) ha (by decide) (by decide) he hpl
theorem v_isV (T : ExT X.K X.mg ns cs) (hg : Gl X "isinstance") (hm : X.mg "isinstance" = none) (ha : PA X (a :: es) (LA X.K X.mg Z W va)) (he : starEach (a :: es) X.env = (false, eval a X.env) :: starEach es X.env := by rfl) (hpl : (backTo pos (starEach es X.env)).any (·.1) = false := by rfl) : PE X (.Call (.Name "isinstance" p) (a :: es) [] pos) (LE X.K X.mg Z W (vCB (fIsV ns) va)) :=
  v_callB call_isX (lo_isV T) hg hm (by decide +kernel) ha (by decide) (by decide) he hpl
theorem v_isXT (T : ExT X.K X.mg ns cs) (hg : Gl X "isinstance") (hm : X.mg "isinstance" = none) (ha : PA X (a :: es) (LA X.K X.mg Z W va)) (he : starEach (a :: es) X.env = (false, eval a X.env) :: starEach es X.env := by rfl) (hpl : (backTo pos (starEach es X.env)).any (·.1) = false := by rfl) : PE X (.Call (.Name "isinstance" p) (a :: es) [] pos) (LE X.K X.mg Z W (vCB (fIsXT ns cs) va)) :=
  v_callB call_isXT (lo_isXT T) hg hm (by decide +kernel) ha (by decide) (by decide) he hpl
variable {m : Sto} {d e : Dv} {k : DK} {nm c : Str}
theorem sp_isX (h1 : view m d = some (.exc nm)) (h2 : ns.contains nm = true) (h3 : cs.contains c = true) (q : k (.t (.bl (nm == c)))) : fIsX ns cs m [d, .t (.cls c)] k := ⟨d, nm, c, rfl, h1, h2, h3, q⟩
theorem sp_isV (h1 : view m d = some (.exc nm)) (h2 : ns.contains nm = true) (q : k (.t (.bl true))) : fIsV ns m [d, .t (.ty "ValueError")] k := ⟨d, nm, rfl, h1, h2, q⟩
theorem sp_isXT {ts : List Tr} {l : List Str} (h1 : view m d = some (.exc nm)) (h2 : view m e = some (.tup ts)) (h3 : clsL ts = some l) (h4 : ns.contains nm = true) (h5 : l.all (cs.contains ·) = true) (q : k (.t (.bl (l.any (nm == ·))))) : fIsXT ns cs m [d, e] k := ⟨d, e, nm, ts, l, rfl, h1, h2, h3, h4, h5, q⟩
end
section
variable {nx : SK} {rt : RK} {bk ct : SK} {ex : XS} {G : Env} {m : Sto} {nm : Str} {ok : Str → Bool} {i : Nat} {u w : VS}
theorem st_raise (h : ex nm G m) : vRaise nm nx rt bk ct ex G m := h
theorem st_try (h : u nx rt bk ct (fun nm G' m' => ok nm = true ∧ w (fun G2 m2 => nx (G2.set i none) m2) rt (fun G2 m2 => bk (G2.set i none) m2) (fun G2 m2 => ct (G2.set i none) m2) (fun _ _ _ => False) (G'.set i (some (.t (.exc nm)))) m') G m) : vTry ok i u w nx rt bk ct ex G m := h
theorem st_caught {A : Prop} (h : ok nm = true) (q : A) : ok nm = true ∧ A := ⟨h, q⟩
end
end VL

/-! VM, part G: x *= e of whole numbers. -/
namespace VL
open PySem L2
section
variable {X : Cx} {Z : Rsc} {W : WX} {a : Expr} {pos : Pos}
theorem ip_mulA : PIp X .Mult (rI CM fun i j => .int (i * j)) := by
  intro pins s σ H x y v u Q I r1 r2 h
  obtain ⟨i, j, e1, e2, c, q⟩ := h
  subst e1; subst e2
  obtain ⟨t, rfl⟩ := r1
  obtain ⟨t', rfl⟩ := r2
  exact PyProof.Rows.imul_int ⟨.int _, H, I.tok _, ⟨_, rfl⟩, q⟩ (c.elim (fun h => h.ok) fun h => h.ok)
def fMulI : O2 := fI CM fun i j => .int (i * j)
theorem vs_augMul {i : Nat} {x : Str} {ve : VE} {pos' : Pos} (hN : X.N.Nodup) (hi : X.N[i]? = some x) (hx : Loc X.env.scope x) (he : PE X a (LE X.K X.mg Z W ve)) (hf : X.fn x = true ∨ X.env.scope.names.lookup x = some .local := by first | exact .inl rfl | exact .inr rfl | assumption) :
    PS X (.AugAssign (.Name x pos') .Mult a pos) (LS X.K X.mg Z W (vAug i fMulI ve)) := vs_aug (lo_I fun _ _ _ => .int _) ip_mulA hN hi hx he hf
theorem sp_mulI {m : Sto} {d e : Dv} {i j : Int} {k : DK} (h1 : view m d = some (.int i)) (h2 : view m e = some (.int j)) (q : k (.t (.int (i * j)))) (c : CM i j) : fMulI m d e k := ⟨i, j, h1, h2, c, q⟩
/-- a + b, lists put together: a new owned list -/
abbrev vmCat (j : Nat) (dr : Option Nat) (a b : VE) : VM := fun G m k x => a G m (fun d => b G m (fun e => ∃ xs ys, view m d = some (.lst xs) ∧ view m e = some (.lst ys) ∧ xs.length + ys.length ≤ sizeLine ∧ newC j dr (.lst (xs ++ ys)) G m k) (fun n => x n G m)) (fun n => x n G m)
theorem vm_cat {b : Expr} {va vb : VE} {j : Nat} {dr : Option Nat} (h0 : Z.n0 ≤ j) (ha : PE X a (LE X.K X.mg Z W va)) (hb : PE X b (LE X.K X.mg Z W vb)) : PE X (.BinOp a .Add b pos) (LM X.K X.mg Z W dr [j] (vmCat j dr va vb)) :=
  PE.imp (pe_op op_cat ha hb) fun σ H Q ⟨P, R, as, G, m, k, x, r, h, n⟩ => LE.go r h (fun d v R1 H1 h1 n1 r1 d1 => LE.go r1 h1 (fun e w R2 H2 ⟨ts, us, e1, e2, c, hj, hn, hx, h2⟩ n2 r2 d2 => by
    obtain ⟨a, xs, rfl, ha, ra⟩ := r2.vLst (d1.mono n2.r) e1
    obtain ⟨b, ys, rfl, hb, rb⟩ := r2.vLst d2 e2
    refine ⟨a, b, xs, ys, rfl, rfl, ha, hb, by rw [Paired.length ra, Paired.length rb]; exact c, fun p hp => ?_⟩
    obtain ⟨r3, far, d3⟩ := newC_ok r2 (dr := dr) (x := .lst (ts ++ us)) h0 hp hj hn hx ⟨_, upd_same, paired_append ra rb⟩
    exact n.ok _ _ _ R2 _ _ h2 (n1.r.trans n2.r) far r3 d3) (fun nm cl R1 H1 a b c d => n.er nm cl m R1 as G H1 a b d)) (fun nm cl R1 H1 a b c d => n.er nm cl m R1 as G H1 a b d)
theorem st_cat {G : Env} {m : Sto} {d e : Dv} {xs ys : List Tr} {A : List Tr → List Tr → Prop} (h1 : view m d = some (.lst xs)) (h2 : view m e = some (.lst ys)) (q : A xs ys) (c : xs.length + ys.length ≤ sizeLine) : ∃ xs ys, view m d = some (.lst xs) ∧ view m e = some (.lst ys) ∧ xs.length + ys.length ≤ sizeLine ∧ A xs ys := ⟨xs, ys, h1, h2, c, q⟩
end
end VL

/-! VM, part H: instances made and read: C(..), methods of an instance that is data or stands alone at a site. -/
namespace VL
open PySem L2

section
open PyProof.Rows PySem.Spec
variable {X : Cx} {CX : CXT} {k : Nat} {f C : Addr} {fd : FuncData} {ps : List Str} {sp : Sp} {E : L2.St → L2.XK} {x : Str} {p pos : Pos} {e : Expr} {es : List Expr} {t : TA}
def tMakeE (C : Addr) (sp : Sp) (E : L2.St → L2.XK) (t : TA) : TE := fun σ H Q => t σ H fun vs H1 => ∀ x dx, H1 x = none → H1 dx = none → dx ≠ x → sp (.ref x :: vs) (upd (upd H1 dx (.own x)) x (.ins C dx [])) (fun v H2 => v = .non ∧ Q (.ref x) H2) (E σ)
theorem run_makeE {pins : List (Addr × Obj)} {σ : L2.St} {H : Hp} {s : Shared} {Q : VK} {us : List Value} {vs : List V} (M : L2.Mk X.K C f) (F : FnOk X.prog X.w X.K X.mg X.base CX k f fd ps sp) (hr : Room (k + 1) X.A) (hb : Binds X.K fd ps []) (hx : PassesAt CX X σ (E σ)) (I : Inv X pins σ H s) (r : Vals vs us)
    (h : ∀ x dx, H x = none → H dx = none → dx ≠ x → sp (.ref x :: vs) (upd (upd H dx (.own x)) x (.ins C dx [])) (fun v H2 => v = .non ∧ Q (.ref x) H2) (E σ)) :
    wpAny (model X.prog X.w) X.A (call (.ref C) us) (EP X pins σ Q) X.xe s := by
  have hq := h (s.heap.objs.size + 1) s.heap.objs.size (I.hok.fresh (Nat.le_succ _)) (I.hok.fresh (Nat.le_refl _)) (Nat.ne_of_lt (Nat.lt_succ_self _))
  have I2 := Inv.made (C := C) I
  have r2 : Vals (V.ref (s.heap.objs.size + 1) :: vs) (Value.ref (s.heap.objs.size + 1) :: us) := .cons rfl r
  have hl : (Value.ref (s.heap.objs.size + 1) :: us).length = ps.length := by
    have e := r2.length
    rw [F.len _ _ _ _ hq] at e
    exact e.symm
  have b := hb _ (Value.ref (s.heap.objs.size + 1) :: us) I2.kIn (by rw [List.append_nil]; exact hl)
  rw [List.append_nil] at b
  refine wpAny_call (make_map (f := f) I.kIn M.makes M.init (beq_iff_eq.mp M.fn) (codeAny_mono (F.run _ X.stack _ _ ⟨Value.ref (s.heap.objs.size + 1) :: us, []⟩ (Value.ref (s.heap.objs.size + 1) :: us) _ _ (E σ) (hr.make C us [])
    (I2.env0.make C us []) b r2 hq) fun r s' hq' => ?_))
  cases r with
  | error ev => exact hx pins _ _ ev s' I2 hq'
  | ok fl =>
    cases fl with
    | ret u =>
      obtain ⟨v, H', I3, rv, ev, q3⟩ := I2.after hq'
      subst ev
      exact ⟨rv, ⟨V.ref (s.heap.objs.size + 1), H', I3, rfl, q3⟩⟩
    | next => exact False.elim hq'
    | brk => exact False.elim hq'
    | cont => exact False.elim hq'
theorem pe_makeE (M : L2.Mk X.K C f) (F : FnOk X.prog X.w X.K X.mg X.base CX k f fd ps sp) (hr : Room (k + 1) X.A) (hg : Gl X x) (hm : X.mg x = some (.ref C)) (hb : Binds X.K fd ps []) (hx : ∀ σ, PassesAt CX X σ (E σ))
    (ha : PA X (e :: es) t) (hdb : (x == ("__debug__" : Str)) = false := by decide) (he : starEach (e :: es) X.env = (false, eval e X.env) :: starEach es X.env := by rfl) (hpl : (backTo pos (starEach es X.env)).any (·.1) = false := by rfl) :
    PE X (.Call (.Name x p) (e :: es) [] pos) (tMakeE C sp E t) := by
  refine ⟨fun pins s σ H Q I h => ?_⟩
  refine wpAny_Call_Name_kw (ld_glob I hg hm ?_ hdb)
  refine PySem.W.callWith_K (h₀ := X.base) I.ok.mod.kin M.kp (thn (ha.run pos pins s σ H _ I h) fun us s1 ⟨vs, H1, I1, r, q⟩ => ⟨I1.kIn, ?_⟩) he hpl
  exact run_makeE M F hr hb (hx σ) I1 r q
end

/-- the instance that an __init__ makes, as data -/
def mkS (c : Str) (sp : VSpM) : VSp := fun ds k x => sp (.loc 0 :: ds) [some (.ins c [])] (fun d m => d = .t .non ∧ ∃ y, viewD m (.loc 0) = some y ∧ k y) (fun n _ => x n)
/-- C(..), data handed in -/
abbrev vMake (sp : VSp) (es : VA) : VE := fun G m k x => es G m (fun ds => allT ds = true ∧ sp ds (fun y => k (.t y)) x) x
/-- all that C(..) wants -/
def DfI (Pg : Program) (w : World) (K : PySem.W.Frag) (mg : Str → Option Value) (base : Heap) (CX : CXT) (k : Nat) (c : Str) (ps : List Str) (Z : Rsc) (sp : VSpM) : Prop :=
  ∃ f fd C, FnOk Pg w K mg base CX k f fd ps (liftM K mg Z ps.length sp) ∧ mg c = some (.ref C) ∧ L2.Mk K C f ∧ Binds K fd ps []
/-- all that a method's call wants -/
def DfH (Pg : Program) (w : World) (K : PySem.W.Frag) (mg : Str → Option Value) (base : Heap) (CX : CXT) (k : Nat) (c me : Str) (ps : List Str) (Z : Rsc) (sp : VSp) : Prop :=
  ∃ f fd C, FnOk Pg w K mg base CX k f fd ps (liftS K mg Z ps.length sp) ∧ mg c = some (.ref C) ∧ Cls K C ∧ Meth K C me f ∧ Binds K fd ps []

section
variable {K : PySem.W.Frag} {mg : Str → Option Value} {Z Z' : Rsc} {W : WX} {P : Pm} {R R1 H H1 : Hp} {as : List Addr} {G : Env} {m : Sto} {σ : L2.St}
theorem make_end {c : Str} {sp : VSpM} {n : Nat} {ds : List Dv} {vs : List V} {k : DK} {x : XK} {Q : VK} {C p dx : Addr} (hm : mg c = some (.ref C)) (hZ : Z'.Z = Z.Z) (hz : Z'.n0 = 1) (hn : ∀ ds m k x, sp ds m k x → ds.length = n) (h1 : allT ds = true) (h2 : mkS c sp ds (fun y => k (.t y)) x) (n1 : Nx P R H R1 H1) (r1 : Rel K mg Z P R1 as G m σ H1) (d1 : Paired (DRep K mg R1 P.hd as) vs ds)
    (nn : Kn K mg Z W P R as G m σ H k x Q) (hp : H1 p = none) (hdx : H1 dx = none) (hne : dx ≠ p) :
    liftM K mg Z' n sp (.ref p :: vs) (upd (upd H1 dx (.own p)) p (.ins C dx [])) (fun v H2 => v = .non ∧ Q (.ref p) H2) (WE W σ) := by
  generalize hH2 : upd (upd H1 dx (.own p)) p (.ins C dx []) = H2
  have s2 : Same H1 H2 := by
    subst hH2
    intro b u e
    rw [upd_ne (ne_of_none e hp), upd_ne (ne_of_none e hdx)]; exact e
  have e2 : ∀ a, H2 a = none → H1 a = none := fun a e => by
    cases z : H1 a with
    | none => rfl
    | some u => rw [s2 a u z] at e; cases e
  have nB := r1.newB hp
  have rel0 : Rel K mg Z' ⟨H2, R1, fun a => a = p, P.hd, P.B, [p]⟩ R1 [p] [] [some (.ins c [])] [] H2 := by
    refine ⟨fun a o e => s2 a o (r1.ex a o e), rfl, fun i d e => by simp at e, fun j y e => ?_, fun j k y z a e1 e2 _ _ => ?_, ?_, r1.rb, fun a o e _ _ => e, fun a e => e, fun a e => .inl e, Same.refl _, rfl, fun j _ => rfl⟩
    · cases j with
      | zero =>
        simp at e
        subst e
        exact ⟨p, rfl, ⟨C, dx, [], hm, by rw [← hH2]; exact upd_same, .nil⟩, r1.newR hp, nB, .inr ⟨rfl, by omega⟩⟩
      | succ j => simp at e
    · cases j with
      | zero =>
        cases k with
        | zero => rfl
        | succ k => simp at e2
      | succ j => simp at e1
    · rw [hZ]
      refine Z.st _ _ _ _ (fun a ha => ?_) r1.vol
      cases z : H1 a with
      | none => exact absurd z (Z.dm _ _ _ r1.vol a ha)
      | some u => exact s2 a u z
  have back : ∀ {R2 H3 : Hp} {as2 : List Addr} {m2 : Sto}, Rel K mg Z' ⟨H2, R1, fun a => a = p, P.hd, P.B, [p]⟩ R2 as2 [] m2 [] H3 → (∀ a o, ¬ P.B a → H1 a = some o → H3 a = some o) ∧ (∀ a, H1 a ≠ none → H3 a ≠ none) ∧ Z.Z H3 P.hd P.B := fun {R2 H3 as2 m2} q =>
    ⟨fun a o hb e => q.frame a o (s2 a o e) (fun z => by have z : a = p := z; rw [z, hp] at e; cases e) hb, fun a e => q.dom a fun z => e (e2 a z), by rw [← hZ]; exact q.vol⟩
  have da : Paired (DRep K mg R1 P.hd [p]) (.ref p :: vs) (.loc 0 :: ds) := .cons (.loc rfl) (by
    have := allT_rep d1 h1
    exact paired_imp this fun v d _ q => rep_as q _)
  refine ⟨by rw [Paired.length da]; exact hn _ _ _ _ h2, ⟨H2, R1, fun a => a = p, P.hd, P.B, [p]⟩, R1, .loc 0 :: ds, [p], [some (.ins c [])], _, _, rfl, rfl, rfl, fun a ha => by simp [show a = p from ha], hz.symm, rel0, da, h2, fun d m2 v R2 as2 H3 ⟨ed, y, ey, hk⟩ q dv => ?_, fun nm cl m2 R2 as2 H3 hx hcl q => ?_⟩
  · subst ed
    cases dv with
    | t rv =>
    cases rv
    refine ⟨rfl, ?_⟩
    obtain ⟨b1, b2, b3⟩ := back q
    have a0 : as2[0]? = some p := by rw [q.pre 0 (by omega)]; rfl
    let A : Addr → Prop := fun a => ∃ (k : Nat) (y : Tr), m2[k]? = some (some y) ∧ as2[k]? = some a
    let R3 : Hp := fun a => open Classical in if A a then H3 a else R2 a
    have hA : ∀ {a}, A a → R3 a = H3 a := fun {a} h => if_pos h
    have hN : ∀ {a}, ¬ A a → R3 a = R2 a := fun {a} h => if_neg h
    have aR : ∀ {a}, A a → R2 a = none ∧ H1 a = none := fun {a} ⟨k, y, h2, h3⟩ => by
      obtain ⟨b, q1, q2, q3, q4, q5⟩ := q.sto k y h2
      rw [h3] at q1; cases q1
      refine ⟨q3, ?_⟩
      rcases q5 with q5 | ⟨q5, _⟩
      · exact e2 _ q5
      · have q5 : a = p := q5
        rw [q5]; exact hp
    have sr : Same R2 R3 := fun a o e => by
      by_cases h : A a
      · rw [(aR h).1] at e; cases e
      · rw [hN h]; exact e
    have ex3 : Same R3 H3 := fun a o e => by
      by_cases h : A a
      · rw [hA h] at e; exact e
      · rw [hN h] at e; exact q.ex a o e
    have rep : Rep K mg R3 (.ref p) y := (see_rep (S := fun _ => True) (R' := R3) sr (fun k y hy _ => by
      obtain ⟨a, h1, h2, _⟩ := q.sto k y hy
      exact ⟨a, h1, h2, fun o e => by rw [hA ⟨k, y, hy, h1⟩]; exact e⟩) 12).1 (.at 0) (.ref p) y (.s a0) ey fun _ _ => trivial
    have nx : Nx P R1 H1 R3 H3 := ⟨Same.trans q.r0 sr, b1, fun a e => by
      by_cases h : A a
      · exact .inr (aR h).2
      · rw [hN h] at e
        rcases q.fresh a e with z | z
        · exact .inl z
        · exact .inr (e2 a z), b2⟩
    exact nn.ok _ _ _ _ hk (n1.trans nx) (r1.step nx ex3 b3) (.t rep)
  · obtain ⟨b1, b2, b3⟩ := back q
    have nx : Nx P R1 H1 R1 H3 := ⟨Same.refl _, b1, fun a e => .inl e, b2⟩
    exact nn.er nm cl _ _ hx hcl (n1.trans nx) (r1.step nx (fun a o e => b1 a o (fun b => by rw [r1.rb a b] at e; cases e) (r1.ex a o e)) b3)
end
section
variable {X : Cx} {Z Z' : Rsc} {W : WX} {CX : CXT} {k : Nat} {ps : List Str} {spI : VSpM} {c : Str} {p pos : Pos} {e : Expr} {es : List Expr} {va : VA}
theorem v_make (D : DfI X.prog X.w X.K X.mg X.base CX k c ps Z' spI) (hZ : Z'.Z = Z.Z) (hz : Z'.n0 = 1) (hn : ∀ ds m k x, spI ds m k x → ds.length = ps.length) (hr : Room (k + 1) X.A) (hg : Gl X c) (hx : ∀ σ, PassesAt CX X σ (WE W σ))
    (ha : PA X (e :: es) (LA X.K X.mg Z W va)) (hdb : (c == ("__debug__" : Str)) = false := by decide) (he : starEach (e :: es) X.env = (false, eval e X.env) :: starEach es X.env := by rfl) (hpl : (backTo pos (starEach es X.env)).any (·.1) = false := by rfl) :
    PE X (.Call (.Name c p) (e :: es) [] pos) (LE X.K X.mg Z W (vMake (mkS c spI) va)) := by
  obtain ⟨f, fd, C, F, hm, M, hb⟩ := D
  exact PE.imp (pe_makeE M F hr hg hm hb hx ha hdb he hpl) fun σ H Q ⟨P, R, as, G, m, k, x, r, h, n⟩ => LA.go r h (fun ds vs R1 H1 ⟨h1, h2⟩ n1 r1 d1 p dx hp hdx hne => make_end hm hZ hz hn h1 h2 n1 r1 d1 n hp hdx hne) fun nm cl R' H' a b c d => n.er nm cl R' H' a b c d
end

/-! ### no instance in it -/
mutual
def noIns : Tr → Bool
  | .non => true | .bl _ => true | .int _ => true | .str _ => true | .ty _ => true | .cls _ => true | .scr _ => true
  | .lst xs => noInsL xs | .tup xs => noInsL xs | .dic kvs => noInsP kvs
  | _ => false
def noInsL : List Tr → Bool
  | [] => true
  | x :: r => noIns x && noInsL r
def noInsP : List (Key × Tr) → Bool
  | [] => true
  | x :: r => noIns x.2 && noInsP r
end
theorem noInsL_at : ∀ {ts : List Tr} {i : Nat} {t : Tr}, noInsL ts = true → ts[i]? = some t → noIns t = true
  | [], i, t, _, e => by simp at e
  | x :: r, 0, t, h, e => by
    unfold noInsL at h
    rw [Bool.and_eq_true] at h
    simp at e; subst e; exact h.1
  | x :: r, i + 1, t, h, e => by
    unfold noInsL at h
    rw [Bool.and_eq_true] at h
    exact noInsL_at h.2 (by simpa using e)
theorem noInsP_at : ∀ {ts : List (Key × Tr)} {i : Nat} {k : Key} {t : Tr}, noInsP ts = true → ts[i]? = some (k, t) → noIns t = true
  | [], i, k, t, _, e => by simp at e
  | x :: r, 0, k, t, h, e => by
    unfold noInsP at h
    rw [Bool.and_eq_true] at h
    simp at e; subst e; exact h.1
  | x :: r, i + 1, k, t, h, e => by
    unfold noInsP at h
    rw [Bool.and_eq_true] at h
    exact noInsP_at h.2 (by simpa using e)
theorem noInsL_of : ∀ {ts : List Tr}, (∀ t ∈ ts, noIns t = true) → noInsL ts = true
  | [], _ => rfl
  | x :: r, h => by
    unfold noInsL
    rw [h x List.mem_cons_self, noInsL_of fun t ht => h t (List.mem_cons_of_mem _ ht)]; rfl
theorem noInsP_of : ∀ {ts : List (Key × Tr)}, (∀ t ∈ ts, noIns t.2 = true) → noInsP ts = true
  | [], _ => rfl
  | x :: r, h => by
    unfold noInsP
    rw [h x List.mem_cons_self, noInsP_of fun t ht => h t (List.mem_cons_of_mem _ ht)]; rfl
theorem noIns_lst {ts : List Tr} (h : ∀ t ∈ ts, noIns t = true) : noIns (.lst ts) = true := by unfold noIns; exact noInsL_of h
theorem noIns_tup {ts : List Tr} (h : ∀ t ∈ ts, noIns t = true) : noIns (.tup ts) = true := by unfold noIns; exact noInsL_of h
theorem noIns_dic {ts : List (Key × Tr)} (h : ∀ t ∈ ts, noIns t.2 = true) : noIns (.dic ts) = true := by unfold noIns; exact noInsP_of h
theorem Rep.noIns {K : PySem.W.Frag} {mg : Str → Option Value} {R R' : Hp} (s : ∀ a o, (∀ C dx xs, o ≠ HO.ins C dx xs) → R a = some o → R' a = some o) {v : V} {t : Tr} (h : Rep K mg R v t) (e : VL.noIns t = true) : Rep K mg R' v t := by
  have rd : ∀ {a : Addr} {u : HO}, (∀ C dx xs, u ≠ HO.ins C dx xs) → Rd R a u → Rd R' a u := fun {a u} n h => by
    rcases h with h | ⟨o, h⟩
    · exact .inl (s _ _ n h)
    · exact .inr ⟨o, s _ _ (fun _ _ _ z => by cases z) h⟩
  induction h with
  | non => exact .non
  | bl b => exact .bl b
  | int i => exact .int i
  | str x => exact .str x
  | ty n => exact .ty n
  | cls h => exact .cls h
  | scr h =>
    refine .scr ?_
    rcases h with h | h
    · exact .inl (rd (fun _ _ _ z => by cases z) h)
    · exact .inr h
  | @lst _ _ ts h l _ ih =>
    have e : noInsL ts = true := by unfold VL.noIns at e; exact e
    exact .lst (s _ _ (fun _ _ _ z => by cases z) h) l fun i x t h1 h2 => ih i x t h1 h2 (noInsL_at e h2)
  | @tup _ _ ts h l _ ih =>
    have e : noInsL ts = true := by unfold VL.noIns at e; exact e
    exact .tup (s _ _ (fun _ _ _ z => by cases z) h) l fun i x t h1 h2 => ih i x t h1 h2 (noInsL_at e h2)
  | @dic _ _ ts h l _ ih =>
    have e : noInsP ts = true := by unfold VL.noIns at e; exact e
    exact .dic (rd (fun _ _ _ z => by cases z) h) l fun i k x k' t h1 h2 => ih i k x k' t h1 h2 (noInsP_at e h2)
  | ins m h l _ ih => unfold VL.noIns at e; cases e
  | exc m h => unfold VL.noIns at e; cases e

/-! ### methods of an instance that stands at a site, all its fields known -/
def fCallI (sp : VSp) (x : XK) (m : Sto) (ds : List Dv) (k : DK) : Prop := fCall sp x m ds k ∨ ∃ j c fs r, ds = .loc j :: r ∧ allT r = true ∧ m[j]? = some (some (.ins c fs)) ∧ sp (.t (.ins c fs) :: r) (fun y => noIns y = true ∧ k (.t y)) x
section
variable {K : PySem.W.Frag} {mg : Str → Option Value} {Z Z' : Rsc} {W : WX} {P : Pm} {R R1 H H1 : Hp} {as : List Addr} {G : Env} {m : Sto} {σ : L2.St}
theorem call_endI {sp : VSp} {n : Nat} {ds : List Dv} {vs : List V} {k : DK} {x : XK} {Q : VK} (hZ : Z'.Z = Z.Z) (hz : Z'.n0 = 0) (hn : ∀ ds k x, sp ds k x → ds.length = n) (h1 : fCallI sp x m ds k) (n1 : Nx P R H R1 H1) (r1 : Rel K mg Z P R1 as G m σ H1) (d1 : Paired (DRep K mg R1 P.hd as) vs ds) (nn : Kn K mg Z W P R as G m σ H k x Q) :
    liftS K mg Z' n sp vs H1 Q (WE W σ) := by
  rcases h1 with h1 | ⟨j, c, fs, r, rfl, hT, hj, hs⟩
  · exact call_end hZ hz hn h1 n1 r1 d1 nn
  cases d1 with
  | @cons v _ vr _ dv dr =>
  cases dv with
  | @loc _ a ha =>
  obtain ⟨a', a1, ⟨C, dx, xs, hm, hx, rx⟩, a3, a4, a5⟩ := r1.sto _ _ hj
  rw [ha] at a1; cases a1
  let Rc : Hp := upd R1 a (.ins C dx xs)
  have sc : Same R1 Rc := fun b o e => by
    have : b ≠ a := fun z => by rw [z, a3] at e; cases e
    show upd R1 a _ b = _
    rw [upd_ne this]; exact e
  have se : Same Rc H1 := fun b o e => by
    by_cases hb : b = a
    · subst hb
      have e : upd R1 b _ b = some o := e
      rw [upd_same] at e; cases e; exact hx
    · have e : upd R1 a _ b = some o := e
      rw [upd_ne hb] at e; exact r1.ex b o e
  have rel0 : Rel K mg Z' ⟨H1, Rc, fun _ => False, P.hd, P.B, []⟩ Rc [] [] [] [] H1 :=
    ⟨se, rfl, fun i d e => by simp at e, fun j x e => by simp at e, fun j k x y a e => by simp at e, by rw [hZ]; exact r1.vol, fun b hb => by
      have : b ≠ a := fun z => a4 (by rw [← z]; exact hb)
      show upd R1 a _ b = none
      rw [upd_ne this]; exact r1.rb b hb, fun a o e _ _ => e, fun a e => e, fun a e => .inl e, Same.refl _, rfl, fun j hj => by omega⟩
  have da : Paired (DRep K mg Rc P.hd []) (.ref a :: vr) (.t (.ins c fs) :: r) := .cons (.t (.insP hm (upd_same) (RepsP.mono sc rx))) (paired_imp (allT_rep dr hT) fun v d _ q => q.mono sc)
  have fin : ∀ {R2 H2 : Hp}, Rel K mg Z' ⟨H1, Rc, fun _ => False, P.hd, P.B, []⟩ R2 [] [] [] [] H2 → ∃ R3, Nx P R1 H1 R3 H2 ∧ Rel K mg Z P R3 as G m σ H2 ∧ ∀ b o, (∀ C dx xs, o ≠ HO.ins C dx xs) → R2 b = some o → R3 b = some o := fun {R2 H2} q => by
    have keep : ∀ b o, ¬ P.B b → H1 b = some o → H2 b = some o := fun b o hb e => q.frame b o e (fun z => z) hb
    have e2 : R2 a = some (.ins C dx xs) := q.r0 a _ upd_same
    refine ⟨fun b => if b = a then none else R2 b, ?_⟩
    have nx : Nx P R1 H1 (fun b => if b = a then none else R2 b) H2 := by
      refine ⟨fun b o e => ?_, keep, fun b e => ?_, q.dom⟩
      · have : b ≠ a := fun z => by rw [z, a3] at e; cases e
        show (if b = a then none else R2 b) = _
        rw [if_neg this]; exact q.r0 b o (sc b o e)
      · have e : (if b = a then none else R2 b) ≠ none := e
        by_cases hb : b = a
        · rw [if_pos hb] at e; exact absurd rfl e
        · rw [if_neg hb] at e
          rcases q.fresh b e with z | z
          · left
            have z : upd R1 a _ b ≠ none := z
            rw [upd_ne hb] at z; exact z
          · exact .inr z
    refine ⟨nx, r1.step nx (fun b o e => ?_) (by rw [← hZ]; exact q.vol), fun b o hn e => ?_⟩
    · have e : (if b = a then none else R2 b) = some o := e
      by_cases hb : b = a
      · rw [if_pos hb] at e; cases e
      · rw [if_neg hb] at e; exact q.ex b o e
    · show (if b = a then none else R2 b) = some o
      by_cases hb : b = a
      · subst hb; rw [e2] at e; cases e; exact absurd rfl (hn _ _ _)
      · rw [if_neg hb]; exact e
  refine ⟨(Paired.length da).trans (hn _ _ _ hs), _, Rc, _, _, x, rfl, rfl, fun _ z => z, rel0, da, hs, fun y v R2 H2 hk q rv => ?_, fun nm cl R2 H2 hx hc q => ?_⟩
  · obtain ⟨R3, nx, r3, cv⟩ := fin q
    exact nn.ok _ _ _ _ hk.2 (n1.trans nx) r3 (.t (rv.noIns cv hk.1))
  · obtain ⟨R3, nx, r3, cv⟩ := fin q
    exact nn.er nm cl _ _ hx hc (n1.trans nx) r3
end
section
variable {X : Cx} {Z Z' : Rsc} {W : WX} {CX : CXT} {k : Nat} {ps : List Str} {sp : VSp} {c me : Str} {pos apos : Pos} {o e : Expr} {es : List Expr} {vo : VE} {va : VA}
/-- an instance of the class, no field with the method's name -/
def hasI (c me : Str) (m : Sto) (d : Dv) : Prop := (∃ fs, view m d = some (.ins c fs) ∧ fs.lookup me = none) ∨ ∃ j fs, d = .loc j ∧ m[j]? = some (some (.di c fs)) ∧ fs.lookup me = none
/-- o.m(es), o data or an instance alone at a site -/
abbrev vMethI (c me : Str) (sp : VSp) (o : VE) (es : VA) : VE := fun G m k x => o G m (fun d => hasI c me m d ∧ es G m (fun ds => fCallI sp x m (d :: ds) k) x) x
theorem v_methI {pl : Sem Bool} (D : DfH X.prog X.w X.K X.mg X.base CX k c me ps Z' sp) (hZ : Z'.Z = Z.Z) (hz : Z'.n0 = 0) (hn : ∀ ds k x, sp ds k x → ds.length = ps.length) (hr : Room k X.A) (hx : ∀ σ, PassesAt CX X σ (WE W σ))
    (ho : PE X o (LE X.K X.mg Z W vo)) (ha : PA X (e :: es) (LA X.K X.mg Z W va))
    (hst : starEach (e :: es) X.env = (false, eval e X.env) :: starEach es X.env := by rfl) (hpl : (backTo pos (starEach es X.env)).any (·.1) = false := by rfl)
    (ht : eval (.Call (.Attribute o me apos) (e :: es) [] pos) X.env = (do
      let ov ← eval o X.env
      standAt apos.atName
      let (f, first) ← holding [ov] (getMethod ov me pl)
      callWith pos f first (backTo pos (starEach (e :: es) X.env)) (backToKw pos (keywordEach [] X.env))) := by rfl) :
    PE X (.Call (.Attribute o me apos) (e :: es) [] pos) (LE X.K X.mg Z W (vMethI c me sp vo va)) := by
  obtain ⟨f, fd, C, F, hmg, cl, hm, hb⟩ := D
  exact PE.imp (pe_methE (pl := pl) ho cl hm F hr hb hx ha hst hpl ht) fun σ H Q ⟨P, R, as, G, m, kk, x, r, h, n⟩ => LE.go r h (fun d v R1 H1 ⟨hi, h1⟩ n1 r1 d1 => by
    have key : ∃ a dx fs, v = .ref a ∧ H1 a = some (.ins C dx fs) ∧ fs.lookup me = none := by
      rcases hi with ⟨fs, e1, e2⟩ | ⟨j, fs, ed, ej, e2⟩
      · obtain ⟨a, C', dx, xs, rfl, hm', ha', rx⟩ := r1.vIns d1 e1
        rw [hmg] at hm'
        cases hm'
        exact ⟨a, dx, xs, rfl, ha', look_none rx e2⟩
      · subst ed
        cases d1 with
        | loc hl =>
          obtain ⟨a, a1, a2, _⟩ := r1.sto _ _ ej
          rw [a1] at hl; cases hl
          obtain ⟨C', dx, xs, hm', hx', rx⟩ := a2
          rw [hmg] at hm'
          cases hm'
          exact ⟨_, dx, xs, rfl, hx', look_none rx e2⟩
    obtain ⟨a, dx, fs, ev, hH, hl⟩ := key
    refine ⟨a, dx, fs, ev, hH, hl, LA.go r1 h1 (fun ds vs R2 H2 h2 n2 r2 d2 => ?_) fun nm cl R' H' a b c d => n.er nm cl R' H' a b (n1.trans c) d⟩
    exact call_endI hZ hz hn h2 (n1.trans n2) r2 (.cons (d1.mono n2.r) d2) n) n.er
end
end VL

/-! VM, part I: fields that are sites. -/
namespace VL
open PySem L2
section
variable {K : PySem.W.Frag} {mg : Str → Option Value} {Z : Rsc} {P : Pm} {R H : Hp} {as : List Addr} {G : Env} {m : Sto} {σ : L2.St}
/-- a cell told otherwise -/
theorem Rel.recell (r : Rel K mg Z P R as G m σ H) {i : Nat} {x x' : Tr} (hi : m[i]? = some (some x)) (ho : ∀ a, as[i]? = some a → Own K mg R as H a x → Own K mg R as H a x') : Rel K mg Z P R as G (m.set i (some x')) σ H := by
  have hl : i < m.length := (List.getElem?_eq_some_iff.mp hi).1
  have live : ∀ (k : Nat) y, (m.set i (some x'))[k]? = some (some y) → ∃ y', m[k]? = some (some y') := fun k y e => by
    by_cases hk : i = k
    · subst hk; exact ⟨x, hi⟩
    · rw [List.getElem?_set_ne hk] at e; exact ⟨y, e⟩
  refine { r with sto := fun k y e => ?_, inj := fun k l y z a e1 e2 e3 e4 => ?_, la := by rw [List.length_set]; exact r.la }
  · by_cases hk : i = k
    · subst hk
      rw [List.getElem?_set_self hl] at e
      cases e
      obtain ⟨a, h1, h2, h3⟩ := r.sto i x hi
      exact ⟨a, h1, ho a h1 h2, h3⟩
    · rw [List.getElem?_set_ne hk] at e
      exact r.sto k y e
  · obtain ⟨y', e1'⟩ := live k y e1
    obtain ⟨z', e2'⟩ := live l z e2
    exact r.inj k l y' z' a e1' e2' e3 e4
def subAt (j : Nat) (x : Tr) : Tr → Option Tr
  | .at k => if k = j then some x else none
  | .dt _ => none | .dl _ => none | .di _ _ => none
  | t => some t
theorem seeP_reps {R' : Hp} {f : Tr → Option Tr} (hf : ∀ v t x, ChR K mg R as v t → f t = some x → Rep K mg R' v x) : ∀ {ts : List (Str × Tr)} {xs : List (Str × V)} {us : List (Str × Tr)}, Paired (fun p q => p.1 = q.1 ∧ ChR K mg R as p.2 q.2) xs ts → seeP f ts = some us → RepsP K mg R' xs us := by
  intro ts xs us h
  induction h generalizing us with
  | nil => intro e; simp [seeP] at e; subst e; exact .nil
  | @cons v t l l' r _ ih =>
    intro e
    unfold seeP at e
    cases q : f t.2 with
    | none => rw [q] at e; cases e
    | some x =>
      rw [q, Option.bind_some] at e
      cases q2 : seeP f l' with
      | none => rw [q2] at e; cases e
      | some us' => rw [q2] at e; cases e; exact .cons ⟨r.1, hf _ _ _ r.2 q⟩ (ih q2)
end
/-- the field at the site j of the instance at the site i becomes data, with it all the fields -/
def vFrzF (i j : Nat) (u : VS) : VS := fun nx rt bk ct ex G m => ∃ x c fs us, see m 12 (.at j) = some x ∧ reach m 12 (.at j) = [j] ∧ i ≠ j ∧ m[i]? = some (some (.di c fs)) ∧ seeP (subAt j x) fs = some us ∧ u nx rt bk ct ex (G.map (frzD j x)) ((m.set j none).set i (some (.ins c us)))
/-- o.f = e, e a site's object or data -/
abbrev vSetFM (c f : Str) (o : VE) (e : VM) : VS := fun nx _ _ _ ex G m => e G m (fun d m1 => o G m1 (fun od => ∃ j t fs, chT d = some t ∧ od = .loc j ∧ (m1[j]? = some (some (.ins c fs)) ∨ m1[j]? = some (some (.di c fs))) ∧ fs.length < 1000 ∧ nx G (m1.set j (some (.di c (putA f t fs))))) (fun n => ex n G m1)) ex
section
variable {X : Cx} {Z : Rsc} {W : WX} {e o : Expr} {rest : List Stmt} {vm : VM} {vo : VE} {u : VS} {fp : List Nat} {pos p1 : Pos} {c f : Str}
theorem vs_frzF {i j : Nat} (h0 : Z.n0 ≤ j) (h : PSs X rest (LS X.K X.mg Z W u)) : PSs X rest (LS X.K X.mg Z W (vFrzF i j u)) :=
  PSs.imp h fun D σ H ⟨P, R, as, G, m, nx, rt, bk, ct, ex, r, ⟨x, c, fs, us, hj, hr, hne, hi, hs, h⟩, k⟩ => by
    obtain ⟨R', sr, _, r', rep⟩ := r.frz hj h0 (by rw [hr]; simp)
    rw [hr] at r'
    have ew : wipeM m [j] = m.set j none := rfl
    rw [ew] at r'
    have hi' : (m.set j none)[i]? = some (some (.di c fs)) := by rw [List.getElem?_set_ne (fun z => hne z.symm)]; exact hi
    refine ⟨P, R', as, _, _, nx, rt, bk, ct, ex, r'.recell (x' := .ins c us) hi' fun a _ ⟨C, dx, xs, h0, h1, h2⟩ => ⟨C, dx, xs, h0, h1, seeP_reps (fun v t y hc e => ?_) h2 hs⟩, h, k⟩
    cases hc with
    | s ha =>
      rename_i l b
      have e : (if l = j then some x else none) = some y := e
      by_cases hl : l = j
      · rw [if_pos hl] at e; cases e; subst hl; exact rep _ ha
      · rw [if_neg hl] at e; cases e
    | k hk =>
      have : t = y := by cases hk <;> exact (Option.some.inj e)
      subst this
      exact hk
theorem vs_setFM (hc : ∀ C, X.mg c = some (.ref C) → Cls X.K C ∧ NoAttr X.K C f) (ho : PE X o (LE X.K X.mg Z W vo)) (he : PE X e (LM X.K X.mg Z W none fp vm)) (hs : swapsWith e (some (.Attribute o f p1)) pos.line X.env = pure false := by rfl) :
    PS X (.Assign [.Attribute o f p1] e pos) (LS X.K X.mg Z W (vSetFM c f vo vm)) :=
  PS.imp (ps_fld ho he hs) fun D σ H ⟨P, R, as, G, m, nx, rt, bk, ct, ex, r, h, k⟩ => ⟨P, R, as, G, m, _, _, r, h, fun d v m1 R1 as1 H1 h1 s1 q1 r1 d1 => LE.go r1 h1 (fun od w R2 H2 ⟨j, t, fs, et, eo, ej, hz, h2⟩ n2 r2 d2 => by
    subst eo
    have d1 := chT_rep (d1.mono n2.r) et
    cases d2 with
    | loc ha =>
    rcases ej with ej | ej
    · obtain ⟨a, a1, a2, _⟩ := r2.sto _ _ ej
      rw [a1] at ha; cases ha
      obtain ⟨C, dx, xs, hm, hx, rx⟩ := a2
      exact ⟨_, C, dx, xs, rfl, hx, (hc C hm).1, (hc C hm).2, by rw [Paired.length rx]; exact hz, k.nx _ _ _ _ _ _ h2 (r2.put ej a1 ⟨C, dx, _, hm, upd_same, put_ch d1 (paired_imp rx fun p q _ z => ⟨z.1, .k z.2⟩)⟩)⟩
    · obtain ⟨a, a1, a2, _⟩ := r2.sto _ _ ej
      rw [a1] at ha; cases ha
      obtain ⟨C, dx, xs, hm, hx, rx⟩ := a2
      exact ⟨_, C, dx, xs, rfl, hx, (hc C hm).1, (hc C hm).2, by rw [Paired.length rx]; exact hz, k.nx _ _ _ _ _ _ h2 (r2.put ej a1 ⟨C, dx, _, hm, upd_same, put_ch d1 rx⟩)⟩) (fun nm cl R2 H2 a b c d => k.ex nm cl m1 R2 as1 G _ H2 a b d), fun nm cl m' R' as' G' H' a b c => k.ex nm cl m' R' as' G' σ H' a b c⟩
end
end VL
namespace VL
open PySem L2
/-- what is known of a class and of the names of its instances' fields -/
def ClsT (K : PySem.W.Frag) (mg : Str → Option Value) (c : Str) (fs : List Str) : Prop := ∀ C, mg c = some (.ref C) → Cls K C ∧ ∀ f, fs.contains f = true → NoAttr K C f
theorem ClsT.at {K : PySem.W.Frag} {mg : Str → Option Value} {c f : Str} {fs : List Str} (h : ClsT K mg c fs) (e : fs.contains f = true) : ∀ C, mg c = some (.ref C) → Cls K C ∧ NoAttr K C f := fun C m => ⟨(h C m).1, (h C m).2 f e⟩
theorem ClsT.mk {K : PySem.W.Frag} {mg : Str → Option Value} {c : Str} {fs : List Str} {D : Addr} (m : mg c = some (.ref D)) (k : Cls K D) (h : ∀ f, fs.contains f = true → NoAttr K D f) : ClsT K mg c fs := fun C e => by
  rw [m] at e
  cases e
  exact ⟨k, h⟩
end VL
/-! ### steps -/
namespace VL
open PySem L2
section
variable {G : Env} {m : Sto} {k : DK} {d : Dv} {c f me : Str} {fs us : List (Str × Tr)} {t x : Tr} {i j : Nat} {nx : SK}
theorem st_me {A : Prop} (h1 : view m d = some (.ins c fs)) (h2 : fs.lookup me = none) (q : A) : hasI c me m d ∧ A := ⟨.inl ⟨fs, h1, h2⟩, q⟩
theorem st_ci1 {sp : VSp} {x : VL.XK} {ds : List Dv} (h1 : allT ds = true) (q : sp ds (fun y => k (.t y)) x) : fCallI sp x m ds k := .inl (.inl ⟨h1, q⟩)
theorem st_ci2 {sp : VSp} {x : VL.XK} {r : List Dv} (h : m[j]? = some (some (.ins c fs))) (h1 : allT r = true) (q : sp (.t (.ins c fs) :: r) (fun y => noIns y = true ∧ k (.t y)) x) : fCallI sp x m (.loc j :: r) k := .inr ⟨j, c, fs, r, rfl, h1, h, q⟩
theorem st_fx1 (h1 : view m d = some (.ins c fs)) (h2 : fs.lookup f = some t) (q : k (.t t)) : fFldX c f m d k := .inl ⟨fs, t, h1, h2, q⟩
theorem st_fx2 (h1 : m[j]? = some (some (.di c fs))) (h2 : fs.lookup f = some t) (q : k (chD t)) : fFldX c f m (.loc j) k := .inr ⟨j, fs, t, rfl, h1, h2, q⟩
theorem st_fxA {l : Nat} (h1 : m[j]? = some (some (.di c fs))) (h2 : fs.lookup f = some (.at l)) (q : k (.loc l)) : fFldX c f m (.loc j) k := .inr ⟨j, fs, _, rfl, h1, h2, q⟩
theorem st_sf1 {nx : Sto → Prop} (h : m[j]? = some (some (.ins c fs))) (hl : fs.length < 1000) (q : nx (m.set j (some (.ins c (putA f t fs))))) : fSetF c f m (.t t) (.loc j) nx := ⟨j, t, rfl, rfl, .inl ⟨fs, h, hl, q⟩⟩
theorem st_sf2 {nx : Sto → Prop} (h : m[j]? = some (some (.di c fs))) (hl : fs.length < 1000) (q : nx (m.set j (some (.di c (putA f t fs))))) : fSetF c f m (.t t) (.loc j) nx := ⟨j, t, rfl, rfl, .inr ⟨fs, h, hl, q⟩⟩
theorem st_sm1 (h : chT d = some t) (h1 : m[j]? = some (some (.ins c fs))) (hl : fs.length < 1000) (q : nx G (m.set j (some (.di c (putA f t fs))))) : ∃ j' t fs, chT d = some t ∧ Dv.loc j = .loc j' ∧ (m[j']? = some (some (.ins c fs)) ∨ m[j']? = some (some (.di c fs))) ∧ fs.length < 1000 ∧ nx G (m.set j' (some (.di c (putA f t fs)))) := ⟨j, t, fs, h, rfl, .inl h1, hl, q⟩
theorem st_sm2 (h : chT d = some t) (h1 : m[j]? = some (some (.di c fs))) (hl : fs.length < 1000) (q : nx G (m.set j (some (.di c (putA f t fs))))) : ∃ j' t fs, chT d = some t ∧ Dv.loc j = .loc j' ∧ (m[j']? = some (some (.ins c fs)) ∨ m[j']? = some (some (.di c fs))) ∧ fs.length < 1000 ∧ nx G (m.set j' (some (.di c (putA f t fs)))) := ⟨j, t, fs, h, rfl, .inr h1, hl, q⟩
theorem st_ff {u : VS} {rt : RK} {bk ct : SK} {ex : XS} (h1 : see m 12 (.at j) = some x) (h2 : reach m 12 (.at j) = [j]) (h3 : i ≠ j) (h4 : m[i]? = some (some (.di c fs))) (h5 : seeP (subAt j x) fs = some us) (q : u nx rt bk ct ex (G.map (frzD j x)) ((m.set j none).set i (some (.ins c us)))) : vFrzF i j u nx rt bk ct ex G m := ⟨x, c, fs, us, h1, h2, h3, h4, h5, q⟩
theorem st_mk {sp : VSp} {ds : List Dv} {q : Tr → Prop} {x : VL.XK} (h1 : allT ds = true) (h : sp ds q x) : allT ds = true ∧ sp ds q x := ⟨h1, h⟩
end
end VL

/-! VM, part J: a comprehension over a dict. -/
namespace VL
open PySem L2
section
variable {X : Cx} {Z : Rsc} {W W' : WX}
/-- the turns of a comprehension -/
theorem lc_at {K : PySem.W.Frag} {mg : Str → Option Value} {tg : VG} {ts : VT} {el : VE} {vs : List Nat} {P : Pm} {R1 H1 : Hp} {as : List Addr} {G : Env} {m : Sto} {σ : L2.St} {us : List Tr} {J : It} {I : Nat → List Tr → Prop} {Q : VK} (r1 : Rel K mg Z P R1 as G m σ H1) (okP : ItOk K mg Z (P.at R1) R1 J us) (h0 : I 0 [])
    (hs : ∀ (i : Nat) t acc, us[i]? = some t → I i acc → tg t (wipeG G vs) (fun G2 => ts G2 m (fun b => (b = true → el G2 m (fun d => ∃ y, d = .t y ∧ acc.length < sizeLine ∧ I (i + 1) (acc ++ [y])) noX) ∧ (b = false → I (i + 1) acc)) noX))
    (fin : ∀ acc v R' H', I us.length acc → Nx P R1 H1 R' H' → Rel K mg Z P R' as G m σ H' → Rep K mg R' v (.lst acc) → Q v H') :
    ∀ D, H1 D = none → ∃ W : Nat → Nat → Hp → Prop, (∃ m, W 0 m (upd H1 D (.lst []))) ∧ ∀ i m H, W i m H →
      (J.stop i H ∧ Q (.ref D) H) ∨ (J.go i H ∧ ∃ Nx : Hp → Prop, (∀ H', Nx H' → ∃ m', m' < m ∧ W (i + 1) m' H') ∧ ∀ x H', J.yld i H x H' → LG K mg Z (some vs) tg x (wipe σ vs) H' fun σ2 H2 => wipe σ2 vs = wipe σ vs ∧ LT K mg Z W' ts σ2 H2 fun b H3 =>
        if b = true then LE K mg Z W' el σ2 H3 fun y H4 => ∃ acc, H4 D = some (.lst acc) ∧ acc.length < sizeLine ∧ Nx (upd H4 D (.lst (acc ++ [y]))) else Nx H3) := by
  intro D hD
  have b1 := r1.base
  have hR := b1.newR hD
  have hB := b1.newB hD
  have h0D : (P.at R1).H0 D = none := b1.new0 hD
  have hA : ∀ (j : Nat) x, m[j]? = some (some x) → as[j]? ≠ some D := fun j x e => b1.newA hD e
  -- what holds between the turns
  have W0 : Rel K mg Z (P.at R1) R1 as G m σ (upd H1 D (.lst [])) := b1.poke hR hB h0D hA
  refine ⟨fun i q H' => q = us.length - i ∧ i ≤ us.length ∧ ∃ R' acc xs, Rel K mg Z (P.at R1) R' as G m σ H' ∧ R' D = none ∧ H' D = some (.lst xs) ∧ Reps K mg R' xs acc ∧ I i acc ∧ Nx P R1 H1 R' H', ⟨us.length, by simp, Nat.zero_le _, R1, [], [], W0, hR, upd_same, .nil, h0, ⟨Same.refl _, fun a o ha e => by rw [upd_ne (ne_of_none e hD)]; exact e, fun a e => .inl e, fun a e => by
      by_cases hb : a = D
      · subst hb; rw [upd_same]; simp
      · rw [upd_ne hb]; exact e⟩⟩, ?_⟩
  rintro i q H' ⟨rfl, hi, R', acc, xs, r', hR', hx, rx, hI, nn⟩
  obtain ⟨ok1, ok2⟩ := okP R' as G m σ H' r' r'.r0
  by_cases hlt : i < us.length
  · have ht : us[i]? = some us[i] := List.getElem?_eq_getElem hlt
    obtain ⟨hgo, hy⟩ := ok1 i _ ht
    refine .inr ⟨hgo, fun H2 => i + 1 ≤ us.length ∧ ∃ R2 acc2 xs2, Rel K mg Z (P.at R1) R2 as G m σ H2 ∧ R2 D = none ∧ H2 D = some (.lst xs2) ∧ Reps K mg R2 xs2 acc2 ∧ I (i + 1) acc2 ∧ Nx P R1 H1 R2 H2, fun H2 ⟨a, b⟩ => ⟨us.length - (i + 1), by omega, rfl, a, b⟩, fun v H2 hv => ?_⟩
    obtain ⟨R2, s2, n2, r2, rv⟩ := hy v H2 hv
    refine ⟨P.at R1, R2, as, _, m, _, _, r2.wipe vs, rv, hs i _ acc ht hI, fun G3 σ3 h3 s3 r3 => ⟨?_, ?_⟩⟩
    · have e : ∀ (σ : L2.St) (vs : List Nat), L2.wipe (L2.wipe σ vs) vs = L2.wipe σ vs := fun σ vs => by
        have gen : ∀ us : List Nat, (∀ u ∈ us, u ∈ vs) → L2.wipe (L2.wipe σ vs) us = L2.wipe σ vs := fun us => by
          induction us with
          | nil => intro _; rfl
          | cons u us ih =>
            intro hu
            rw [L2.wipe, ih fun z hz => hu z (List.mem_cons_of_mem _ hz)]
            refine List.ext_getElem? fun j => ?_
            have hz : ∀ (ws : List Nat), u ∈ ws → u < σ.length → (L2.wipe σ ws)[u]? = some none := fun ws => by
              induction ws with
              | nil => intro h _; exact absurd h (by simp)
              | cons w ws ihw =>
                intro h hl
                rw [L2.wipe]
                by_cases hw : w = u
                · subst hw; rw [List.getElem?_set_self (by rw [wipe_length]; exact hl)]
                · rw [List.getElem?_set_ne hw]
                  rcases List.mem_cons.mp h with z | z
                  · exact absurd z.symm hw
                  · exact ihw z hl
            by_cases hj : u = j
            · subst hj
              by_cases hl : u < σ.length
              · rw [List.getElem?_set_self (by rw [wipe_length]; exact hl), hz vs (hu u List.mem_cons_self) hl]
              · rw [List.getElem?_eq_none (by rw [List.length_set, wipe_length]; omega), List.getElem?_eq_none (by rw [wipe_length]; omega)]
            · rw [List.getElem?_set_ne hj]
        exact gen vs fun _ h => h
      exact Eq.trans s3 (e σ vs)
    · have clear : ∀ {Ra Ha Rb Hb : Hp}, Nx (P.at R1) Ra Ha Rb Hb → Ra D = none → Ha D = some (.lst xs) → Rb D = none ∧ Hb D = some (.lst xs) := fun {Ra Ha Rb Hb} n0 h1 h2 => by
        refine ⟨?_, n0.h D _ hB h2⟩
        cases q : Rb D with
        | none => rfl
        | some u =>
          rcases n0.n D (by rw [q]; simp) with z | z
          · exact absurd h1 z
          · rw [h2] at z; cases z
      have n2' : Nx (P.at R1) R' H' R2 H2 := ⟨n2.r, n2.h, n2.n, n2.d⟩
      obtain ⟨c1, c2⟩ := clear n2' hR' hx
      refine LT.go r3 h3 (fun b R4 H4 ⟨hb1, hb2⟩ n4 r4 => ?_) fun nm cl R4 H4 z => z.elim
      obtain ⟨c3, c4⟩ := clear n4 c1 c2
      have nn4 : Nx P R1 H1 R4 H4 := (nn.trans ⟨n2'.r, n2'.h, n2'.n, n2'.d⟩).trans ⟨n4.r, n4.h, n4.n, n4.d⟩
      cases b with
      | false =>
        rw [if_neg Bool.false_ne_true]
        exact ⟨hlt, R4, acc, xs, r4.names r' (s2.trans n4.r), c3, c4, Reps.mono (s2.trans n4.r) rx, hb2 rfl, nn4⟩
      | true =>
        rw [if_pos rfl]
        refine LE.go r4 (hb1 rfl) (fun d w R5 H5 ⟨y, ey, hz, hI5⟩ n5 r5 d5 => ?_) fun nm cl R4 H4 z => z.elim
        subst ey
        obtain ⟨c5, c6⟩ := clear n5 c3 c4
        have s5 : Same R' R5 := (s2.trans n4.r).trans n5.r
        have nn5 : Nx P R1 H1 R5 H5 := nn4.trans ⟨n5.r, n5.h, n5.n, n5.d⟩
        cases d5 with
        | t rw' =>
          refine ⟨xs, c6, by rw [Paired.length rx]; exact hz, hlt, R5, acc ++ [y], xs ++ [w], (r5.names r' s5).poke c5 hB h0D hA, c5, upd_same, paired_append (Reps.mono s5 rx) (.cons rw' .nil), hI5, nn5.r, fun a o ha e => ?_, nn5.n, fun a e => ?_⟩
          · have ha' : a ≠ D := fun z => by rw [z, hD] at e; cases e
            rw [upd_ne ha']
            exact nn5.h a o ha e
          · by_cases hb : a = D
            · subst hb; rw [upd_same]; simp
            · rw [upd_ne hb]; exact nn5.d a e
  · have e : i = us.length := by omega
    subst e
    obtain ⟨sr, rk⟩ := r'.know hx hR' hB h0D hA
    have nf : Nx P R1 H1 (upd R' D (.lst xs)) H' := ⟨nn.r.trans sr, nn.h, fun a e => by
      by_cases hb : a = D
      · subst hb; exact .inr hD
      · rw [upd_ne hb] at e; exact nn.n a e, nn.d⟩
    exact .inl ⟨ok2, fin acc (.ref D) _ _ hI nf (r1.unbase rk) (.lstP upd_same (Reps.mono sr rx))⟩
end
section
variable {K : PySem.W.Frag} {mg : Str → Option Value} {Z : Rsc} {P : Pm} {R R' H H' : Hp} {as : List Addr} {G : Env} {m : Sto} {σ : L2.St}
theorem unlock_nx {d : Addr} {od : Obj} {xs : List (Key × V)} (r : Rel K mg Z P R as G m σ H) (h : R d = some (.dK xs)) (n : Nx (P.lk d (.frz od (.dK xs))) (upd R d (.frz od (.dK xs))) (upd H d (.frz od (.dK xs))) R' H') : Nx P R H (upd R' d (.dK xs)) (upd H' d (.dK xs)) := by
  refine ⟨fun a o e => ?_, fun a o hb e => ?_, fun a e => ?_, fun a e => ?_⟩
  · by_cases z : a = d
    · subst z; rw [h] at e; cases e; exact upd_same
    · rw [upd_ne z]; exact n.r a o (by rw [upd_ne z]; exact e)
  · by_cases z : a = d
    · subst z; rw [r.ex _ _ h] at e; cases e; exact upd_same
    · rw [upd_ne z]; exact n.h a o hb (by rw [upd_ne z]; exact e)
  · by_cases z : a = d
    · subst z; exact .inl (by rw [h]; exact fun q => nomatch q)
    · rw [upd_ne z] at e
      have := n.n a e
      rw [upd_ne z, upd_ne z] at this
      exact this
  · by_cases z : a = d
    · subst z; rw [upd_same]; exact fun q => nomatch q
    · rw [upd_ne z]; exact n.d a (by rw [upd_ne z]; exact e)
end
section
variable {X : Cx} {Z : Rsc} {W W' : WX} {e tg iter elt : Expr} {ifs : List Expr} {vd ve : VE} {vg : VG} {vt : VT} {pos : Pos}
theorem v_lcJ {scope : Scope} {own : List (Str × Nat)} (J : Addr → Obj → List (Key × V) → It) (F : List (Key × Tr) → List Tr) (hok : ∀ (P : Pm) (R : Hp) (d : Addr) (o : Obj) (kvs : List (Key × V)) (ts : List (Key × Tr)), R d = some (.frz o (.dK kvs)) → RepsP X.K X.mg R kvs ts → ItOk X.K X.mg Z P R (J d o kvs) (F ts))
    (Gp : V → Hp → (It → Hp → Prop) → Prop) (hG : ∀ (d : Addr) (o : Obj) (kvs : List (Key × V)) (H1 : Hp) (R : It → Hp → Prop), H1 d = some (.frz o (.dK kvs)) → R (J d o kvs) H1 → Gp (.ref d) H1 R)
    (hpi : ∀ {td : TE}, PE X e td → PI X tg iter (fun σ H R => td σ H fun x H1 => Gp x H1 R)) (hc : X.calm = true) (hN : X.N.Nodup) (hi : PE X e (LE X.K X.mg Z W vd)) (ok : BlkOk X.N X.env.scope scope own)
    (hg : ∀ (s : Shared) (H : Hp) (C : Addr) (cl : List (Str × Addr)) (fp : List Addr), PG (X.blk s H scope (compEnvC scope cl C X.env) fp) tg (LG X.K X.mg Z (some (own.map (·.2))) vg))
    (ht : ∀ (s : Shared) (H : Hp) (C : Addr) (cl : List (Str × Addr)) (fp : List Addr), PTs (X.blk s H scope (compEnvC scope cl C X.env) fp) ifs (LT X.K X.mg Z W' vt))
    (he : ∀ (s : Shared) (H : Hp) (C : Addr) (cl : List (Str × Addr)) (fp : List Addr), PE (X.blk s H scope (compEnvC scope cl C X.env) fp) elt (LE X.K X.mg Z W' ve)) (hs : ∀ x, foldedSetIterable iter X.env x = pure x := by intro _; rfl) :
    PE X (.ListComp elt [⟨tg, iter, ifs, 0⟩] scope pos) (LE X.K X.mg Z W (vLc (viD F vd) vg vt ve (own.map (·.2)))) :=
  PE.imp (pe_un (pe_lc hc hN (hpi (pe_lk hi)) ok hg ht he hs)) fun σ H Q ⟨P, R, as, G, m, k, x, r, h, n⟩ => LE.go r h (fun dv v R1 H1 ⟨ts, ed, I, h0, hs, hd⟩ n1 r1 d1 => by
    subst ed
    cases d1 with
    | t rv =>
      obtain ⟨d, xs, rfl, hx, rx⟩ := rv.dic_inv
      rcases hx with hx | ⟨o, hx⟩
      · refine .inr ⟨d, .dK xs, r1.ex _ _ hx, trivial, fun nf od => hG d od xs _ _ upd_same ?_⟩
        have s : Alike d xs R1 (upd R1 d (.frz od (.dK xs))) := ⟨fun a n => upd_ne n, .inl hx, .inr ⟨od, upd_same⟩⟩
        have dn : ∀ {R' as' G' m' σ' H'}, Rel X.K X.mg Z (P.lk d (.frz od (.dK xs))) R' as' G' m' σ' H' → H' d = some (.frz od (.dK xs)) := fun b => b.ex _ _ (b.r0 d _ (by show upd P.R0 d _ d = _; exact upd_same))
        exact lc_at (Q := fun v => UnK X (Q v)) (r1.lock hx) (hok _ _ _ _ _ _ upd_same (rx.alike s)) h0 hs fun acc v R' H' hI nx r' rv' => .inr ⟨d, od, .dK xs, dn r', nf, n.ok (.t (.lst acc)) v _ _ (hd acc hI) (n1.trans (unlock_nx r1 hx nx)) (r1.unlock hx r').2 (.t (rv'.alike (r1.unlock hx r').1))⟩
      · exact .inl (hG d o xs _ _ (r1.ex _ _ hx) (lc_at (Q := fun v => UnK X (Q v)) r1 (hok _ _ _ _ _ _ hx rx) h0 hs fun acc v R' H' hI nx r' rv' => .inl (n.ok (.t (.lst acc)) v _ _ (hd acc hI) (n1.trans nx) r' (.t rv'))))) n.er
theorem v_lcK {scope : Scope} {own : List (Str × Nat)} (hc : X.calm = true) (hN : X.N.Nodup) (hi : PE X e (LE X.K X.mg Z W vd)) (ok : BlkOk X.N X.env.scope scope own)
    (hg : ∀ (s : Shared) (H : Hp) (C : Addr) (cl : List (Str × Addr)) (fp : List Addr), PG (X.blk s H scope (compEnvC scope cl C X.env) fp) tg (LG X.K X.mg Z (some (own.map (·.2))) vg))
    (ht : ∀ (s : Shared) (H : Hp) (C : Addr) (cl : List (Str × Addr)) (fp : List Addr), PTs (X.blk s H scope (compEnvC scope cl C X.env) fp) ifs (LT X.K X.mg Z W' vt))
    (he : ∀ (s : Shared) (H : Hp) (C : Addr) (cl : List (Str × Addr)) (fp : List Addr), PE (X.blk s H scope (compEnvC scope cl C X.env) fp) elt (LE X.K X.mg Z W' ve)) (hs : ∀ x, foldedSetIterable e X.env x = pure x := by intro _; rfl) :
    PE X (.ListComp elt [⟨tg, e, ifs, 0⟩] scope pos) (LE X.K X.mg Z W (vLc (viD keysT vd) vg vt ve (own.map (·.2)))) :=
  v_lcJ Itk keysT (fun _ _ _ _ _ _ h r => itok_keys h r) _ (fun d o kvs H1 R h q => ⟨d, o, rfl, .inl ⟨kvs, h, q⟩⟩) (fun {td} h => pi_keys h) hc hN hi ok hg ht he hs
theorem vs_setLcK {i : Nat} {y : Str} {py spos : Pos} {scope : Scope} {own : List (Str × Nat)} (hc : X.calm = true) (hN : X.N.Nodup) (hy : X.N[i]? = some y) (hyl : X.env.scope.names.lookup y = some .local)
    (hsw : swapsWith (.ListComp elt [⟨tg, e, ifs, 0⟩] scope pos) (some (.Name y py)) spos.line X.env = pure true) (hi : PE X e (LE X.K X.mg Z W vd)) (ok : BlkOk X.N X.env.scope scope own)
    (hg : ∀ (s : Shared) (H : Hp) (C : Addr) (cl : List (Str × Addr)) (fp : List Addr), PG (X.blk s H scope (compEnvC scope cl C X.env) fp) tg (LG X.K X.mg Z (some (own.map (·.2))) vg))
    (ht : ∀ (s : Shared) (H : Hp) (C : Addr) (cl : List (Str × Addr)) (fp : List Addr), PTs (X.blk s H scope (compEnvC scope cl C X.env) fp) ifs (LT X.K X.mg Z W' vt))
    (he : ∀ (s : Shared) (H : Hp) (C : Addr) (cl : List (Str × Addr)) (fp : List Addr), PE (X.blk s H scope (compEnvC scope cl C X.env) fp) elt (LE X.K X.mg Z W' ve)) (hs : ∀ x, foldedSetIterable e X.env x = pure x := by intro _; rfl) :
    PS X (.Assign [.Name y py] (.ListComp elt [⟨tg, e, ifs, 0⟩] scope pos) spos) (LS X.K X.mg Z W (vSet i (vLc (viD keysT vd) vg vt ve (own.map (·.2))))) :=
  PS.imp (ps_un (ps_setLc hc hN hy hyl hsw (pi_keys (pe_lk hi)) ok hg ht he hs)) fun Dd σ H ⟨P, R, as, G, m, nx, rt, bk, ct, ex, r, h, k⟩ => LE.go r h (fun dv v R1 H1 ⟨ts, ed, I, h0, hs, hd⟩ n1 r1 d1 => by
    subst ed
    cases d1 with
    | t rv =>
      obtain ⟨d, xs, rfl, hx, rx⟩ := rv.dic_inv
      rcases hx with hx | ⟨o, hx⟩
      · refine .inr ⟨d, .dK xs, r1.ex _ _ hx, trivial, fun nf od => ⟨d, od, rfl, .inl ⟨xs, upd_same, ?_⟩⟩⟩
        have s : Alike d xs R1 (upd R1 d (.frz od (.dK xs))) := ⟨fun a n => upd_ne n, .inl hx, .inr ⟨od, upd_same⟩⟩
        have dn : ∀ {R' as' G' m' σ' H'}, Rel X.K X.mg Z (P.lk d (.frz od (.dK xs))) R' as' G' m' σ' H' → H' d = some (.frz od (.dK xs)) := fun b => b.ex _ _ (b.r0 d _ (by show upd P.R0 d _ d = _; exact upd_same))
        exact lc_at (Q := fun v H' => UnK X (Dd.nx (σ.set i (some v))) H') (r1.lock hx) (itok_keys upd_same (rx.alike s)) h0 hs fun acc v R' H' hI nx r' rv' => .inr ⟨d, od, .dK xs, dn r', nf, k.nx _ m _ as _ _ (hd acc hI) ((r1.unlock hx r').2.set (.t (rv'.alike (r1.unlock hx r').1)))⟩
      · refine .inl ⟨d, o, rfl, .inl ⟨xs, r1.ex _ _ hx, ?_⟩⟩
        exact lc_at (Q := fun v H' => UnK X (Dd.nx (σ.set i (some v))) H') r1 (itok_keys hx rx) h0 hs fun acc v R' H' hI nx r' rv' => .inl (k.nx _ m _ as _ _ (hd acc hI) (r'.set (.t rv')))) k.er
end
end VL

/-! VM, part K: a list's items taken by names. -/
namespace VL
open PySem L2
def vgUnl (n : Nat) (gs : VGs) : VG := fun t G k => ∃ ts, t = .lst ts ∧ ts.length = n ∧ gs ts G k
section
variable {X : Cx} {Z : Rsc} {es : List Expr} {vgs : VGs} {pos : Pos}
theorem vg_unl {j n : Nat} {o : Option (List Nat)} (hc : X.calm = true) (h : PGs X es (LGs X.K X.mg Z o vgs)) (hn : (assignEach es X.env).length = n := by rfl) (hst : (assignEach es X.env).findIdx? (·.1) = none := by rfl) : PG X (.Tuple es j pos) (LG X.K X.mg Z o (vgUnl n vgs)) :=
  PG.imp (pg_unl hc h hn hst) fun v σ H Q ⟨P, R, as, G, m, t, k, r, rv, ⟨ts, et, hl, h⟩, n⟩ => by
    subst et
    obtain ⟨a, xs, rfl, hx, rx⟩ := rv.lst_inv
    exact ⟨a, xs, rfl, .inl (.inl (r.ex _ _ hx)), (Paired.length rx).trans hl, P, R, as, G, m, ts, k, r, rx, h, n⟩
theorem st_unl {n : Nat} {gs : VGs} {ts : List Tr} {G : Env} {k : Env → Prop} (hl : ts.length = n) (h : gs ts G k) : vgUnl n gs (.lst ts) G k := ⟨ts, rfl, hl, h⟩
end
end VL

/-! VM, part L: xs.count(k), xs.index(k) of whole numbers. -/
namespace VL
open PySem L2
def vCntL (o e : VE) : VE := fun G m q x => o G m (fun dd => (∃ ns : List Int, view m dd = some (.lst (ns.map .int))) ∧ e G m (fun de => ∃ (ns : List Int) (k : Int), view m dd = some (.lst (ns.map .int)) ∧ view m de = some (.int k) ∧ q (.t (.int (ns.count k : Nat)))) x) x
def vIdxL (o e : VE) : VE := fun G m q x => o G m (fun dd => (∃ ns : List Int, view m dd = some (.lst (ns.map .int))) ∧ e G m (fun de => ∃ (ns : List Int) (k : Int), view m dd = some (.lst (ns.map .int)) ∧ view m de = some (.int k) ∧ k ∈ ns ∧ q (.t (.int (ns.idxOf k : Nat)))) x) x
section
variable {X : Cx} {Z : Rsc} {W : WX} {o e : Expr} {vo ve : VE} {apos pos : Pos}
theorem v_cntL (ho : PE X o (LE X.K X.mg Z W vo)) (he : PE X e (LE X.K X.mg Z W ve)) (hbase : attributeBase o "count" X.env (eval o X.env) = eval o X.env := by rfl)
    (hfew : ((backTo pos (starEach [e] X.env)).all (fun x => !x.1) && (backToKw pos (keywordEach [] X.env)).all (fun x => x.1.isSome)
      && decide ([e].length + ([] : List Keyword).length + (if ([] : List Keyword).isEmpty then 0 else 1) < 30)) = true := by rfl)
    (hline : (apos.endLine == pos.line) = true := by rfl) (hs : starEach [e] X.env = (false, eval e X.env) :: starEach [] X.env := by rfl) :
    PE X (.Call (.Attribute o "count" apos) [e] [] pos) (LE X.K X.mg Z W (vCntL vo ve)) :=
  PE.imp (pe_bm PySem.F.plainAttrs_list PySem.F.slot_list_count PySem.F.type_list_count mt_lcount ho (pa_cons he pa_nil hs) hbase hfew hline hs) fun σ H Q ⟨P, R, as, G, m, k, x, r, h, n⟩ => LE.go r h (fun d v R1 H1 ⟨⟨ns0, e0⟩, h1⟩ n1 r1 d1 => by
    obtain ⟨a, xs0, rfl, hx0, _⟩ := r1.vLst d1 e0
    refine ⟨.inl ⟨rfl, _, .inl (.inl hx0)⟩, LE.go r1 h1 (fun y w R2 H2 ⟨ns, kk, e1, e2, h2⟩ n2 r2 d2 => ?_) fun nm cl R' H' a b c d => n.er nm cl R' H' a b (n1.trans c) d⟩
    obtain ⟨a', xs, e3, hx, rx⟩ := r2.vLst (d1.mono n2.r) e1
    cases e3
    rw [r2.vInt d2 e2]
    exact ⟨a, ns, kk, rfl, rfl, .inl (.inl (by rw [reps_ints rx] at hx; exact hx)), n.ok _ _ _ _ h2 (n1.trans n2) r2 (.t (.int _))⟩) n.er
theorem idxOf_no {k : Int} : ∀ {ns : List Int} {i : Nat}, i < ns.idxOf k → ns[i]? ≠ some k
  | [], i, h => by simp
  | a :: ns, 0, h => by
    rw [List.idxOf_cons] at h
    intro e
    have e : a = k := by simpa using e
    simp [e] at h
  | a :: ns, i + 1, h => by
    rw [List.idxOf_cons] at h
    intro e
    have e : ns[i]? = some k := by simpa using e
    by_cases c : a = k
    · simp [c] at h
    · rw [show (a == k) = false by simpa using c] at h
      exact idxOf_no (i := i) (by simpa using h) e
theorem eqV_int (a b : Int) : eqV (.int a) (.int b) = decide (a = b) := by
  unfold eqV
  first | rfl | (by_cases h : a = b <;> simp [h])
theorem v_idxL (ho : PE X o (LE X.K X.mg Z W vo)) (he : PE X e (LE X.K X.mg Z W ve)) (hbase : attributeBase o "index" X.env (eval o X.env) = eval o X.env := by rfl)
    (hfew : ((backTo pos (starEach [e] X.env)).all (fun x => !x.1) && (backToKw pos (keywordEach [] X.env)).all (fun x => x.1.isSome)
      && decide ([e].length + ([] : List Keyword).length + (if ([] : List Keyword).isEmpty then 0 else 1) < 30)) = true := by rfl)
    (hline : (apos.endLine == pos.line) = true := by rfl) (hs : starEach [e] X.env = (false, eval e X.env) :: starEach [] X.env := by rfl) :
    PE X (.Call (.Attribute o "index" apos) [e] [] pos) (LE X.K X.mg Z W (vIdxL vo ve)) :=
  PE.imp (pe_bm PySem.F.plainAttrs_list PySem.F.slot_list_index PySem.F.type_list_index mt_index ho (pa_cons he pa_nil hs) hbase hfew hline hs) fun σ H Q ⟨P, R, as, G, m, k, x, r, h, n⟩ => LE.go r h (fun d v R1 H1 ⟨⟨ns0, e0⟩, h1⟩ n1 r1 d1 => by
    obtain ⟨a, xs0, rfl, hx0, _⟩ := r1.vLst d1 e0
    refine ⟨.inl ⟨rfl, _, .inl (.inl hx0)⟩, LE.go r1 h1 (fun y w R2 H2 ⟨ns, kk, e1, e2, hm, h2⟩ n2 r2 d2 => ?_) fun nm cl R' H' a b c d => n.er nm cl R' H' a b (n1.trans c) d⟩
    obtain ⟨a', xs, e3, hx, rx⟩ := r2.vLst (d1.mono n2.r) e1
    cases e3
    rw [r2.vInt d2 e2]
    have hj := List.idxOf_lt_length_of_mem hm
    refine ⟨a, ns.map V.int, .int kk, ns.idxOf kk, .int kk, rfl, rfl, .inl (.inl (by rw [reps_ints rx] at hx; exact hx)), rfl, ?_, ?_, by rw [eqV_int]; simp, ?_, n.ok _ _ _ _ h2 (n1.trans n2) r2 (.t (.int _))⟩
    · rw [List.all_eq_true]
      intro z hz
      obtain ⟨_, _, rfl⟩ := List.mem_map.mp hz
      rfl
    · rw [List.getElem?_map, List.getElem?_eq_getElem hj]
      simp
    · intro i z hi hz
      rw [List.getElem?_map] at hz
      obtain ⟨q, hq⟩ : ∃ q, ns[i]? = some q := ⟨_, List.getElem?_eq_getElem (by omega)⟩
      rw [hq] at hz
      have hz := Option.some.inj hz
      subst hz
      rw [eqV_int]
      refine decide_eq_false fun e => ?_
      subst e
      exact idxOf_no hi hq) n.er
theorem st_cntL {vo ve : VE} {G : Env} {m : Sto} {q : DK} {x : XK} (h : vo G m (fun dd => (∃ ns : List Int, view m dd = some (.lst (ns.map .int))) ∧ ve G m (fun de => ∃ (ns : List Int) (k : Int), view m dd = some (.lst (ns.map .int)) ∧ view m de = some (.int k) ∧ q (.t (.int (ns.count k : Nat)))) x) x) : vCntL vo ve G m q x := h
theorem st_idxL {vo ve : VE} {G : Env} {m : Sto} {q : DK} {x : XK} (h : vo G m (fun dd => (∃ ns : List Int, view m dd = some (.lst (ns.map .int))) ∧ ve G m (fun de => ∃ (ns : List Int) (k : Int), view m dd = some (.lst (ns.map .int)) ∧ view m de = some (.int k) ∧ k ∈ ns ∧ q (.t (.int (ns.idxOf k : Nat)))) x) x) : vIdxL vo ve G m q x := h
theorem st_cl1 {ns : List Int} {A : Prop} {dd : Dv} {m : Sto} (h : view m dd = some (.lst (ns.map .int))) (q : A) : (∃ ns : List Int, view m dd = some (.lst (ns.map .int))) ∧ A := ⟨⟨ns, h⟩, q⟩
theorem st_cl2 {ns : List Int} {i : Int} {A : Int → Prop} {dd de : Dv} {m : Sto} (h : view m dd = some (.lst (ns.map .int))) (h2 : view m de = some (.int i)) (q : A (ns.count i : Nat)) : ∃ (ns : List Int) (k : Int), view m dd = some (.lst (ns.map .int)) ∧ view m de = some (.int k) ∧ A (ns.count k : Nat) := ⟨ns, i, h, h2, q⟩
end
end VL

/-! VM, part M: methods of owned instances that change the store. -/
namespace VL
open PySem L2
section
variable {K : PySem.W.Frag} {mg : Str → Option Value} {Z Z' : Rsc} {W : WX} {P : Pm} {R R1 H H1 : Hp} {as : List Addr} {G : Env} {m : Sto} {σ : L2.St}
theorem callM_end {sp : VSpM} {n : Nat} {js ns : List Nat} {dr : Option Nat} (hZ : Z'.Z = Z.Z) (hn : Z'.n0 = js.length) (n0 : ∀ n ∈ ns, Z.n0 ≤ n) (hl : ∀ ds m k x, sp ds m k x → ds.length = n) {ds : List Dv} {vs : List V} {k : MK} {x : XS} {Q : VK}
    (hc : callM sp js ns dr G m ds k x) (n1 : Nx P R H R1 H1) (r1 : Rel K mg Z P R1 as G m σ H1) (d1 : Paired (DRep K mg R1 P.hd as) vs ds) (nn : KnM K mg Z W dr ns P R as G m σ H k x Q) : liftM K mg Z' n sp vs H1 Q (WE W σ) := by
  obtain ⟨nd, lt, fr, cs, hc, h1⟩ := hc
  have nd := of_decide_eq_true nd
  have hj := cells_all hc
  have ndj : js.Nodup := (List.nodup_append.mp nd).1
  have dre : ∀ {Rc' R2 : Hp} {as' : List Addr} {d d' : Dv} {v : V} (to : ∀ i j a : Nat, (js ++ ns)[i]? = some j → as'[i]? = some a → (putS as (fun i => as'[i]?) (js ++ ns) 0)[j]? = some a), (∀ y, d = .t y → Rep K mg Rc' v y → Rep K mg R2 v y) → outD (js ++ ns) d = some d' → DRep K mg Rc' P.hd as' v d → DRep K mg R2 P.hd (putS as (fun i => as'[i]?) (js ++ ns) 0) v d' := fun {Rc' R2 as' d d' v} to hk e q => by
    cases q with
    | t q => cases e; exact .t (hk _ rfl q)
    | hnd i => cases e
    | @loc i a q =>
      have e : ((js ++ ns)[i]?).map Dv.loc = some d' := e
      cases e1 : (js ++ ns)[i]? with
      | none => rw [e1] at e; cases e
      | some j => rw [e1] at e; cases e; exact .loc (to i j a e1 q)
  rcases h1 with ⟨ds', h1, h2⟩ | ⟨ds', h1, h2⟩
  · have hsj : ∀ a, a ∈ atS as js → R1 a = none := fun a ha => by
      unfold atS at ha
      obtain ⟨l, hl1, hl2⟩ := List.mem_map.mp ha
      obtain ⟨z, hz⟩ := hj l hl1
      obtain ⟨b, w1, _, w3, _⟩ := r1.sto l z hz
      have e' := as_in r1 hz
      rw [hl2, w1] at e'
      cases e'
      exact w3
    have ent := r1.enter hZ hn ndj hc (Same.refl R1) r1.ex r1.rb hsj
    have da := args_A (fun j hjm => let ⟨x, hx⟩ := hj j hjm; as_in r1 hx) d1 h1
    refine ⟨by rw [Paired.length da]; exact hl _ _ _ _ h2, _, R1, ds', atS as js, cs, _, _, rfl, rfl, rfl, fun a ha => ha, by rw [hn]; simp [atS], ent, da, h2, fun d m' v R2 as' H2 hpost q dv => ?_, fun nm cl m' R2 as' H2 hx hcl q => ?_⟩
    · obtain ⟨d', e1, hk⟩ := hpost _ rfl
      obtain ⟨r2, far, to⟩ := r1.leaveM hZ hn n0 nd lt fr hj q q.r0 q.fresh q.ex q.rb (fun i c a hc ha => by
        obtain ⟨b, w1, _, w3, _⟩ := q.sto i c hc
        rw [ha] at w1; cases w1; exact w3) (C := fun _ => True) (fun _ _ _ q => q) (fun i c _ _ => by cases c <;> intros <;> first | exact trivial | (intro t ht; exact trivial) | (intro t ht _; exact trivial))
      exact nn.ok d' v _ R2 _ H2 hk (n1.r.trans q.r0) far r2 (dre to (fun _ _ q => q) e1 dv)
    · obtain ⟨r2, far, to⟩ := r1.leaveM hZ hn n0 nd lt fr hj q q.r0 q.fresh q.ex q.rb (fun i c a hc ha => by
        obtain ⟨b, w1, _, w3, _⟩ := q.sto i c hc
        rw [ha] at w1; cases w1; exact w3) (C := fun _ => True) (fun _ _ _ q => q) (fun i c _ _ => by cases c <;> intros <;> first | exact trivial | (intro t ht; exact trivial) | (intro t ht _; exact trivial))
      exact nn.er nm cl _ R2 _ _ H2 (hx _ rfl) hcl r2
  · have s1 : Same R1 (less P H1 (atS as js)) := fun a o e => less_of (r1.ex a o e) (fun b => by rw [r1.rb a b] at e; cases e) fun ha => by
      unfold atS at ha
      obtain ⟨l, hl1, hl2⟩ := List.mem_map.mp ha
      obtain ⟨z, hz⟩ := hj l hl1
      obtain ⟨b, w1, _, w3, _⟩ := r1.sto l z hz
      have e' := as_in r1 hz
      rw [hl2, w1] at e'
      cases e'
      rw [w3] at e; cases e
    have ent := r1.enter hZ hn ndj hc s1 (less_same P H1 _) (fun a b => by unfold less; rw [if_pos (.inl b)]) (fun a b => by unfold less; rw [if_pos (.inr b)])
    have da := args_B r1 hj s1 d1 h1
    have fin : ∀ {R2 H2 : Hp} {as' : List Addr} {m' : Sto}, Rel K mg Z' (P.inner H1 (less P H1 (atS as js)) as js) R2 as' [] m' [] H2 → (∀ i c, i < (js ++ ns).length → m'.getD i none = some c → flatC c) → _ := fun {R2 H2 as' m'} q hfl =>
      r1.leaveM hZ hn n0 nd lt fr hj q (Same.refl R1) (fun a e => .inl e) (fun a o e => by
        have e2 := s1 a o e
        unfold less at e2
        split at e2
        · cases e2
        · rename_i hne
          exact q.frame a o e2 (fun z => hne (.inr z)) fun z => hne (.inl z)) r1.rb (fun i c a hc ha => by
        obtain ⟨b, w1, _, w3, _⟩ := q.sto i c hc
        rw [ha] at w1; cases w1
        cases z : R1 a with
        | none => rfl
        | some o => rw [q.r0 a o (s1 a o z)] at w3; cases w3) (C := fun t => t.flat = true) (fun v t ht q => q.flat ht) hfl
    refine ⟨by rw [Paired.length da]; exact hl _ _ _ _ h2, _, _, ds', atS as js, cs, _, _, rfl, rfl, rfl, fun a ha => ha, by rw [hn]; simp [atS], ent, da, h2, fun d m' v R2 as' H2 ⟨hfd, hfl, hpost⟩ q dv => ?_, fun nm cl m' R2 as' H2 ⟨hfl, hx⟩ hcl q => ?_⟩
    · obtain ⟨d', e1, hk⟩ := hpost _ rfl
      obtain ⟨r2, far, to⟩ := fin q hfl
      exact nn.ok d' v _ R1 _ H2 hk n1.r far r2 (dre to (fun y ey q => by subst ey; exact q.flat hfd) e1 dv)
    · obtain ⟨r2, far, to⟩ := fin q hfl
      exact nn.er nm cl _ R1 _ _ H2 (hx _ rfl) hcl r2
end
/-- an M def as a method -/
def DfHM (Pg : Program) (w : World) (K : PySem.W.Frag) (mg : Str → Option Value) (base : Heap) (CX : CXT) (k : Nat) (c me : Str) (ps : List Str) (Z : Rsc) (sp : VSpM) : Prop :=
  ∃ f fd C, FnOk Pg w K mg base CX k f fd ps (liftM K mg Z ps.length sp) ∧ mg c = some (.ref C) ∧ Cls K C ∧ Meth K C me f ∧ Binds K fd ps []
def vmMeth (c me : Str) (sp : VSpM) (js ns : List Nat) (dr : Option Nat) (o : VE) (es : VA) : VM := fun G m k x => o G m (fun d => hasI c me m d ∧ es G m (fun ds => callM sp js ns dr G m (d :: ds) k x) (fun n => x n G m)) (fun n => x n G m)
section
variable {X : Cx} {Z Z' : Rsc} {W : WX} {CX : CXT} {k : Nat} {ps : List Str} {sp : VSpM} {c me : Str} {apos pos : Pos} {o e : Expr} {es : List Expr} {vo : VE} {va : VA} {js ns : List Nat} {dr : Option Nat}
theorem vm_meth {pl : Sem Bool} (D : DfHM X.prog X.w X.K X.mg X.base CX k c me ps Z' sp) (hZ : Z'.Z = Z.Z) (hn : Z'.n0 = js.length) (n0 : ∀ n ∈ ns, Z.n0 ≤ n) (hl : ∀ ds m k x, sp ds m k x → ds.length = ps.length) (hr : Room k X.A) (hx : ∀ σ, PassesAt CX X σ (WE W σ))
    (ho : PE X o (LE X.K X.mg Z W vo)) (ha : PA X (e :: es) (LA X.K X.mg Z W va))
    (hst : starEach (e :: es) X.env = (false, eval e X.env) :: starEach es X.env := by rfl) (hpl : (backTo pos (starEach es X.env)).any (·.1) = false := by rfl)
    (ht : eval (.Call (.Attribute o me apos) (e :: es) [] pos) X.env = (do
      let ov ← eval o X.env
      standAt apos.atName
      let (f, first) ← holding [ov] (getMethod ov me pl)
      callWith pos f first (backTo pos (starEach (e :: es) X.env)) (backToKw pos (keywordEach [] X.env))) := by rfl) :
    PE X (.Call (.Attribute o me apos) (e :: es) [] pos) (LM X.K X.mg Z W dr ns (vmMeth c me sp js ns dr vo va)) := by
  obtain ⟨f, fd, C, F, hmg, cl, hm, hb⟩ := D
  exact PE.imp (pe_methE (pl := pl) ho cl hm F hr hb hx ha hst hpl ht) fun σ H Q ⟨P, R, as, G, m, kk, x, r, h, n⟩ => LE.go r h (fun d v R1 H1 ⟨hi, h1⟩ n1 r1 d1 => by
    have key : ∃ a dx fs, v = .ref a ∧ H1 a = some (.ins C dx fs) ∧ fs.lookup me = none := by
      rcases hi with ⟨fs, e1, e2⟩ | ⟨j, fs, ed, ej, e2⟩
      · obtain ⟨a, C', dx, xs, rfl, hm', ha', rx⟩ := r1.vIns d1 e1
        rw [hmg] at hm'
        cases hm'
        exact ⟨a, dx, xs, rfl, ha', look_none rx e2⟩
      · subst ed
        cases d1 with
        | loc hl =>
          obtain ⟨a, a1, a2, _⟩ := r1.sto _ _ ej
          rw [a1] at hl; cases hl
          obtain ⟨C', dx, xs, hm', hx', rx⟩ := a2
          rw [hmg] at hm'
          cases hm'
          exact ⟨_, dx, xs, rfl, hx', look_none rx e2⟩
    obtain ⟨a, dx, fs, ev, hH, hl2⟩ := key
    refine ⟨a, dx, fs, ev, hH, hl2, LA.go r1 h1 (fun ds vs R2 H2 h2 n2 r2 d2 => ?_) fun nm cl R' H' a b c d => n.er nm cl m R' as G H' a b d⟩
    exact callM_end hZ hn n0 hl h2 (n1.trans n2) r2 (.cons (d1.mono n2.r) d2) n) fun nm cl R1 H1 a b c d => n.er nm cl m R1 as G H1 a b d
end
section
open PyProof.Rows PySem.Spec
variable {X : Cx} {CX : CXT} {k : Nat} {f C : Addr} {fd : FuncData} {ps : List Str} {sp : Sp} {E : L2.St → L2.XK} {me : Str} {pos apos : Pos} {o : Expr} {ta : TE}
theorem pe_meth0E {pl : Sem Bool} (he : PE X o ta) (c : Cls X.K C) (hm : Meth X.K C me f) (F : FnOk X.prog X.w X.K X.mg X.base CX k f fd ps sp) (hr : Room k X.A) (hb : Binds X.K fd ps []) (hx : ∀ σ, PassesAt CX X σ (E σ))
    (ht : eval (.Call (.Attribute o me apos) [] [] pos) X.env = (do
      let ov ← eval o X.env
      standAt apos.atName
      let (f, first) ← holding [ov] (getMethod ov me pl)
      callWith pos f first (backTo pos (starEach [] X.env)) (backToKw pos (keywordEach [] X.env))) := by rfl) :
    PE X (.Call (.Attribute o me apos) [] [] pos) (tMethE C me sp E ta tNil) := by
  refine ⟨fun pins s σ H Q I h => ?_⟩
  refine PySem.W.methodCall_KW (pl := pl) (thn (he.run pins s σ H _ I h) fun u s1 ⟨x, H1, I1, rx, a, dx, fs, ex, ea, l, q⟩ => ?_) ht
  subst ex
  obtain rfl : u = Value.ref a := rx
  refine getmeth_ok I1 ea c hm l ?_
  exact PySem.W.callWith_K0 (first := [.ref a]) I1.kIn hm.kp (run_fnS (us := [.ref a]) (vs := [.ref a]) F hr hb (hx σ) I1 (.cons rfl .nil) q)
end
theorem hasI_key {K : PySem.W.Frag} {mg : Str → Option Value} {Z : Rsc} {P : Pm} {R1 H1 : Hp} {as : List Addr} {G : Env} {m : Sto} {σ : L2.St} {c me : Str} {C : Addr} {d : Dv} {v : V} (hmg : mg c = some (.ref C)) (hi : hasI c me m d) (r1 : Rel K mg Z P R1 as G m σ H1) (d1 : DRep K mg R1 P.hd as v d) : ∃ a dx fs, v = .ref a ∧ H1 a = some (.ins C dx fs) ∧ fs.lookup me = none := by
  rcases hi with ⟨fs, e1, e2⟩ | ⟨j, fs, ed, ej, e2⟩
  · obtain ⟨a, C', dx, xs, rfl, hm', ha', rx⟩ := r1.vIns d1 e1
    rw [hmg] at hm'
    cases hm'
    exact ⟨a, dx, xs, rfl, ha', look_none rx e2⟩
  · subst ed
    cases d1 with
    | loc hl =>
      obtain ⟨a, a1, a2, _⟩ := r1.sto _ _ ej
      rw [a1] at hl; cases hl
      obtain ⟨C', dx, xs, hm', hx', rx⟩ := a2
      rw [hmg] at hm'
      cases hm'
      exact ⟨_, dx, xs, rfl, hx', look_none rx e2⟩
def vmMeth0 (c me : Str) (sp : VSpM) (js ns : List Nat) (dr : Option Nat) (o : VE) : VM := fun G m k x => o G m (fun d => hasI c me m d ∧ callM sp js ns dr G m [d] k x) (fun n => x n G m)
abbrev vMethI0 (c me : Str) (sp : VSp) (o : VE) : VE := fun G m k x => o G m (fun d => hasI c me m d ∧ fCallI sp x m [d] k) x
section
variable {X : Cx} {Z Z' : Rsc} {W : WX} {CX : CXT} {k : Nat} {ps : List Str} {c me : Str} {apos pos : Pos} {o : Expr} {vo : VE} {js ns : List Nat} {dr : Option Nat}
theorem vm_meth0 {pl : Sem Bool} {sp : VSpM} (D : DfHM X.prog X.w X.K X.mg X.base CX k c me ps Z' sp) (hZ : Z'.Z = Z.Z) (hn : Z'.n0 = js.length) (n0 : ∀ n ∈ ns, Z.n0 ≤ n) (hl : ∀ ds m k x, sp ds m k x → ds.length = ps.length) (hr : Room k X.A) (hx : ∀ σ, PassesAt CX X σ (WE W σ))
    (ho : PE X o (LE X.K X.mg Z W vo))
    (ht : eval (.Call (.Attribute o me apos) [] [] pos) X.env = (do
      let ov ← eval o X.env
      standAt apos.atName
      let (f, first) ← holding [ov] (getMethod ov me pl)
      callWith pos f first (backTo pos (starEach [] X.env)) (backToKw pos (keywordEach [] X.env))) := by rfl) :
    PE X (.Call (.Attribute o me apos) [] [] pos) (LM X.K X.mg Z W dr ns (vmMeth0 c me sp js ns dr vo)) := by
  obtain ⟨f, fd, C, F, hmg, cl, hm, hb⟩ := D
  exact PE.imp (pe_meth0E (pl := pl) ho cl hm F hr hb hx ht) fun σ H Q ⟨P, R, as, G, m, kk, x, r, h, n⟩ => LE.go r h (fun d v R1 H1 ⟨hi, h1⟩ n1 r1 d1 => by
    obtain ⟨a, dx, fs, ev, hH, hl2⟩ := hasI_key hmg hi r1 d1
    exact ⟨a, dx, fs, ev, hH, hl2, callM_end hZ hn n0 hl h1 n1 r1 (.cons d1 .nil) n⟩) fun nm cl R1 H1 a b c d => n.er nm cl m R1 as G H1 a b d
theorem v_methI0 {pl : Sem Bool} {sp : VSp} (D : DfH X.prog X.w X.K X.mg X.base CX k c me ps Z' sp) (hZ : Z'.Z = Z.Z) (hz : Z'.n0 = 0) (hn : ∀ ds k x, sp ds k x → ds.length = ps.length) (hr : Room k X.A) (hx : ∀ σ, PassesAt CX X σ (WE W σ))
    (ho : PE X o (LE X.K X.mg Z W vo))
    (ht : eval (.Call (.Attribute o me apos) [] [] pos) X.env = (do
      let ov ← eval o X.env
      standAt apos.atName
      let (f, first) ← holding [ov] (getMethod ov me pl)
      callWith pos f first (backTo pos (starEach [] X.env)) (backToKw pos (keywordEach [] X.env))) := by rfl) :
    PE X (.Call (.Attribute o me apos) [] [] pos) (LE X.K X.mg Z W (vMethI0 c me sp vo)) := by
  obtain ⟨f, fd, C, F, hmg, cl, hm, hb⟩ := D
  exact PE.imp (pe_meth0E (pl := pl) ho cl hm F hr hb hx ht) fun σ H Q ⟨P, R, as, G, m, kk, x, r, h, n⟩ => LE.go r h (fun d v R1 H1 ⟨hi, h1⟩ n1 r1 d1 => by
    obtain ⟨a, dx, fs, ev, hH, hl2⟩ := hasI_key hmg hi r1 d1
    exact ⟨a, dx, fs, ev, hH, hl2, call_endI hZ hz hn h1 n1 r1 (.cons d1 .nil) n⟩) n.er
end
/-! an instance made as an owned thing -/
def nlD (j : Nat) : Dv → Bool
  | .loc i => i != j
  | _ => true
theorem nlD_rep {K : PySem.W.Frag} {mg : Str → Option Value} {R : Hp} {hd : Nat → Addr} {as : List Addr} {j : Nat} {q : Addr} : ∀ {vs : List V} {ds : List Dv}, Paired (DRep K mg R hd as) vs ds → ds.all (nlD j) = true → Paired (DRep K mg R hd (as.set j q)) vs ds
  | _, _, .nil, _ => .nil
  | _, _, .cons r t, h => by
    rw [List.all_cons, Bool.and_eq_true] at h
    refine .cons ?_ (nlD_rep t h.2)
    cases r with
    | t y => exact .t y
    | hnd i => exact .hnd i
    | @loc i a y =>
      have hn : i ≠ j := by
        have := h.1
        simpa [nlD] using this
      exact .loc (by rw [List.getElem?_set_ne (Ne.symm hn)]; exact y)
def vmMakeO (c : Str) (sp : VSpM) (j : Nat) (ns : List Nat) (dr : Option Nat) (es : VA) : VM := fun G m k x => es G m (fun ds => ds.all (nlD j) = true ∧ j < m.length ∧ noRef j m (drG dr G) = true ∧ callM sp [j] ns none (drG dr G) (m.set j (some (.ins c []))) (.loc j :: ds) (fun d m' => d = .t .non ∧ k (.loc j) m') x) (fun n => x n G m)
section
variable {X : Cx} {Z Z' : Rsc} {W : WX} {CX : CXT} {k : Nat} {ps : List Str} {spI : VSpM} {c : Str} {p pos : Pos} {e : Expr} {es : List Expr} {va : VA} {j : Nat} {ns : List Nat} {dr : Option Nat}
theorem vm_makeO (D : DfI X.prog X.w X.K X.mg X.base CX k c ps Z' spI) (hZ : Z'.Z = Z.Z) (hz : Z'.n0 = 1) (h0 : Z.n0 ≤ j) (n0 : ∀ n ∈ ns, Z.n0 ≤ n) (hjn : j ∉ ns) (hl : ∀ ds m k x, spI ds m k x → ds.length = ps.length) (hr : Room (k + 1) X.A) (hg : Gl X c) (hx : ∀ σ, PassesAt CX X σ (WE W σ))
    (ha : PA X (e :: es) (LA X.K X.mg Z W va)) (hdb : (c == ("__debug__" : Str)) = false := by decide) (he : starEach (e :: es) X.env = (false, eval e X.env) :: starEach es X.env := by rfl) (hpl : (backTo pos (starEach es X.env)).any (·.1) = false := by rfl) :
    PE X (.Call (.Name c p) (e :: es) [] pos) (LM X.K X.mg Z W dr (j :: ns) (vmMakeO c spI j ns dr va)) := by
  obtain ⟨f, fd, C, F, hm, M, hb⟩ := D
  exact PE.imp (pe_makeE M F hr hg hm hb hx ha hdb he hpl) fun σ H Q ⟨P, R, as, G, m, kk, x, r, h, nn⟩ => LA.go r h (fun ds vs R1 H1 ⟨h1, hj, hn, h2⟩ n1 r1 d1 q dx hp hdx hne => by
    obtain ⟨rl, nl⟩ := r1.laid (p := dx) (o := .own q) hdx
    have hp' : (upd H1 dx (.own q)) q = none := by rw [upd_ne (Ne.symm hne)]; exact hp
    obtain ⟨r2, far, d2⟩ := newC_ok rl (dr := dr) (x := .ins c []) (p := q) (o := .ins C dx []) h0 hp' hj hn (by simp [noAt]) ⟨C, dx, [], hm, upd_same, .nil⟩
    have hjl : (as.set j q)[j]? = some q := List.getElem?_set_self (by rw [r1.la]; exact hj)
    have da : Paired (DRep X.K X.mg (upd R1 dx (.own q)) P.hd (as.set j q)) (.ref q :: vs) (.loc j :: ds) := .cons (.loc hjl) (by
      exact nlD_rep (paired_imp d1 fun v d _ g => g.mono nl.r) h1)
    refine callM_end (js := [j]) (dr := none) hZ hz n0 hl h2 .refl r2 da ⟨fun d v m' R' as' H' ⟨ed, hk⟩ s fr rel dv => ?_, fun nm cl m' R' as' G' H' hx' hcl rel => nn.er nm cl m' R' as' G' H' hx' hcl rel⟩
    subst ed
    cases dv with
    | t rv =>
    cases rv
    refine ⟨rfl, nn.ok (.loc j) (.ref q) m' R' as' H' hk ((n1.r.trans nl.r).trans s) (fun l hl' => ?_) rel (.loc ?_)⟩
    · rw [fr l fun z => hl' (List.mem_cons_of_mem _ z)]
      exact far l fun z => hl' (by rw [List.mem_singleton.mp z]; exact List.mem_cons_self)
    · rw [fr j hjn]; exact hjl) fun nm cl R1 H1 a b c d => nn.er nm cl m R1 as G H1 a b d
end
/-- C(e), e itself changes the store -/
def vmMakeV (c : Str) (sp : VSpM) (j : Nat) (ns : List Nat) (e : VM) : VM := fun G m k x => e G m (fun d0 m1 => nlD j d0 = true ∧ j < m1.length ∧ noRef j m1 G = true ∧ callM sp [j] ns none G (m1.set j (some (.ins c []))) [.loc j, d0] (fun d m' => d = .t .non ∧ k (.loc j) m') x) x
section
variable {X : Cx} {Z Z' : Rsc} {W : WX} {CX : CXT} {k : Nat} {ps : List Str} {spI : VSpM} {c : Str} {p pos : Pos} {e : Expr} {ve : VM} {j : Nat} {ns n1 : List Nat}
theorem vm_makeV (D : DfI X.prog X.w X.K X.mg X.base CX k c ps Z' spI) (hZ : Z'.Z = Z.Z) (hz : Z'.n0 = 1) (h0 : Z.n0 ≤ j) (n0 : ∀ n ∈ ns, Z.n0 ≤ n) (hjn : j ∉ ns) (hl : ∀ ds m k x, spI ds m k x → ds.length = ps.length) (hr : Room (k + 1) X.A) (hg : Gl X c) (hx : ∀ σ, PassesAt CX X σ (WE W σ))
    (hv : PE X e (LM X.K X.mg Z W none n1 ve)) (hdb : (c == ("__debug__" : Str)) = false := by decide) (he : starEach [e] X.env = (false, eval e X.env) :: starEach [] X.env := by rfl) (hpl : (backTo pos (starEach [] X.env)).any (·.1) = false := by rfl) :
    PE X (.Call (.Name c p) [e] [] pos) (LM X.K X.mg Z W none (n1 ++ (j :: ns)) (vmMakeV c spI j ns ve)) := by
  obtain ⟨f, fd, C, F, hm, M, hb⟩ := D
  exact PE.imp (pe_makeE M F hr hg hm hb hx (pa_cons hv pa_nil he) hdb he hpl) fun σ H Q ⟨P, R, as, G, m, kk, x, r, h, nn⟩ => ⟨P, R, as, G, m, _, x, r, h, fun d0 v0 m1 R1 as1 H1 ⟨h1, hj, hn, h2⟩ s1 far1 r1 d1 => by
    intro q dx hp hdx hne
    obtain ⟨rl, nl⟩ := r1.laid (p := dx) (o := .own q) hdx
    have hp' : (upd H1 dx (.own q)) q = none := by rw [upd_ne (Ne.symm hne)]; exact hp
    obtain ⟨r2, far, d2⟩ := newC_ok rl (dr := none) (x := .ins c []) (p := q) (o := .ins C dx []) h0 hp' hj hn (by simp [noAt]) ⟨C, dx, [], hm, upd_same, .nil⟩
    have hjl : (as1.set j q)[j]? = some q := List.getElem?_set_self (by rw [r1.la]; exact hj)
    have da : Paired (DRep X.K X.mg (upd R1 dx (.own q)) P.hd (as1.set j q)) [.ref q, v0] [.loc j, d0] := .cons (.loc hjl) (nlD_rep (.cons (d1.mono nl.r) .nil) (by rw [List.all_cons, h1]; rfl))
    refine callM_end (js := [j]) (dr := none) hZ hz n0 hl h2 .refl r2 da ⟨fun d v m' R' as' H' ⟨ed, hk⟩ s fr rel dv => ?_, fun nm cl m' R' as' G' H' hx' hcl rel => nn.er nm cl m' R' as' G' H' hx' hcl rel⟩
    subst ed
    cases dv with
    | t rv =>
    cases rv
    refine ⟨rfl, nn.ok (.loc j) (.ref q) m' R' as' H' hk ((s1.trans nl.r).trans s) (fun l hl' => ?_) rel (.loc ?_)⟩
    · rw [fr l fun z => hl' (List.mem_append_right _ (List.mem_cons_of_mem _ z)), far l fun z => hl' (List.mem_append_right _ (by rw [List.mem_singleton.mp z]; exact List.mem_cons_self))]
      exact far1 l fun z => hl' (List.mem_append_left _ z)
    · rw [fr j hjn]; exact hjl, nn.er⟩
end
/-! a def's call whose first argument is an owned new thing -/
def vmCallV (sp : VSp) (e : VM) (es : VA) : VM := fun G m k x => e G m (fun d m1 => es G m1 (fun ds => fCall sp (fun n => x n G m1) m1 (d :: ds) (fun y => k y m1)) (fun n => x n G m1)) x
section
variable {X : Cx} {Z Z' : Rsc} {W : WX} {CX : CXT} {k : Nat} {ps : List Str} {sp : VSp} {x : Str} {p pos : Pos} {e : Expr} {es : List Expr} {ve : VM} {va : VA} {ns : List Nat}
theorem vm_callV (D : Df X.prog X.w X.K X.mg X.base CX k x ps Z' sp) (hZ : Z'.Z = Z.Z) (hz : Z'.n0 = 0) (hn : ∀ ds k x, sp ds k x → ds.length = ps.length) (hr : Room k X.A) (hg : Gl X x) (hx : ∀ σ, PassesAt CX X σ (WE W σ))
    (hv : PE X e (LM X.K X.mg Z W none ns ve)) (ha : PA X es (LA X.K X.mg Z W va)) (hdb : (x == ("__debug__" : Str)) = false := by decide) (he : starEach (e :: es) X.env = (false, eval e X.env) :: starEach es X.env := by rfl) (hpl : (backTo pos (starEach es X.env)).any (·.1) = false := by rfl) :
    PE X (.Call (.Name x p) (e :: es) [] pos) (LM X.K X.mg Z W none ns (vmCallV sp ve va)) := by
  obtain ⟨f, fd, F, hm, hk, hb⟩ := D
  exact PE.imp (pe_callS F hr hg hm hk hb hx (pa_cons hv ha he) hdb he hpl) fun σ H Q ⟨P, R, as, G, m, kk, x, r, h, nn⟩ =>
    ⟨P, R, as, G, m, _, x, r, h, fun d v m1 R1 as1 H1 h1 s1 far1 r1 d1 => LA.go r1 h1 (fun ds vs R2 H2 h2 n2 r2 d2 =>
      call_end hZ hz hn h2 .refl r2 (.cons (d1.mono n2.r) d2) ⟨fun y w R3 H3 h3 n3 r3 d3 => nn.ok y w m1 R3 as1 H3 h3 ((s1.trans n2.r).trans n3.r) far1 r3 d3, fun nm cl R3 H3 a b _ c => nn.er nm cl m1 R3 as1 _ H3 a b c⟩) fun nm cl R2 H2 a b _ c => nn.er nm cl m1 R2 as1 _ H2 a b c, nn.er⟩
end
/-! a value that changes the store, taken by a target -/
def vAsgM (e : VM) (g : VG) : VS := fun nx _ _ _ ex G m => e G m (fun d m1 => ∃ t, d = .t t ∧ g t G fun G' => nx G' m1) ex
section
variable {X : Cx} {Z : Rsc} {W : WX} {fp : List Nat} {e tg : Expr} {vm : VM} {vg : VG} {pos : Pos}
theorem vs_asgM (he : PE X e (LM X.K X.mg Z W none fp vm)) (hg : PG X tg (LG X.K X.mg Z none vg)) (hs : swapsWithSole [tg] e pos.line X.env = pure false := by rfl) (hw : swappedStores [tg] e X.env = pure none := by rfl)
    (h1 : (assignEach [tg] X.env).map (·.2) = [assign tg X.env] := by rfl) : PS X (.Assign [tg] e pos) (LS X.K X.mg Z W (vAsgM vm vg)) :=
  PS.imp (ps_asg he hg hs hw h1) fun D σ H ⟨P, R, as, G, m, nx, rt, bk, ct, ex, r, h, k⟩ => ⟨P, R, as, G, m, _, _, r, h, fun d v m1 R1 as1 H1 ⟨t, ed, h1⟩ s far r1 d1 => by
    subst ed
    cases d1 with
    | t rv => exact ⟨P, R1, as1, _, m1, t, _, r1, rv, h1, fun G' σ' h' _ r' => k.nx G' m1 R1 as1 σ' H1 h' r'⟩, fun nm cl m' R' as' G' H' a b c => k.ex nm cl m' R' as' G' σ H' a b c⟩
end
theorem st_asgM {vm : VM} {vg : VG} {nx : SK} {rt : RK} {bk ct : SK} {ex : XS} {G : Env} {m : Sto} (h : vm G m (fun d m1 => ∃ t, d = .t t ∧ vg t G fun G' => nx G' m1) ex) : vAsgM vm vg nx rt bk ct ex G m := h
/-! steps -/
section
variable {c me : Str} {sp : VSpM} {ss : VSp} {js ns : List Nat} {dr : Option Nat} {o : VE} {es : VA} {j : Nat} {ev : VM} {G : Env} {m : Sto} {k : MK} {x : XS}
theorem st_mMeth (h : o G m (fun d => hasI c me m d ∧ es G m (fun ds => callM sp js ns dr G m (d :: ds) k x) (fun n => x n G m)) (fun n => x n G m)) : vmMeth c me sp js ns dr o es G m k x := h
theorem st_mMeth0 (h : o G m (fun d => hasI c me m d ∧ callM sp js ns dr G m [d] k x) (fun n => x n G m)) : vmMeth0 c me sp js ns dr o G m k x := h
theorem st_mMake (h : es G m (fun ds => ds.all (nlD j) = true ∧ j < m.length ∧ noRef j m (drG dr G) = true ∧ callM sp [j] ns none (drG dr G) (m.set j (some (.ins c []))) (.loc j :: ds) (fun d m' => d = .t .non ∧ k (.loc j) m') x) (fun n => x n G m)) : vmMakeO c sp j ns dr es G m k x := h
theorem st_mCallV (h : ev G m (fun d m1 => es G m1 (fun ds => fCall ss (fun n => x n G m1) m1 (d :: ds) (fun y => k y m1)) (fun n => x n G m1)) x) : vmCallV ss ev es G m k x := h
end
/-- an owned instance has the method -/
theorem st_me2 {c me : Str} {m : Sto} {j : Nat} {fs : List (Str × Tr)} {A : Prop} (h1 : m[j]? = some (some (.di c fs))) (h2 : fs.lookup me = none) (q : A) : hasI c me m (.loc j) ∧ A := ⟨.inr ⟨j, fs, rfl, h1, h2⟩, q⟩
end VL

/-! VM, part N: alternatives; a site appended to a list of sites; borrowed expressions' steps. -/
namespace VL
open PySem L2
/-- one of two readings of an expression that changes the store -/
def vmOr (a b : VM) : VM := fun G m k x => a G m k x ∨ b G m k x
theorem st_orL {a b : VM} {G : Env} {m : Sto} {k : MK} {x : XS} (h : a G m k x) : vmOr a b G m k x := .inl h
theorem st_orR {a b : VM} {G : Env} {m : Sto} {k : MK} {x : XS} (h : b G m k x) : vmOr a b G m k x := .inr h
section
variable {X : Cx} {Z : Rsc} {W : WX} {e : Expr} {a b : VM} {fp : List Nat} {dr : Option Nat}
theorem vm_or (h1 : PE X e (LM X.K X.mg Z W dr fp a)) (h2 : PE X e (LM X.K X.mg Z W dr fp b)) : PE X e (LM X.K X.mg Z W dr fp (vmOr a b)) :=
  PE.imp (PE.or h1 h2) fun σ H Q ⟨P, R, as, G, m, k, x, r, h, n⟩ => h.elim (fun h => .inl ⟨P, R, as, G, m, k, x, r, h, n⟩) fun h => .inr ⟨P, R, as, G, m, k, x, r, h, n⟩
end
/-- o.append(e), o a list whose items may be sites -/
abbrev vAppS (fp : List Nat) (o : VE) (e : VM) : VS := fun nx _ _ _ ex G m => o G m (fun d => ∃ j, d = .loc j ∧ (∃ us, m[j]? = some (some (.dl us))) ∧ fp.contains j = false ∧ e G m (fun y m1 => ∃ t ts, chT y = some t ∧ m1[j]? = some (some (.dl ts)) ∧ ts.length < sizeLine ∧ nx G (m1.set j (some (.dl (ts ++ [t]))))) ex) (fun n => ex n G m)
section
variable {X : Cx} {Z : Rsc} {W : WX} {o e : Expr} {vo : VE} {vm : VM} {p1 p2 pos : Pos} {fp : List Nat}
theorem vs_appS (hp : ∀ {ta te : TE}, PE X o ta → PE X e te → PE X (.Call (.Attribute o "append" p1) [e] [] p2) (tBM X.K "list" rAppend ta (tCons te tNil)))
    (ho : PE X o (LE X.K X.mg Z W vo)) (he : PE X e (LM X.K X.mg Z W none fp vm)) (hs : swapsWith (.Call (.Attribute o "append" p1) [e] [] p2) none pos.line X.env = pure false := by rfl) :
    PS X (.Expr (.Call (.Attribute o "append" p1) [e] [] p2) pos) (LS X.K X.mg Z W (vAppS fp vo vm)) :=
  PS.imp (ps_expr (hp ho he) hs) fun D σ H ⟨P, R, as, G, m, nx, rt, bk, ct, ex, r, h, k⟩ =>
    LE.go r h (fun d v R1 H1 ⟨j, ed, ⟨us, eu⟩, hfp, h1⟩ n1 r1 d1 => by
      subst ed
      obtain ⟨a, ha, ⟨xs, hx, rx⟩, _⟩ := r1.sto j _ eu
      have ev : v = .ref a := by
        cases d1 with
        | loc hl => rw [ha] at hl; cases hl; rfl
      subst ev
      refine ⟨.inl ⟨rfl, xs, .of hx⟩, P, R1, as, G, m, _, _, r1, h1, fun y w m2 R2 as2 H2 ⟨t, ts, et, ej, hz, h2⟩ s2 q2 r2 d2 => ?_, fun nm cl m' R' as' G' H' a b c => k.ex nm cl m' R' as' G' σ H' a b c⟩
      have ha2 : as2[j]? = some a := by rw [q2 j (by simpa using hfp)]; exact ha
      obtain ⟨a', ha', ⟨xs', hx', rx'⟩, _⟩ := r2.sto j _ ej
      rw [ha2] at ha'
      cases ha'
      exact ⟨_, xs', w, rfl, rfl, hx', by rw [Paired.length rx']; exact hz, k.nx _ _ _ _ _ _ h2 (r2.put ej ha2 ⟨xs' ++ [w], upd_same, paired_append rx' (.cons (chT_rep d2 et) .nil)⟩)⟩) k.er
end
theorem st_as1 {m : Sto} {n : Nat} {us : List Tr} {fp : List Nat} {A : Nat → Prop} (h : m[n]? = some (some (.dl us))) (h2 : fp.contains n = false) (q : A n) : ∃ j, Dv.loc n = .loc j ∧ (∃ us, m[j]? = some (some (.dl us))) ∧ fp.contains j = false ∧ A j := ⟨n, rfl, ⟨us, h⟩, h2, q⟩
theorem st_as2 {m : Sto} {j : Nat} {t : Tr} {ts : List Tr} {y : Dv} {m3 : Sto} {A : Sto → Prop} (h1 : chT y = some t) (h4 : m[j]? = some (some (.dl ts))) (h7 : m.set j (some (.dl (ts ++ [t]))) = m3) (q : A m3) (h5 : ts.length < sizeLine) :
    ∃ t ts, chT y = some t ∧ m[j]? = some (some (.dl ts)) ∧ ts.length < sizeLine ∧ A (m.set j (some (.dl (ts ++ [t])))) := ⟨t, ts, h1, h4, h5, by rw [h7]; exact q⟩
end VL

/-! VM, part O: min(d), max(d), d a dict with whole numbers as keys. -/
namespace VL
open PySem L2
def rMxD (f : List Int → Int) : List V → Hp → VK → Prop := fun vs H Q => ∃ (a : Addr) (kvs : List (Key × V)) (is : List Int), vs = [V.ref a] ∧ Rd H a (.dK kvs) ∧ kvs.map (·.1) = is.map Sum.inl ∧ 0 < is.length ∧ Q (.int (f is)) H
section
open PyProof.Rows PySem.Spec
variable {X : Cx}
theorem call_minD (hc : X.calm = true) : CallR X (.builtin "min") (rMxD mnI) := by
  intro pins s σ H vs us Q I r h
  obtain ⟨a, kvs, is, rfl, ha, hv, hne, q⟩ := h
  rw [Vals.ref1 r]
  obtain ⟨_, hsys, vs, rel, dof⟩ := dk_rd I.hok ha
  obtain ⟨ep, dat⟩ := dof.dictAt
  obtain ⟨ob, es, ho, hex, hdat, hko, hpr, hnd⟩ := id dat
  have hlt : a < s.heap.objs.size := Heap.lt_size ho
  have hkeys : vs.map (·.1) = is.map Sum.inl := (KV.keys rel).symm.trans hv
  have hlv : vs.length = is.length := by
    have e1 := congrArg List.length hkeys
    rw [List.length_map, List.length_map] at e1
    exact e1
  have hlen : 0 < vs.length := by
    rw [hlv]
    exact hne
  have hval : ∀ (i : Nat) (v : Value), (∃ k x, vs[i]? = some (k, x) ∧ (mixKind X.prog X.w).is k v = true) → ∃ t, v = Value.int (is.getD i 0) t := fun i v ⟨k, x, hk, hkey⟩ => by
    have e1 : (vs.map (·.1))[i]? = some k := by rw [List.getElem?_map, hk] <;> rfl
    rw [hkeys, List.getElem?_map] at e1
    obtain ⟨j, hj, e2⟩ := Option.map_eq_some_iff.mp e1
    subst e2
    have hi : Value.isInt j v = true := hkey
    obtain ⟨t, e3⟩ := Value.isInt_shape (k := j) (v := v) hi
    refine ⟨t, ?_⟩
    rw [e3, List.getD_eq_getElem?_getD, hj] <;> rfl
  refine call_min_walk (wpAny_pyIter_dict (knd := mixKind X.prog X.w) hsys dat ?_)
  refine ⟨_, _, _, _, _, _, _, rfl, Walks.dictKeys (knd := mixKind X.prog X.w) (A := X.A.in1) (I.ok.hd hc) s.heap.objs.size a (Nat.ne_of_lt hlt) vs ep,
    ⟨⟨_, Heap.get?_push_size _ rfl, rfl, rfl⟩, dat.keep fun b u e => Heap.get?_push_of_some _ e⟩, fun b hb => ?_, hlen, CmpOf.ints_lt (fun i => is.getD i 0) hval, fun v h' tk hP hk => ?_⟩
  · show b < (s.heap.push _).objs.size
    rw [Heap.size_push]
    rcases List.mem_cons.mp hb with e | hb
    · rw [e]
      exact Nat.lt_succ_self _
    · rw [List.mem_singleton.mp hb]
      exact Nat.lt_succ_of_lt hlt
  · obtain ⟨t, rfl⟩ := hval _ v hP
    obtain ⟨b1, b2⟩ := argBest_lt (fun i => is.getD i 0) (vs.length - 1)
    have hb : argBest (fun i j => decide (is.getD i 0 < is.getD j 0)) (vs.length - 1) < is.length := by omega
    have hin : is.getD (argBest (fun i j => decide (is.getD i 0 < is.getD j 0)) (vs.length - 1)) 0 ∈ is := by
      rw [List.getD_eq_getElem?_getD, List.getElem?_eq_getElem hb]
      exact List.getElem_mem hb
    have hle : ∀ j ∈ is, is.getD (argBest (fun i j => decide (is.getD i 0 < is.getD j 0)) (vs.length - 1)) 0 ≤ j := fun j hj => by
      obtain ⟨i, hi, e⟩ := List.mem_iff_getElem.mp hj
      have e2 : is.getD i 0 = j := by rw [List.getD_eq_getElem?_getD, List.getElem?_eq_getElem hi, ← e] <;> rfl
      rw [← e2]
      exact b2 i (by omega)
    obtain ⟨g1, g2⟩ := mnI_ok hne
    have e := Int.le_antisymm (hle _ g1) (g2 _ hin)
    refine ⟨.int _, H, I.kept (t' := tk) fun b u e => hk b u (fun hmem => ?_) (Heap.get?_push_of_some _ e), ⟨t, rfl⟩, by rw [e]; exact q⟩
    have e1 : b = s.heap.objs.size := List.mem_singleton.mp hmem
    have e2 := Heap.lt_size e
    rw [e1] at e2
    exact absurd e2 (Nat.lt_irrefl _)
theorem call_maxD (hc : X.calm = true) : CallR X (.builtin "max") (rMxD mxI) := by
  intro pins s σ H vs us Q I r h
  obtain ⟨a, kvs, is, rfl, ha, hv, hne, q⟩ := h
  rw [Vals.ref1 r]
  obtain ⟨_, hsys, vs, rel, dof⟩ := dk_rd I.hok ha
  obtain ⟨ep, dat⟩ := dof.dictAt
  obtain ⟨ob, es, ho, hex, hdat, hko, hpr, hnd⟩ := id dat
  have hlt : a < s.heap.objs.size := Heap.lt_size ho
  have hkeys : vs.map (·.1) = is.map Sum.inl := (KV.keys rel).symm.trans hv
  have hlv : vs.length = is.length := by
    have e1 := congrArg List.length hkeys
    rw [List.length_map, List.length_map] at e1
    exact e1
  have hlen : 0 < vs.length := by
    rw [hlv]
    exact hne
  have hval : ∀ (i : Nat) (v : Value), (∃ k x, vs[i]? = some (k, x) ∧ (mixKind X.prog X.w).is k v = true) → ∃ t, v = Value.int (is.getD i 0) t := fun i v ⟨k, x, hk, hkey⟩ => by
    have e1 : (vs.map (·.1))[i]? = some k := by rw [List.getElem?_map, hk] <;> rfl
    rw [hkeys, List.getElem?_map] at e1
    obtain ⟨j, hj, e2⟩ := Option.map_eq_some_iff.mp e1
    subst e2
    have hi : Value.isInt j v = true := hkey
    obtain ⟨t, e3⟩ := Value.isInt_shape (k := j) (v := v) hi
    refine ⟨t, ?_⟩
    rw [e3, List.getD_eq_getElem?_getD, hj] <;> rfl
  refine call_max_walk (wpAny_pyIter_dict (knd := mixKind X.prog X.w) hsys dat ?_)
  refine ⟨_, _, _, _, _, _, _, rfl, Walks.dictKeys (knd := mixKind X.prog X.w) (A := X.A.in1) (I.ok.hd hc) s.heap.objs.size a (Nat.ne_of_lt hlt) vs ep,
    ⟨⟨_, Heap.get?_push_size _ rfl, rfl, rfl⟩, dat.keep fun b u e => Heap.get?_push_of_some _ e⟩, fun b hb => ?_, hlen, CmpOf.ints_gt (fun i => is.getD i 0) hval, fun v h' tk hP hk => ?_⟩
  · show b < (s.heap.push _).objs.size
    rw [Heap.size_push]
    rcases List.mem_cons.mp hb with e | hb
    · rw [e]
      exact Nat.lt_succ_self _
    · rw [List.mem_singleton.mp hb]
      exact Nat.lt_succ_of_lt hlt
  · obtain ⟨t, rfl⟩ := hval _ v hP
    obtain ⟨b1, b2⟩ := argBest_gt (fun i => is.getD i 0) (vs.length - 1)
    have hb : argBest (fun i j => decide (is.getD i 0 > is.getD j 0)) (vs.length - 1) < is.length := by omega
    have hin : is.getD (argBest (fun i j => decide (is.getD i 0 > is.getD j 0)) (vs.length - 1)) 0 ∈ is := by
      rw [List.getD_eq_getElem?_getD, List.getElem?_eq_getElem hb]
      exact List.getElem_mem hb
    have hle : ∀ j ∈ is, j ≤ is.getD (argBest (fun i j => decide (is.getD i 0 > is.getD j 0)) (vs.length - 1)) 0 := fun j hj => by
      obtain ⟨i, hi, e⟩ := List.mem_iff_getElem.mp hj
      have e2 : is.getD i 0 = j := by rw [List.getD_eq_getElem?_getD, List.getElem?_eq_getElem hi, ← e] <;> rfl
      rw [← e2]
      exact b2 i (by omega)
    obtain ⟨g1, g2⟩ := mxI_ok hne
    have e := Int.le_antisymm (g2 _ hin) (hle _ g1)
    refine ⟨.int _, H, I.kept (t' := tk) fun b u e => hk b u (fun hmem => ?_) (Heap.get?_push_of_some _ e), ⟨t, rfl⟩, by rw [e]; exact q⟩
    have e1 : b = s.heap.objs.size := List.mem_singleton.mp hmem
    have e2 := Heap.lt_size e
    rw [e1] at e2
    exact absurd e2 (Nat.lt_irrefl _)
end
def fMxD (f : List Int → Int) : OC := fun m ds k => ∃ d ts ns, ds = [d] ∧ view m d = some (.dic ts) ∧ ts.map (·.1) = ns.map Sum.inl ∧ 0 < ns.length ∧ k (.t (.int (f ns)))
theorem keys_of {K : PySem.W.Frag} {mg : Str → Option Value} {R : Hp} : ∀ {xs : List (Key × V)} {ts : List (Key × Tr)}, RepsP K mg R xs ts → xs.map (·.1) = ts.map (·.1)
  | _, _, .nil => rfl
  | _, _, .cons r t => by rw [List.map_cons, List.map_cons, keys_of t, r.1]
theorem lo_mxD {K : PySem.W.Frag} {mg : Str → Option Value} (f : List Int → Int) : LoC K mg (rMxD f) (fMxD f) := by
  rintro Z P R as G m σ H vs ds k Q r h ⟨d, ts, ns, rfl, e1, e2, hl, q⟩ nn
  obtain ⟨v, rfl, dv⟩ := pone h
  obtain ⟨a, xs, rfl, hx, rx⟩ := r.vDic dv e1
  exact ⟨a, xs, ns, rfl, hx, (keys_of rx).trans e2, hl, nn _ _ R H q .refl r (.t (.int _))⟩
section
variable {X : Cx} {Z : Rsc} {W : WX} {p pos : Pos} {e : Expr} {es : List Expr} {va : VA}
theorem v_minD (hc : X.calm = true) (hg : Gl X "min") (hm : X.mg "min" = none) (ha : PA X (e :: es) (LA X.K X.mg Z W va)) (he : starEach (e :: es) X.env = (false, eval e X.env) :: starEach es X.env := by rfl) (hpl : (backTo pos (starEach es X.env)).any (·.1) = false := by rfl) :
    PE X (.Call (.Name "min" p) (e :: es) [] pos) (LE X.K X.mg Z W (vCB (fMxD mnI) va)) := v_callB (call_minD hc) (lo_mxD mnI) hg hm (by decide +kernel) ha (by decide) (by decide) he hpl
theorem v_maxD (hc : X.calm = true) (hg : Gl X "max") (hm : X.mg "max" = none) (ha : PA X (e :: es) (LA X.K X.mg Z W va)) (he : starEach (e :: es) X.env = (false, eval e X.env) :: starEach es X.env := by rfl) (hpl : (backTo pos (starEach es X.env)).any (·.1) = false := by rfl) :
    PE X (.Call (.Name "max" p) (e :: es) [] pos) (LE X.K X.mg Z W (vCB (fMxD mxI) va)) := v_callB (call_maxD hc) (lo_mxD mxI) hg hm (by decide +kernel) ha (by decide) (by decide) he hpl
end
theorem st_mxD {f : List Int → Int} {m : Sto} {d : Dv} {ts : List (Key × Tr)} {ns : List Int} {k : DK} (h1 : view m d = some (.dic ts)) (h2 : ts.map (·.1) = ns.map Sum.inl) (hl : 0 < ns.length) (q : k (.t (.int (f ns)))) : fMxD f m [d] k := ⟨d, ts, ns, rfl, h1, h2, hl, q⟩
/-! o.clear(), o a list at a site -/
abbrev vClearL (o : VE) : VS := fun nx _ _ _ ex G m => o G m (fun d => ∃ j ts, d = .loc j ∧ m[j]? = some (some (.lst ts)) ∧ nx G (m.set j (some (.lst [])))) (fun n => ex n G m)
section
variable {X : Cx} {Z : Rsc} {W : WX} {o : Expr} {vo : VE} {p1 p2 pos : Pos}
theorem vs_clearL (hp : ∀ {ta : TE}, PE X o ta → PE X (.Call (.Attribute o "clear" p1) [] [] p2) (tBM0 X.K "list" rClear ta)) (ho : PE X o (LE X.K X.mg Z W vo)) (hs : swapsWith (.Call (.Attribute o "clear" p1) [] [] p2) none pos.line X.env = pure false := by rfl) : PS X (.Expr (.Call (.Attribute o "clear" p1) [] [] p2) pos) (LS X.K X.mg Z W (vClearL vo)) :=
  PS.imp (ps_expr (hp ho) hs) fun D σ H ⟨P, R, as, G, m, nx, rt, bk, ct, ex, r, h, k⟩ =>
    LE.go r h (fun d v R1 H1 ⟨j, ts, ed, ej, h1⟩ n1 r1 d1 => by
      subst ed
      obtain ⟨a, xs, rfl, ha, hx, rx⟩ := r1.vLoc d1 ej
      exact ⟨.inl ⟨rfl, xs, .of hx⟩, _, xs, rfl, rfl, hx, k.nx _ _ _ _ _ _ h1 (r1.put ej ha ⟨[], upd_same, .nil⟩)⟩) k.er
end
theorem st_clr {m : Sto} {n : Nat} {ts : List Tr} {A : Nat → Prop} (h : m[n]? = some (some (.lst ts))) (q : A n) : ∃ j ts', Dv.loc n = .loc j ∧ m[j]? = some (some (.lst ts')) ∧ A j := ⟨n, ts, rfl, h, q⟩
end VL

/-! VM, part P: comprehensions whose element changes the store, or makes owned things. -/
namespace VL
open PySem L2
theorem PE.ex {X : Cx} {e : Expr} {N : Nat} {t : Nat → TE} (h : ∀ i, PE X e (t i)) : PE X e (fun σ H Q => ∃ i, i < N ∧ t i σ H Q) := ⟨fun pins s σ H Q I ⟨i, _, q⟩ => (h i).run pins s σ H Q I q⟩
theorem wipe_wipe (σ : L2.St) (vs : List Nat) : L2.wipe (L2.wipe σ vs) vs = L2.wipe σ vs := by
  have gen : ∀ us : List Nat, (∀ u ∈ us, u ∈ vs) → L2.wipe (L2.wipe σ vs) us = L2.wipe σ vs := fun us => by
    induction us with
    | nil => intro _; rfl
    | cons u us ih =>
      intro hu
      rw [L2.wipe, ih fun z hz => hu z (List.mem_cons_of_mem _ hz)]
      refine List.ext_getElem? fun j => ?_
      have hz : ∀ (ws : List Nat), u ∈ ws → u < σ.length → (L2.wipe σ ws)[u]? = some none := fun ws => by
        induction ws with
        | nil => intro h _; exact absurd h (by simp)
        | cons w ws ihw =>
          intro h hl
          rw [L2.wipe]
          by_cases hw : w = u
          · subst hw; rw [List.getElem?_set_self (by rw [wipe_length]; exact hl)]
          · rw [List.getElem?_set_ne hw]
            rcases List.mem_cons.mp h with z | z
            · exact absurd z.symm hw
            · exact ihw z hl
      by_cases hj : u = j
      · subst hj
        by_cases hl : u < σ.length
        · rw [List.getElem?_set_self (by rw [wipe_length]; exact hl), hz vs (hu u List.mem_cons_self) hl]
        · rw [List.getElem?_eq_none (by rw [List.length_set, wipe_length]; omega), List.getElem?_eq_none (by rw [wipe_length]; omega)]
      · rw [List.getElem?_set_ne hj]
  exact gen vs fun _ h => h
/-- a run in which the object at D stood before -/
noncomputable def Pm.guard (P : Pm) (D : Addr) (o : HO) : Pm := { P with H0 := upd P.H0 D o, mu := fun a => P.mu a ∧ a ≠ D }
section
variable {K : PySem.W.Frag} {mg : Str → Option Value} {Z : Rsc} {W : WX} {P : Pm} {R R' H H' : Hp} {as as' : List Addr} {G : Env} {m m' : Sto} {σ : L2.St} {D : Addr} {o : HO}
theorem Rel.guard (r : Rel K mg Z P R as G m σ H) (hD : H D = some o) (hR : R D = none) (hA : ∀ (j : Nat) x, m[j]? = some (some x) → as[j]? ≠ some D) : Rel K mg Z (P.guard D o) R as G m σ H := by
  refine ⟨r.ex, r.len, r.env, fun j x e => ?_, r.inj, r.vol, r.rb, fun a u e n1 n2 => ?_, fun a e => ?_, fun a e => ?_, r.r0, r.la, r.pre⟩
  · obtain ⟨a, q1, q2, q3, q4, q5⟩ := r.sto j x e
    have ha : a ≠ D := fun z => hA j x e (by rw [← z]; exact q1)
    exact ⟨a, q1, q2, q3, q4, q5.imp (fun z => by show upd P.H0 D o a = none; rw [upd_ne ha]; exact z) fun z => ⟨⟨z.1, ha⟩, z.2⟩⟩
  · have e : upd P.H0 D o a = some u := e
    by_cases h : a = D
    · subst h; rw [upd_same] at e; cases e; exact hD
    · rw [upd_ne h] at e
      exact r.frame a u e (fun z => n1 ⟨z, h⟩) n2
  · have e : upd P.H0 D o a ≠ none := e
    by_cases h : a = D
    · subst h; rw [hD]; simp
    · rw [upd_ne h] at e; exact r.dom a e
  · have ha : a ≠ D := fun z => e (by rw [z]; exact hR)
    exact (r.fresh a e).imp id fun z => by show upd P.H0 D o a = none; rw [upd_ne ha]; exact z
theorem Rel.unguard (r : Rel K mg Z (P.guard D o) R as G m σ H) (h0 : P.H0 D = none) (hB : ¬ P.B D) (hR0 : P.R0 D = none) : Rel K mg Z P R as G m σ H ∧ H D = some o ∧ R D = none ∧ ∀ (j : Nat) x, m[j]? = some (some x) → as[j]? ≠ some D := by
  have hH : ∀ {a : Addr}, (P.guard D o).H0 a = none → P.H0 a = none := fun {a} z => by
    by_cases h : a = D
    · subst h; exact h0
    · have z : upd P.H0 D o a = none := z
      rw [upd_ne h] at z; exact z
  have hA : ∀ (j : Nat) x, m[j]? = some (some x) → as[j]? ≠ some D := fun j x e z => by
    obtain ⟨a, q1, q2, q3, q4, q5⟩ := r.sto j x e
    rw [z] at q1; cases q1
    rcases q5 with q5 | q5
    · have q5 : upd P.H0 D o D = none := q5
      rw [upd_same] at q5; cases q5
    · exact q5.1.2 rfl
  refine ⟨⟨r.ex, r.len, r.env, fun j x e => ?_, r.inj, r.vol, r.rb, fun a u e n1 n2 => ?_, fun a e => ?_, fun a e => ?_, r.r0, r.la, r.pre⟩, ?_, ?_, hA⟩
  · obtain ⟨a, q1, q2, q3, q4, q5⟩ := r.sto j x e
    exact ⟨a, q1, q2, q3, q4, q5.imp hH fun z => ⟨z.1.1, z.2⟩⟩
  · have ha : a ≠ D := fun z => by rw [z, h0] at e; cases e
    exact r.frame a u (by show upd P.H0 D o a = _; rw [upd_ne ha]; exact e) (fun z => n1 z.1) n2
  · have ha : a ≠ D := fun z => e (by rw [z]; exact h0)
    exact r.dom a (by show upd P.H0 D o a ≠ none; rw [upd_ne ha]; exact e)
  · exact (r.fresh a e).imp id hH
  · exact r.frame D o upd_same (fun z => z.2 rfl) hB
  · cases q : R D with
    | none => rfl
    | some u =>
      rcases r.fresh D (by rw [q]; simp) with z | z
      · exact absurd hR0 z
      · have z : upd P.H0 D o D = none := z
        rw [upd_same] at z; cases z
end
def noXM : XS := fun _ _ _ => False
/-- no name of G, no item of acc is one of these sites -/
def apart (fp : List Nat) (G : Env) (acc : List Tr) : Bool := fp.all fun l => noLoc l G && acc.all fun t => !isAt l t
def cellOf (s : Bool) (acc : List Tr) : Tr := if s then .dl acc else .lst acc
/-- [.. for .. in ..], the element changes the store; s: its items may be sites -/
abbrev vmLcM (s : Bool) (N j : Nat) (dr : Option Nat) (fp : Nat → List Nat) (it : VI) (tg : VG) (el : Nat → VM) (vs : List Nat) : VM := fun G m k x => it G m (fun us => us.length ≤ N ∧ ∃ I : Nat → Sto → List Tr → Prop, I 0 m [] ∧
  (∀ (i : Nat) t m1 acc, us[i]? = some t → I i m1 acc → apart (fp i) G acc = true ∧ tg t (wipeG G vs) (fun G2 => el i G2 m1 (fun d m2 => ∃ y, chT d = some y ∧ (s = false → d = .t y) ∧ acc.length < sizeLine ∧ I (i + 1) m2 (acc ++ [y])) noXM)) ∧
  ∀ m1 acc, I us.length m1 acc → newC j dr (cellOf s acc) G m1 k) (fun n => x n G m)
section
variable {X : Cx} {Z : Rsc} {W W' : WX}
def ItR (K : PySem.W.Frag) (mg : Str → Option Value) (s : Bool) (R : Hp) (as : List Addr) (v : V) (y : Tr) : Prop := ChR K mg R as v y ∧ (s = false → Rep K mg R v y)
theorem apart_at {fp : List Nat} {G : Env} {acc : List Tr} (h : apart fp G acc = true) {l : Nat} (hl : l ∈ fp) : noLoc l G = true ∧ ∀ t ∈ acc, isAt l t = false := by
  unfold apart at h
  rw [List.all_eq_true] at h
  have := h l hl
  rw [Bool.and_eq_true, List.all_eq_true] at this
  exact ⟨this.1, fun t ht => by simpa using this.2 t ht⟩
theorem lc_ofMM {s : Bool} {N j : Nat} {dr : Option Nat} {fp : Nat → List Nat} {FP : List Nat} (hz0 : Z.n0 ≤ j) (hfp : ∀ i, i < N → ∀ l ∈ fp i, l ∈ FP) {K : PySem.W.Frag} {mg : Str → Option Value} {it : VI} {tg : VG} {el : Nat → VM} {vs : List Nat} :
    ∀ σ H Q, LM K mg Z W dr (j :: FP) (vmLcM s N j dr fp it tg el vs) σ H Q → tLc (LI K mg Z W it) (LG K mg Z (some vs) tg) (LT K mg Z W' vtYes) (fun σ H Q => ∃ i, i < N ∧ LM K mg Z W' none (fp i) (el i) σ H Q) vs σ H Q :=
  fun σ H Q ⟨P, R, as, G, m, k, x, r, h, n⟩ => ⟨P, R, as, G, m, _, (fun nm => x nm G m), r, h, fun us J R1 H1 ⟨hN, I, h0, hs, hd⟩ n1 r1 ok D hD => by
    have okP := ok P rfl rfl rfl rfl
    have hR := r1.newR hD
    have hB := r1.newB hD
    have h0D : P.H0 D = none := r1.new0 hD
    have hA : ∀ (j : Nat) x, m[j]? = some (some x) → as[j]? ≠ some D := fun j x e => r1.newA hD e
    have hR0 : P.R0 D = none := Same.free r1.r0 hR
    have W0 : Rel K mg Z P R1 as G m σ (upd H1 D (.lst [])) := r1.poke hR hB h0D hA
    refine ⟨fun i q H' => q = us.length - i ∧ i ≤ us.length ∧ ∃ R' as' m' acc xs, Rel K mg Z P R' as' G m' σ H' ∧ R' D = none ∧ (∀ (j : Nat) x, m'[j]? = some (some x) → as'[j]? ≠ some D) ∧ H' D = some (.lst xs) ∧ Paired (ItR K mg s R' as') xs acc ∧ I i m' acc ∧ Same R1 R' ∧ ∀ l : Nat, l ∉ FP → as'[l]? = as[l]?,
      ⟨us.length, by simp, Nat.zero_le _, R1, as, m, [], [], W0, hR, hA, upd_same, .nil, h0, Same.refl _, fun _ _ => rfl⟩, ?_⟩
    rintro i q H' ⟨rfl, hi, R', as', m', acc, xs, r', hR', hA', hx, rx, hI, sR, far⟩
    obtain ⟨ok1, ok2⟩ := okP R' as' G m' σ H' r' sR
    by_cases hlt : i < us.length
    · have ht : us[i]? = some us[i] := List.getElem?_eq_getElem hlt
      obtain ⟨hgo, hy⟩ := ok1 i _ ht
      obtain ⟨hap, hstep⟩ := hs i _ m' acc ht hI
      refine .inr ⟨hgo, fun H2 => i + 1 ≤ us.length ∧ ∃ R2 as2 m2 acc2 xs2, Rel K mg Z P R2 as2 G m2 σ H2 ∧ R2 D = none ∧ (∀ (j : Nat) x, m2[j]? = some (some x) → as2[j]? ≠ some D) ∧ H2 D = some (.lst xs2) ∧ Paired (ItR K mg s R2 as2) xs2 acc2 ∧ I (i + 1) m2 acc2 ∧ Same R1 R2 ∧ ∀ l : Nat, l ∉ FP → as2[l]? = as[l]?, fun H2 ⟨a, b⟩ => ⟨us.length - (i + 1), by omega, rfl, a, b⟩, fun v H2 hv => ?_⟩
      obtain ⟨R2, s2, n2, r2, rv⟩ := hy v H2 hv
      refine ⟨P, R2, as', _, m', _, _, r2.wipe vs, rv, hstep, fun G3 σ3 h3 s3 r3 => ⟨Eq.trans s3 (wipe_wipe σ vs), ?_⟩⟩
      have clear : ∀ {Ra Ha Rb Hb : Hp}, Nx P Ra Ha Rb Hb → Ra D = none → Ha D = some (.lst xs) → Rb D = none ∧ Hb D = some (.lst xs) := fun {Ra Ha Rb Hb} n0 h1 h2 => by
        refine ⟨?_, n0.h D _ hB h2⟩
        cases q : Rb D with
        | none => rfl
        | some u =>
          rcases n0.n D (by rw [q]; simp) with z | z
          · exact absurd h1 z
          · rw [h2] at z; cases z
      obtain ⟨c1, c2⟩ := clear n2 hR' hx
      refine LT.go (k := fun b => b = true) r3 rfl (fun b R4 H4 hb n4 r4 => ?_) fun nm cl R4 H4 z => (z : False).elim
      subst hb
      obtain ⟨c3, c4⟩ := clear n4 c1 c2
      rw [if_pos rfl]
      refine ⟨i, by omega, P.guard D (.lst xs), R4, as', G3, m', _, noXM, r4.guard c4 c3 hA', h3, ⟨fun d w m5 R5 as5 H5 ⟨y, ey, hsd, hz, hI5⟩ s5 far5 r5 d5 => ?_, fun nm cl m' R' as' G' H' z => (z : False).elim⟩⟩
      obtain ⟨r6, c5, c6, hA6⟩ := r5.unguard h0D hB hR0
      have s6 : Same R' R5 := (s2.trans n4.r).trans s5
      have env7 : ∀ (l : Nat) e, G[l]? = some (some e) → ∃ x, σ[l]? = some (some x) ∧ DRep K mg R5 P.hd as5 x e := fun l e he => by
        obtain ⟨u, g1, g2⟩ := r'.env l e he
        refine ⟨u, g1, ?_⟩
        cases g2 with
        | t g => exact .t (g.mono s6)
        | hnd q => exact .hnd q
        | @loc q a g =>
          refine .loc ?_
          rw [far5 q fun hq => noLoc_at (apart_at hap hq).1 l he]
          exact g
      have r7 : Rel K mg Z P R5 as5 G m5 σ H5 := { r6 with len := r'.len, env := env7 }
      have px : Paired (ItR K mg s R5 as5) xs acc := paired_imp rx fun u t ht ⟨g1, g2⟩ => ⟨g1.mono s6 fun q b et hb => by
        rw [far5 q fun hq => by
          have := (apart_at hap hq).2 t ht
          rw [et] at this
          simp [isAt] at this]
        exact hb, fun z => (g2 z).mono s6⟩
      have pw : ItR K mg s R5 as5 w y := ⟨chT_rep d5 ey, fun z => by
        have := hsd z
        subst this
        cases d5 with
        | t g => exact g⟩
      refine ⟨xs, c5, by rw [Paired.length rx]; exact hz, hlt, R5, as5, m5, acc ++ [y], xs ++ [w], r7.poke c6 hB h0D hA6, c6, hA6, upd_same, paired_append px (.cons pw .nil), hI5, (sR.trans s6), fun l hl => ?_⟩
      rw [far5 l fun z => hl (hfp i (by omega) l z), far l hl]
    · have e : i = us.length := by omega
      subst e
      obtain ⟨hj, hn, hxx, hk⟩ := hd m' acc hI
      have rf := r'.drS dr
      have own : Own K mg R' as' H' D (cellOf s acc) := by
        cases s with
        | true => exact ⟨xs, hx, paired_imp rx fun u t _ g => g.1⟩
        | false => exact ⟨xs, hx, paired_imp rx fun u t _ g => g.2 rfl⟩
      have ra := rf.adopt (x := cellOf s acc) hz0 hR' hB h0D hA' hj hn own hxx
      exact .inl ⟨ok2, n.ok (.loc j) (.ref D) _ _ _ _ hk (n1.r.trans sR) (fun l hl => by
        rw [List.mem_cons, not_or] at hl
        rw [List.getElem?_set_ne fun z => hl.1 z.symm]
        exact far l hl.2) ra (.loc (List.getElem?_set_self (by rw [r'.la]; exact hj)))⟩, fun nm cl R1 H1 a b c d => n.er nm cl m R1 as G H1 a b d⟩
end
section
variable {X : Cx} {Z : Rsc} {W W' : WX} {e tg iter elt c : Expr} {vi : VI} {vg : VG} {ve : Nat → VM} {pos spos : Pos} {s : Bool} {N j : Nat} {dr : Option Nat} {fp : Nat → List Nat} {FP : List Nat}
theorem vm_lcM {scope : Scope} {own : List (Str × Nat)} (h0 : Z.n0 ≤ j) (hfp : ∀ i, i < N → ∀ l ∈ fp i, l ∈ FP) (hc : X.calm = true) (hN : X.N.Nodup) (hi : PI X tg iter (LI X.K X.mg Z W vi)) (ok : BlkOk X.N X.env.scope scope own)
    (hg : ∀ (s : Shared) (H : Hp) (C : Addr) (cl : List (Str × Addr)) (fp : List Addr), PG (X.blk s H scope (compEnvC scope cl C X.env) fp) tg (LG X.K X.mg Z (some (own.map (·.2))) vg))
    (he : ∀ (s : Shared) (H : Hp) (C : Addr) (cl : List (Str × Addr)) (q : List Addr) (i : Nat), PE (X.blk s H scope (compEnvC scope cl C X.env) q) elt (LM X.K X.mg Z W' none (fp i) (ve i))) (hs : ∀ x, foldedSetIterable iter X.env x = pure x := by intro _; rfl) :
    PE X (.ListComp elt [⟨tg, iter, [], 0⟩] scope pos) (LM X.K X.mg Z W dr (j :: FP) (vmLcM s N j dr fp vi vg ve (own.map (·.2)))) :=
  PE.imp (pe_lc hc hN hi ok hg (fun s H C cl q => vts_nil (W := W')) (fun s H C cl q => PE.ex (N := N) (he s H C cl q)) hs) (lc_ofMM h0 hfp)
theorem vs_setLcMM {i : Nat} {y : Str} {py : Pos} {scope : Scope} {own : List (Str × Nat)} (h0 : Z.n0 ≤ j) (hfp : ∀ i, i < N → ∀ l ∈ fp i, l ∈ FP) (hc : X.calm = true) (hN : X.N.Nodup) (hy : X.N[i]? = some y) (hyl : X.env.scope.names.lookup y = some .local)
    (hsw : swapsWith (.ListComp elt [⟨tg, iter, [], 0⟩] scope pos) (some (.Name y py)) spos.line X.env = pure true) (hi : PI X tg iter (LI X.K X.mg Z W vi)) (ok : BlkOk X.N X.env.scope scope own)
    (hg : ∀ (s : Shared) (H : Hp) (C : Addr) (cl : List (Str × Addr)) (fp : List Addr), PG (X.blk s H scope (compEnvC scope cl C X.env) fp) tg (LG X.K X.mg Z (some (own.map (·.2))) vg))
    (he : ∀ (s : Shared) (H : Hp) (C : Addr) (cl : List (Str × Addr)) (q : List Addr) (i : Nat), PE (X.blk s H scope (compEnvC scope cl C X.env) q) elt (LM X.K X.mg Z W' none (fp i) (ve i))) (hs : ∀ x, foldedSetIterable iter X.env x = pure x := by intro _; rfl) :
    PS X (.Assign [.Name y py] (.ListComp elt [⟨tg, iter, [], 0⟩] scope pos) spos) (LS X.K X.mg Z W (vSetM dr i (vmLcM s N j dr fp vi vg ve (own.map (·.2))))) :=
  PS.imp (ps_setLc hc hN hy hyl hsw hi ok hg (fun s H C cl q => vts_nil (W := W')) (fun s H C cl q => PE.ex (N := N) (he s H C cl q)) hs) fun D σ H ⟨P, R, as, G, m, nx, rt, bk, ct, ex, r, h, k⟩ => by
    refine lc_ofMM (s := s) (W := W) (FP := FP) (j := j) (dr := dr) h0 hfp σ H _ ?_
    exact ⟨P, R, as, G, m, _, _, r, h, fun d v m' R' as' H' h' s q r' d' => k.nx _ m' R' as' _ H' h' (r'.set d'), fun nm cl m' R' as' G' H' a b c => k.ex nm cl m' R' as' G' σ H' a b c⟩
end
section
variable {X : Cx} {Z : Rsc} {W W' : WX} {e elt : Expr} {ifs : List Expr} {vd ve : VE} {vg : VG} {vt : VT} {pos apos cpos tpos : Pos} {elts : List Expr} {kk : Nat}
theorem v_lcI {scope : Scope} {own : List (Str × Nat)} (hc : X.calm = true) (hN : X.N.Nodup) (hi : PE X e (LE X.K X.mg Z W vd)) (ok : BlkOk X.N X.env.scope scope own)
    (hg : ∀ (s : Shared) (H : Hp) (C : Addr) (cl : List (Str × Addr)) (fp : List Addr), PG (X.blk s H scope (compEnvC scope cl C X.env) fp) (.Tuple elts kk tpos) (LG X.K X.mg Z (some (own.map (·.2))) vg))
    (ht : ∀ (s : Shared) (H : Hp) (C : Addr) (cl : List (Str × Addr)) (fp : List Addr), PTs (X.blk s H scope (compEnvC scope cl C X.env) fp) ifs (LT X.K X.mg Z W' vt))
    (he : ∀ (s : Shared) (H : Hp) (C : Addr) (cl : List (Str × Addr)) (fp : List Addr), PE (X.blk s H scope (compEnvC scope cl C X.env) fp) elt (LE X.K X.mg Z W' ve))
    (hbase : attributeBase e "items" X.env (eval e X.env) = eval e X.env := by rfl) (hline : (apos.endLine == cpos.line) = true := by rfl)
    (hs : ∀ x, foldedSetIterable (.Call (.Attribute e "items" apos) [] [] cpos) X.env x = pure x := by intro _; rfl) :
    PE X (.ListComp elt [⟨.Tuple elts kk tpos, .Call (.Attribute e "items" apos) [] [] cpos, ifs, 0⟩] scope pos) (LE X.K X.mg Z W (vLc (viD itemsT vd) vg vt ve (own.map (·.2)))) :=
  v_lcJ Iti itemsT (fun _ _ _ _ _ _ h r => itok_items h r) _ (fun d o kvs H1 R h q => ⟨d, o, kvs, rfl, h, q⟩) (fun {td} h => pi_items h hbase hline) hc hN hi ok hg ht he hs
end
end VL

/-! VM, part Q: for x, y in zip(A, B): o[i] = e, A a list of sites. -/
namespace VL
open PySem L2
/-- the loop: at each turn one thing is set; sites stay where they lie -/
def vForZ (a b : VE) (x y : Nat) (vo vx ve : VE) : VS := fun nx rt _ _ ex G m => a G m (fun d => b G m (fun e => ∃ l ts us, d = .loc l ∧ m[l]? = some (some (.dl ts)) ∧ e = .t (.lst us) ∧ ∃ I : Nat → Env → Sto → Prop, I 0 G m ∧
  (∀ (q : Nat) t u G' m', ts[q]? = some t → us[q]? = some u → I q G' m' → m'[l]? = some (some (.dl ts)) ∧ vSetI vo vx ve (fun G2 m2 => m2[l]? = some (some (.dl ts)) ∧ I (q + 1) G2 m2) rt (fun _ _ => False) (fun _ _ => False) (fun _ _ _ => False) ((G'.set x (some (chD t))).set y (some (.t u))) m') ∧
  ∀ G' m', I (min ts.length us.length) G' m' → nx G' m') (fun n => ex n G m)) (fun n => ex n G m)
section
variable {X : Cx} {Z : Rsc} {W : WX} {e e2 o ix value : Expr} {va vb vo vx ve : VE} {p pos fpos tpos p1 p2 spos pos' : Pos} {kk : Nat} {n1 n2 : Str} {x y : Nat}
theorem vs_forZ (hpw : PassesOwn (model X.prog X.w) X.A X.env X.xe) (hc : X.calm = true) (hz : ∀ {ta : TA}, PA X [e, e2] ta → PI X (.Tuple [.Name n1 p1, .Name n2 p2] kk tpos) (.Call (.Name "zip" p) [e, e2] [] pos) (iZip X.K ta)) (h : PE X e (LE X.K X.mg Z W va)) (h' : PE X e2 (LE X.K X.mg Z W vb))
    (hN : X.N.Nodup) (hx : X.N[x]? = some n1) (hy : X.N[y]? = some n2) (lx : Loc X.env.scope n1) (ly : Loc X.env.scope n2)
    (hu : X.A.units + 1 < cLine) (ho : PE X o (LE X.K X.mg Z W0 vo)) (hi : PE X ix (LE X.K X.mg Z W0 vx)) (hv : PE X value (LE X.K X.mg Z W0 ve))
    (hp : ∀ {g : TG}, PG X (.Subscript o ix pos') g → PS X (.Assign [.Subscript o ix pos'] value spos) (tAsg (LE X.K X.mg Z W0 ve) g))
    (ha : ∀ v, assign (.Subscript o ix pos') X.env v = (do
      let ov ← holding [v] (eval o X.env)
      let iv ← holding [v, ov] (eval ix X.env)
      standAt pos'
      holding [v, ov, iv] (setItem ov iv v)
      release [v, ov, iv] []) := by intro _; rfl)
    (hs2 : starEach [e2] X.env = (false, eval e2 X.env) :: starEach [] X.env := by rfl) (hs3 : starEach [e, e2] X.env = (false, eval e X.env) :: starEach [e2] X.env := by rfl)
    (fx : X.fn n1 = true ∨ X.env.scope.names.lookup n1 = some .local := by first | exact .inl rfl | exact .inr rfl | assumption) (fy : X.fn n2 = true ∨ X.env.scope.names.lookup n2 = some .local := by first | exact .inl rfl | exact .inr rfl | assumption)
    (hs : ∀ x, foldedSetIterable (.Call (.Name "zip" p) [e, e2] [] pos) X.env x = pure x := by intro _; rfl)
    (hn : (assignEach [.Name n1 p1, .Name n2 p2] X.env).length = 2 := by rfl) (hst : (assignEach [.Name n1 p1, .Name n2 p2] X.env).findIdx? (·.1) = none := by rfl)
    (ha1 : (assignEach [.Name n1 p1, .Name n2 p2] X.env).map (·.2) = assign (.Name n1 p1) X.env :: (assignEach [.Name n2 p2] X.env).map (·.2) := by rfl) (ha2 : (assignEach [.Name n2 p2] X.env).map (·.2) = assign (.Name n2 p2) X.env :: (assignEach [] X.env).map (·.2) := by rfl) :
    PS X (.For (.Tuple [.Name n1 p1, .Name n2 p2] kk tpos) (.Call (.Name "zip" p) [e, e2] [] pos) [.Assign [.Subscript o ix pos'] value spos] [] fpos) (LS X.K X.mg Z W (vForZ va vb x y vo vx ve)) :=
  PS.imp (ps_for hpw hc (hz (pa_cons h (pa_cons h' pa_nil hs2) hs3)) (pg_tup hc (pgs_cons (pg_name hN hx lx fx) (pgs_cons (pg_name hN hy ly fy) pgs_nil ha2) ha1) hn hst) (pss_one (hp (pg_sub ho hi (set_item hu) ha))) hs) fun D σ H ⟨P, R, as, G, m, nx, rt, bk, ct, ex, r, h, k⟩ =>
    LE.go r h (fun d v R1 H1 h1 nn1 r1 d1 => LE.go r1 h1 (fun d2 v2 R2 H2 ⟨l, ts, us, ed, el, e2', I, h0, hst, hd⟩ nn2 r2 d2' => by
      subst ed e2'
      have d1 := d1.mono nn2.r
      cases d1 with
      | @loc _ a hla =>
      cases d2' with
      | t rw' =>
      obtain ⟨bb, ys, rfl, hyb, ry⟩ := rw'.lst_inv
      obtain ⟨a', q1, ⟨xs, hxa, rx⟩, _⟩ := r2.sto l _ el
      rw [hla] at q1; cases q1
      have ry0 := ry
      refine ⟨_, bb, xs, ys, rfl, .of hxa, .of (r2.ex _ _ hyb), ?_⟩
      refine ⟨fun q mz σ' H' => mz = min ts.length us.length - q ∧ q ≤ min ts.length us.length ∧ ∃ R' G' m', Rel X.K X.mg Z (P.at R2) R' as G' m' σ' H' ∧ (q < min ts.length us.length → m'[l]? = some (some (.dl ts))) ∧ m'[l]? = some (some (.dl ts)) ∧ I q G' m', ⟨_, rfl, Nat.zero_le _, R2, G, m, r2.base, fun _ => el, el, h0⟩, ?_⟩
      rintro q mz σ' H' ⟨rfl, hq, R', G', m', r', _, el', hI⟩
      obtain ⟨a', q1, ⟨xs', hxa', rx'⟩, _⟩ := r'.sto l _ el'
      rw [hla] at q1; cases q1
      have hyb' : H' bb = some (.lst ys) := r'.ex _ _ (r'.r0 _ _ hyb)
      have lx' := Paired.length rx'
      have ly' := Paired.length ry
      by_cases hlt : q < min ts.length us.length
      · have ht : ts[q]? = some ts[q] := List.getElem?_eq_getElem (by omega)
        have hu' : us[q]? = some us[q] := List.getElem?_eq_getElem (by omega)
        have hx' : xs'[q]? = some xs'[q] := List.getElem?_eq_getElem (by omega)
        have hy' : ys[q]? = some ys[q] := List.getElem?_eq_getElem (by omega)
        have fin : ∀ {σ2 : L2.St} {H2 R3 : Hp} {G3 : Env} {m3 : Sto}, Rel X.K X.mg Z (P.at R2) R3 as G3 m3 σ2 H2 → m3[l]? = some (some (.dl ts)) → I (q + 1) G3 m3 → q + 1 ≤ min ts.length us.length ∧ ∃ R3 G3 m3, Rel X.K X.mg Z (P.at R2) R3 as G3 m3 σ2 H2 ∧ m3[l]? = some (some (.dl ts)) ∧ I (q + 1) G3 m3 := fun b2 b3 b4 => ⟨by omega, _, _, _, b2, b3, b4⟩
        obtain ⟨_, hbody⟩ := hst q _ _ G' m' ht hu' hI
        refine .inr ⟨⟨xs', ys, _, _, .of hxa', .of hyb', hx', hy'⟩, fun σ2 H2 => q + 1 ≤ min ts.length us.length ∧ ∃ R3 G3 m3, Rel X.K X.mg Z (P.at R2) R3 as G3 m3 σ2 H2 ∧ m3[l]? = some (some (.dl ts)) ∧ I (q + 1) G3 m3, fun σ2 H2 ⟨b1, R3, G3, m3, b2, b3, b4⟩ => ⟨min ts.length us.length - (q + 1), by omega, rfl, b1, R3, G3, m3, b2, fun _ => b3, b3, b4⟩, fun z H2 ⟨T, v', w', ez, hT, eH, hv', hw'⟩ => ?_⟩
        subst ez eH
        have z1 := hv' xs' (.of hxa')
        have z2 := hw' ys (.of hyb')
        rw [hx'] at z1
        rw [hy'] at z2
        cases z1
        cases z2
        obtain ⟨r3, n3⟩ := r'.laid (o := .tup [xs'[q], ys[q]]) hT
        have c1 := ch_D (hd := P.hd) ((paired_at rx' q _ _ hx' ht).mono (as' := as) n3.r fun _ _ _ z => z)
        have c2 : Rep X.K X.mg (upd R' T (.tup [xs'[q], ys[q]])) ys[q] us[q] := (paired_at ry q _ _ hy' hu').mono (r'.r0.trans n3.r)
        refine ⟨T, _, rfl, .of upd_same, rfl, xs'[q], [ys[q]], rfl, ys[q], [], rfl, rfl, ?_⟩
        have r4 := (r3.set (i := x) c1).set (i := y) (DRep.t c2)
        refine LE.go r4 hbody (fun yv w R5 H5 ⟨t, ey, h5⟩ n5 r5 d5 => LE.go r5 h5 (fun dv v6 R6 H6 h6 n6 r6 d6 => LE.go r6 h6 (fun d' v7 R7 H7 ⟨j, ej, h7⟩ n7 r7 d7 => by
          subst ey ej
          have d5' := (d5.mono n6.r).mono n7.r
          have d6' := d6.mono n7.r
          cases d5' with
          | t rv =>
            rcases h7 with ⟨ts7, n, qq, e1, e2, e3, h7⟩ | ⟨ts7, ky, e1, e2, hz7, h7⟩
            · obtain ⟨a7, xs7, rfl, ha7, hx7, rx7⟩ := r7.vLoc d6' e1
              refine .inl ⟨a7, xs7, n, qq, rfl, r7.vInt d7 e2, hx7, by rw [Paired.length rx7]; exact e3, ?_⟩
              exact fin (r7.put (x' := .lst (ts7.set qq t)) e1 ha7 ⟨xs7.set qq w, upd_same, paired_set rv qq rx7⟩) h7.1 h7.2
            · obtain ⟨a7, xs7, rfl, ha7, hx7, rx7⟩ := r7.vLocD d6' e1
              refine .inr ⟨a7, _, rfl, .inl ⟨xs7, ky, hx7, r7.vKey d7 e2, by rw [Paired.length rx7]; exact hz7, rfl⟩, ?_⟩
              exact fin (r7.put (x' := .dic (putT ts7 ky t)) e1 ha7 ⟨putK xs7 ky w, upd_same, put_pair rv ky rx7⟩) h7.1 h7.2) fun _ _ _ _ z => z.elim) fun _ _ _ _ z => z.elim) fun _ _ _ _ z => z.elim
      · have eq : q = min ts.length us.length := by omega
        subst eq
        exact .inl ⟨⟨xs', ys, .of hxa', .of hyb', by omega⟩, k.nx G' m' R' as σ' H' (hd G' m' hI) (r2.unbase r')⟩) k.er) k.er
end
/-! {}, a new dict at the site j; o.pop(i) -/
abbrev vmDic (j : Nat) : VM := fun G m k x => newC j none (.dic []) G m k
abbrev vmPopAt (o i : VE) : VM := fun G m k x => o G m (fun d => ∃ j, d = .loc j ∧ (∃ us, m[j]? = some (some (.lst us))) ∧ i G m (fun e => ∃ ts n q t, m[j]? = some (some (.lst ts)) ∧ view m e = some (.int n) ∧ -(2 ^ 63) ≤ n ∧ n < 2 ^ 63 ∧ seqIndex? n ts.length = some q ∧ ts[q]? = some t ∧ k (.t t) (m.set j (some (.lst (ts.eraseIdx q))))) (fun n => x n G m)) (fun n => x n G m)
theorem paired_erase {α β : Type} {F : α → β → Prop} : ∀ {l : List α} {l' : List β} (i : Nat), Paired F l l' → Paired F (l.eraseIdx i) (l'.eraseIdx i)
  | _, _, _, .nil => .nil
  | _, _, 0, .cons _ t => t
  | _, _, i + 1, .cons r t => .cons r (paired_erase i t)
section
variable {X : Cx} {Z : Rsc} {W : WX} {o i : Expr} {vo vi : VE} {p1 p2 pos : Pos} {j : Nat}
theorem vm_dic (h0 : Z.n0 ≤ j) : PE X (.Dict [] [] pos) (LM X.K X.mg Z W none [j] (vmDic j)) :=
  PE.imp pe_dnewK fun σ H Q ⟨P, R, as, G, m, k, x, r, ⟨hj, hn, hx, h⟩, n⟩ => fun p hp => by
    obtain ⟨r2, far, d2⟩ := newC_ok r (dr := none) (x := .dic []) h0 hp hj hn hx ⟨[], upd_same, .nil⟩
    exact n.ok _ _ _ R _ _ h (Same.refl _) far r2 d2
theorem vm_popAt (hp : ∀ {ta ti : TE}, PE X o ta → PE X i ti → PE X (.Call (.Attribute o "pop" p1) [i] [] p2) (tBM X.K "list" rPopAt ta (tCons ti tNil))) (ho : PE X o (LE X.K X.mg Z W vo)) (hi : PE X i (LE X.K X.mg Z W vi)) : PE X (.Call (.Attribute o "pop" p1) [i] [] p2) (LM X.K X.mg Z W none [] (vmPopAt vo vi)) :=
  PE.imp (hp ho hi) fun σ H Q ⟨P, R, as, G, m, k, x, r, h, n⟩ =>
    LE.go r h (fun d v R1 H1 ⟨j, ed, ⟨us, eu⟩, h1⟩ n1 r1 d1 => by
      subst ed
      obtain ⟨a0, xs0, rfl, ha0, hx0, rx0⟩ := r1.vLoc d1 eu
      refine ⟨.inl ⟨rfl, xs0, .of hx0⟩, LE.go r1 h1 (fun e w R2 H2 ⟨ts, nn, q, t, ej, en, g1, g2, g3, et, h2⟩ n2 r2 d2 => ?_) fun nm cl R1 H1 a b c d => n.er nm cl m R1 as G H1 a b d⟩
      obtain ⟨a, xs, e3, ha, hx, rx⟩ := r2.vLoc (d1.mono n2.r) ej
      cases e3
      rw [r2.vInt d2 en]
      obtain ⟨y, hy, ry⟩ := Reps.get rx et
      exact ⟨_, xs, nn, q, y, rfl, rfl, hx, g1, g2, by rw [Paired.length rx]; exact g3, hy, n.ok _ _ _ R2 as _ h2 (n1.r.trans n2.r) (fun _ _ => rfl) (r2.put ej ha ⟨_, upd_same, paired_erase q rx⟩) (.t ry)⟩) (fun nm cl R1 H1 a b c d => n.er nm cl m R1 as G H1 a b d)
end
theorem fp_range (b w N : Nat) : ∀ i, i < N → ∀ l ∈ (List.range w).map (b + i * w + ·), l ∈ (List.range (N * w)).map (b + ·) := fun i hi l hl => by
  obtain ⟨q, hq, rfl⟩ := List.mem_map.mp hl
  have hq := List.mem_range.mp hq
  refine List.mem_map.mpr ⟨i * w + q, List.mem_range.mpr ?_, by omega⟩
  have : (i + 1) * w ≤ N * w := Nat.mul_le_mul_right w hi
  rw [Nat.succ_mul] at this
  omega
end VL

/-! VM, part R: len of a dict. -/
namespace VL
open PySem L2
section
variable {X : Cx} {Z : Rsc} {W : WX} {e : Expr} {p pos : Pos}
open PyProof.Rows PySem.Spec in
theorem call_lenDK : CallR X (.builtin "len") (fun xs H Q => ∃ (a : Addr) (kvs : List (Key × V)), xs = [.ref a] ∧ Rd H a (.dK kvs) ∧ Q (.int kvs.length) H) := by
  intro pins s σ H xs us Q I r q
  obtain ⟨a, kvs, ex, hd, q⟩ := q
  subst ex
  obtain ⟨u, eu, rx⟩ := vals1 r
  subst eu
  cases rx
  obtain ⟨z, lo, vs, rel, dd⟩ := dk_rd I.hok hd
  have hvk : kvs.length = vs.length := rel.length
  have h16 : vs.length ≤ sizeLine := by rw [← hvk]; exact z
  have hs : sizeLine = 16777216 := sizeLine_eq
  exact call_len_dict lo dd (by omega) ⟨.int kvs.length, H, I.tok _, ⟨_, by rw [hvk]⟩, q⟩
theorem lo_lenD {K : PySem.W.Frag} {mg : Str → Option Value} : LoC K mg (fun xs H Q => ∃ (a : Addr) (kvs : List (Key × V)), xs = [.ref a] ∧ Rd H a (.dK kvs) ∧ Q (.int kvs.length) H) fLenD := by
  rintro Z P R as G m σ H vs ds k Q r h ⟨d, ts, rfl, e1, q⟩ nn
  obtain ⟨v, rfl, dv⟩ := pone h
  obtain ⟨a, xs, rfl, hx, rx⟩ := r.vDic dv e1
  refine ⟨a, xs, rfl, hx, ?_⟩
  rw [Paired.length rx]
  exact nn _ _ R H q .refl r (.t (.int _))
theorem v_lenD {es : VA} (hg : Gl X "len") (hm : X.mg "len" = none) (h : PA X [e] (LA X.K X.mg Z W es)) (he : starEach [e] X.env = (false, eval e X.env) :: starEach [] X.env := by rfl) (hpl : (backTo pos (starEach [] X.env)).any (·.1) = false := by rfl) :
    PE X (.Call (.Name "len" p) [e] [] pos) (LE X.K X.mg Z W (vCB fLenD es)) := v_callB call_lenDK lo_lenD hg hm (by decide +kernel) h (by decide) (by decide) he hpl
end
end VL

/-! VM, part S: list(range(n)). -/
namespace VL
open PySem L2
def rgL (n : Int) : List Int := (List.range (n - 0).toNat).map fun (i : Nat) => 0 + (i : Int)
theorem rgV_ints (n : Int) : rgV 0 n = (rgL n).map V.int := by unfold rgV rgL; rw [List.map_map]; rfl
theorem rgL_len (n : Int) : (rgL n).length = n.toNat := by unfold rgL; rw [List.length_map, List.length_range, Int.sub_zero]
theorem rgL_get {n : Int} {i : Nat} (h : i < n.toNat) : (rgL n)[i]? = some (i : Int) := by
  unfold rgL
  rw [List.getElem?_map, List.getElem?_range (by omega)]
  show some (0 + (i : Int)) = _
  rw [Int.zero_add]
abbrev vListR1 (e : VE) : VE := fun G m k x => e G m (fun d => ∃ n, view m d = some (.int n) ∧ RgOk 0 n ∧ k (.t (.lst ((rgL n).map .int)))) x
section
variable {X : Cx} {Z : Rsc} {W : WX} {a : Expr} {va : VE} {p p2 pos pos2 : Pos}
theorem v_listR1 (hc : X.calm = true) (hg : Gl X "list") (hm : X.mg "list" = none) (hg2 : Gl X "range") (hm2 : X.mg "range" = none) (ha : PE X a (LE X.K X.mg Z W va))
    (na : starEach [a] X.env = (false, eval a X.env) :: starEach [] X.env := by rfl) (nb : starEach [.Call (.Name "range" p2) [a] [] pos2] X.env = (false, eval (.Call (.Name "range" p2) [a] [] pos2) X.env) :: starEach [] X.env := by rfl) :
    PE X (.Call (.Name "list" p) [.Call (.Name "range" p2) [a] [] pos2] [] pos) (LE X.K X.mg Z W (vListR1 va)) :=
  PE.imp (pe_listRg hc hg hm (prg_1 hg2 hm2 ha na) nb) fun σ H Q ⟨P, R, as, G, m, k, x, r, h, n⟩ => LE.go r h (fun d v R1 H1 ⟨n0, e0, b0, h1⟩ n1 r1 d1 => by
    refine ⟨n0, r1.vInt d1 e0, b0, fun q hq => ?_⟩
    obtain ⟨r', n'⟩ := r1.laid (o := .lst (rgV 0 n0)) hq
    refine n.ok _ _ _ _ h1 (n1.trans n') r' (.t (.lstP upd_same ?_))
    rw [rgV_ints]
    exact ints_reps _) n.er
end
end VL

/-! VM, part T: range(a, b) of any size. -/
namespace VL
open PySem L2 PySem.Spec PyProof.Rows
theorem turn_longrange {P : Program} {w : World} {K : PySem.W.Frag} {tg : Expr} (it : Addr) (lo : Int) (n : Nat) : Turn P w K tg (Itr lo n) [it] it (fun i h => IsLongIter h it (lo + (i : Nat) * 1) ((n : Int) - (i : Nat)) 1) where
  mem := by simp
  obj := fun i h st b hb => by
    have e : b = it := by simpa using hb
    subst e
    exact ⟨_, st, fun v z => by
      have z' : Data.fields _ = Data.cell v := z
      cases z'⟩
  keep := fun i h h' st k => k it (by simp) _ st
  item := by
    intro X hP hw hK hc i pins s σ H E I hf st hg
    subst hP hw hK
    obtain ⟨f0, f1, f2, f3, f4, f5⟩ := hf it (by simp)
    have W := Walks.longrange (prog := X.prog) (w := X.w) (I.ok.hd hc) it lo 1 n
    refine W.item i s _ _ hg st fun v h' tk hv st' kk => ?_
    obtain ⟨t, rfl⟩ := hv
    have I1 : Inv X pins σ H { s with heap := h', toks := tk } := I.turned (fun b o hb e => kk b o (by simpa using hb) e) f0 f1 f3 f4 f5
    refine ⟨_, rfl, go_of (s := { s with heap := h', toks := tk }) (n := "longrange_iterator") st' rfl rfl (by decide) ⟨.int (lo + i), H, I1, ⟨t, ?_⟩, ⟨rfl, rfl⟩, st', fun b hb => (hf b hb).1⟩⟩
    rw [Int.mul_one]
  done := by
    intro X hP hw hK hc i pins s σ H E I hf st hg
    subst hP hw hK
    obtain ⟨f0, f1, f2, f3, f4, f5⟩ := hf it (by simp)
    exact wpAny_pyNext_long_end (I.ok.hd hc) st (by have : n ≤ i := hg; omega) fun h' eb => ⟨rfl, I.turned (t' := s.toks) (fun b o hb e => eb b o hb e) f0 f1 f3 f4 f5⟩
  self := fun _ _ _ _ _ st h => wpAny_pyIter_longiter st h
section
variable {X : Cx} {tg : Expr}
theorem range_itA {pins : List (Addr × Obj)} {σ : L2.St} {H : Hp} {s : Shared} {R : It → Hp → Prop} {E : Value → Shared → Prop} {lo hi : Int} {t u v : Tok} {tk : Nat} (I : Inv X pins σ H s)
    (q : R (Itr lo (hi - lo).toNat) H) : wpAny (model X.prog X.w) X.A (pyIter (.ref s.heap.objs.size)) (PIE X pins σ tg R) E { s with heap := s.heap.push { cls := .type "range", data := .fields #[.int lo t, .int hi u, .int 1 v] }, toks := tk } := by
  have e1 : lo + ((0 : Nat) : Int) * 1 = lo := by simp
  have e2 : (((hi - lo).toNat : Nat) : Int) - ((0 : Nat) : Int) = Builtin.Range.rangeSize lo hi 1 := by rw [rangeSize_one]; split <;> omega
  have I1 : Inv X pins σ H { s with heap := s.heap.push { cls := .type "range", data := .fields #[.int lo t, .int hi u, .int 1 v] }, toks := tk } := I.kept fun b o e => Heap.get?_push_of_some _ e
  cases hs : Builtin.Range.small lo hi 1 with
  | true =>
    refine wpAny_pyIter_range (IsRange.new ..) hs ?_
    refine ⟨(s.heap.push { cls := .type "range", data := .fields #[.int lo t, .int hi u, .int 1 v] }).objs.size, [(s.heap.push { cls := .type "range", data := .fields #[.int lo t, .int hi u, .int 1 v] }).objs.size], _, _, H, rfl,
      I1.kept (t' := tk) fun b o e => Heap.get?_push_of_some _ e, turn_range _ lo (hi - lo).toNat, ?_, fun b hb => ?_, q⟩
    · show IsRangeIter _ _ (lo + ((0 : Nat) : Int) * 1) ((((hi - lo).toNat : Nat) : Int) - ((0 : Nat) : Int)) 1
      rw [e1, e2]
      exact Heap.get?_push_size _ rfl
    · have e : b = (s.heap.push { cls := .type "range", data := .fields #[.int lo t, .int hi u, .int 1 v] }).objs.size := by simpa using hb
      subst e
      exact I1.fpOk (Nat.le_refl _) (I1.hok.fresh (Nat.le_refl _))
  | false =>
    refine wpAny_pyIter_longrange (IsRange.new ..) hs ?_
    refine ⟨(s.heap.push { cls := .type "range", data := .fields #[.int lo t, .int hi u, .int 1 v] }).objs.size, [(s.heap.push { cls := .type "range", data := .fields #[.int lo t, .int hi u, .int 1 v] }).objs.size], _, _, H, rfl,
      I1.kept (t' := tk) fun b o e => Heap.get?_push_of_some _ e, turn_longrange _ lo (hi - lo).toNat, ?_, fun b hb => ?_, q⟩
    · show IsLongIter _ _ (lo + ((0 : Nat) : Int) * 1) ((((hi - lo).toNat : Nat) : Int) - ((0 : Nat) : Int)) 1
      rw [e1, e2]
      exact Heap.get?_push_size _ rfl
    · have e : b = (s.heap.push { cls := .type "range", data := .fields #[.int lo t, .int hi u, .int 1 v] }).objs.size := by simpa using hb
      subst e
      exact I1.fpOk (Nat.le_refl _) (I1.hok.fresh (Nat.le_refl _))
def iRng2A (ta : TA) : TI := fun σ H R => ta σ H fun vs H1 => ∃ i j : Int, vs = [.int i, .int j] ∧ R (Itr i (j - i).toNat) H1
theorem pi_range2A {a b : Expr} {ta : TA} {p pos : Pos} (hg : Gl X "range") (hm : X.mg "range" = none) (ha : PA X [a, b] ta) (hs : starEach [a, b] X.env = [(false, eval a X.env), (false, eval b X.env)] := by rfl) (hs2 : starEach [b] X.env = [(false, eval b X.env)] := by rfl) :
    PI X tg (.Call (.Name "range" p) [a, b] [] pos) (iRng2A ta) := by
  refine ⟨fun pins s σ H R I h => ?_⟩
  refine Call_ (ld_blt I hg hm boot_range (PyProof.Rows.callWith_type1 (thn (ha.run pos pins s σ H _ I h) fun us s1 ⟨vs, H1, I1, r1, q1⟩ => ?_) (by rw [hs, hs2]) (by rw [hs2]; rfl)))
  obtain ⟨i, j, e, q⟩ := q1
  subst e
  cases r1 with
  | cons r rr =>
    cases rr with
    | cons r' rr =>
      cases rr
      obtain ⟨t, rfl⟩ := r
      obtain ⟨t', rfl⟩ := r'
      exact call_range_2 (range_itA I1 q)
end
abbrev viR2A (a b : VE) : VI := fun G m k x => a G m (fun d => b G m (fun e => ∃ i n : Int, view m d = some (.int i) ∧ view m e = some (.int n) ∧ k (rng i (n - i).toNat)) x) x
section
variable {X : Cx} {Z : Rsc} {W : WX} {tg e e2 : Expr} {ve vf : VE} {p pos : Pos}
theorem vi_range2A (hg : Gl X "range") (hm : X.mg "range" = none) (h : PE X e (LE X.K X.mg Z W ve)) (h' : PE X e2 (LE X.K X.mg Z W vf)) (hs : starEach [e, e2] X.env = [(false, eval e X.env), (false, eval e2 X.env)] := by rfl) (hs2 : starEach [e2] X.env = [(false, eval e2 X.env)] := by rfl) (hs3 : starEach [e, e2] X.env = (false, eval e X.env) :: starEach [e2] X.env := by rfl) :
    PI X tg (.Call (.Name "range" p) [e, e2] [] pos) (LI X.K X.mg Z W (viR2A ve vf)) :=
  PI.imp (pi_range2A hg hm (pa_cons h (pa_cons h' pa_nil hs2) hs3) hs hs2) fun σ H Q ⟨P, R, as, G, m, k, x, r, h, n, er⟩ => LE.go r h (fun d v R1 H1 h1 n1 r1 d1 => LE.go r1 h1 (fun d2 v2 R2 H2 ⟨i, j, e1, e2, h2⟩ n2 r2 d2' =>
    ⟨i, j, by rw [r1.vInt d1 e1, r2.vInt d2' e2], n _ _ R2 H2 h2 (n1.trans n2) r2 fun P' _ _ _ _ => itok_rng _ _⟩) fun nm cl R' H' a b c d => er nm cl R' H' a b (n1.trans c) d) er
end
end VL

/-! VL, part MU: tests whose parts change the store. -/
namespace VL
open PySem L2

/-- a test that changes nothing -/
abbrev vmtE (t : VT) : VMT := fun G m k x => t G m (fun c => k c m) (fun n => x n G m)
abbrev vmtOr (a b : VMT) : VMT := fun G m k x => a G m (fun c m1 => (c = true → k true m1) ∧ (c = false → b G m1 k x)) x
/-- what changes the store, held against what does not -/
abbrev vmOp (f : O2) (a : VM) (b : VE) : VM := fun G m k x => a G m (fun d m1 => b G m1 (fun e => f m1 d e (fun z => k z m1)) (fun n => x n G m1)) x
section
variable {X : Cx} {Z : Rsc} {W : WX} {a b : Expr} {rest : List Expr} {va : VM} {eb : VE} {ta tb : VMT} {vt : VT} {fp fp' : List Nat} {pos : Pos}
theorem vmt_e (h : PT X a (LT X.K X.mg Z W vt)) : PT X a (LMT X.K X.mg Z W [] (vmtE vt)) :=
  PT.imp h fun σ H Q ⟨P, R, as, G, m, k, x, r, h, n⟩ => LT.go r h (fun c R1 H1 h1 n1 r1 => n.ok c m R1 as H1 h1 n1.r (fun _ _ => rfl) r1) fun nm cl R1 H1 a b c d => n.er nm cl m R1 as G H1 a b d
theorem vmw_or1 (ha : PT X a (LMT X.K X.mg Z W fp ta)) : PW X (.BoolOp .Or [a] pos) (LMT X.K X.mg Z W fp ta) := pw_or1 ha
theorem vmw_or (ha : PT X a (LMT X.K X.mg Z W fp ta)) (hb : PW X (.BoolOp .Or (b :: rest) pos) (LMT X.K X.mg Z W fp' tb)) : PW X (.BoolOp .Or (a :: b :: rest) pos) (LMT X.K X.mg Z W (fp ++ fp') (vmtOr ta tb)) :=
  PW.imp (pw_or ha hb) fun σ H Q ⟨P, R, as, G, m, k, x, r, h, n⟩ => ⟨P, R, as, G, m, _, x, r, h, fun c m1 R1 as1 H1 ⟨h1, h2⟩ s1 q1 r1 => by
    cases c with
    | false =>
      rw [if_neg Bool.false_ne_true]
      exact ⟨P, R1, as1, G, m1, k, x, r1, h2 rfl, fun c m2 R2 as2 H2 h3 s2 q2 r2 => n.ok c m2 R2 as2 H2 h3 (s1.trans s2) (fun j hj => by
        rw [List.mem_append, not_or] at hj
        rw [q2 j hj.2, q1 j hj.1]) r2, n.er⟩
    | true =>
      rw [if_pos rfl]
      exact n.ok true m1 R1 as1 H1 (h1 rfl) s1 (fun j hj => q1 j (fun z => hj (List.mem_append_left _ z))) r1, n.er⟩
theorem vm_cmp {op : CmpOp} {r : R2} {f : O2} (ho : OpR X (compareOp op) r) (hr : Lo2 X.K X.mg r f) (ha : PE X a (LM X.K X.mg Z W none fp va)) (hb : PE X b (LE X.K X.mg Z W eb)) (hm : behindInMarks op b = false) : PE X (.Compare a [op] [b] pos) (LM X.K X.mg Z W none fp (vmOp f va eb)) :=
  PE.imp (pe_cmpR ho ha hb hm) fun σ H Q ⟨P, R, as, G, m, k, x, r0, h, n⟩ => ⟨P, R, as, G, m, _, x, r0, h, fun d v m1 R1 as1 H1 h1 s1 q1 r1 d1 => LE.go r1 h1 (fun e w R2 H2 h2 n2 r2 d2 => hr Z P R2 as1 G m1 σ H2 v w d e _ Q r2 (d1.mono n2.r) d2 h2 fun z u R3 H3 h3 n3 r3 d3 => n.ok z u m1 R3 as1 H3 h3 ((s1.trans n2.r).trans n3.r) q1 r3 d3) fun nm cl R2 H2 a b c d => n.er nm cl m1 R2 as1 G H2 a b d, n.er⟩
end
end VL

/-! VL, part MV: tests of what changes the store, held against something. -/
namespace VL
open PySem L2
section
variable {X : Cx} {Z : Rsc} {W : WX} {a b : Expr} {va : VM} {eb : VE} {fp : List Nat} {pos : Pos}
theorem vmt_cmp {op : CmpOp} {r : R2} {f : O2} (ho : OpR X (compareOp op) r) (hr : Lo2 X.K X.mg r f) (ha : PE X a (LM X.K X.mg Z W none fp va)) (hb : PE X b (LE X.K X.mg Z W eb)) (hm : behindInMarks op b = false) : PT X (.Compare a [op] [b] pos) (LMT X.K X.mg Z W fp (vmtB (vmOp f va eb))) :=
  PT.imp (pt_cmpR ho ha hb hm) fun σ H Q ⟨P, R, as, G, m, k, x, r0, h, n⟩ => ⟨P, R, as, G, m, _, x, r0, h, fun d v m1 R1 as1 H1 h1 s1 q1 r1 d1 =>
    LE.go r1 h1 (fun e w R2 H2 h2 n2 r2 d2 => hr Z P R2 as1 G m1 σ H2 v w d e _ _ r2 (d1.mono n2.r) d2 h2 fun z u R3 H3 ⟨c, e3, h3⟩ n3 r3 d3 => ⟨c, r3.vBl d3 e3, n.ok c m1 R3 as1 H3 h3 ((s1.trans n2.r).trans n3.r) q1 r3⟩) fun nm cl R2 H2 a b c d => n.er nm cl m1 R2 as1 G H2 a b d, n.er⟩
/-- what changes nothing, held against what changes the store -/
abbrev vmOpR (f : O2) (a : VE) (b : VM) : VM := fun G m k x => a G m (fun d => ∃ y, d = .t y ∧ b G m (fun e m2 => f m2 (.t y) e (fun z => k z m2)) x) (fun n => x n G m)
abbrev vmtAnd (a b : VMT) : VMT := fun G m k x => a G m (fun c m1 => (c = true → b G m1 k x) ∧ (c = false → k false m1)) x
variable {ea : VE} {vb : VM} {ta tb : VMT} {fp' : List Nat} {rest : List Expr}
theorem vmt_cmpR {op : CmpOp} {r : R2} {f : O2} (ho : OpR X (compareOp op) r) (hr : Lo2 X.K X.mg r f) (ha : PE X a (LE X.K X.mg Z W ea)) (hb : PE X b (LM X.K X.mg Z W none fp vb)) (hm : behindInMarks op b = false) : PT X (.Compare a [op] [b] pos) (LMT X.K X.mg Z W fp (vmtB (vmOpR f ea vb))) :=
  PT.imp (pt_cmpR ho ha hb hm) fun σ H Q ⟨P, R, as, G, m, k, x, r0, h, n⟩ => LE.go r0 h (fun d v R1 H1 ⟨y, ed, h1⟩ n1 r1 d1 => by
    subst ed
    exact ⟨P, R1, as, G, m, _, x, r1, h1, fun e w m2 R2 as2 H2 h2 s2 q2 r2 d2 => hr Z P R2 as2 G m2 σ H2 v w (.t y) e _ _ r2 (by cases d1 with | t h => exact .t (h.mono s2)) d2 h2 fun z u R3 H3 ⟨c, e3, h3⟩ n3 r3 d3 => ⟨c, r3.vBl d3 e3, n.ok c m2 R3 as2 H3 h3 ((n1.r.trans s2).trans n3.r) q2 r3⟩, n.er⟩) fun nm cl R2 H2 a b c d => n.er nm cl m R2 as G H2 a b d
theorem vmw_and1 (ha : PT X a (LMT X.K X.mg Z W fp ta)) : PW X (.BoolOp .And [a] pos) (LMT X.K X.mg Z W fp ta) := pw_and1 ha
theorem vmw_and (ha : PT X a (LMT X.K X.mg Z W fp ta)) (hb : PW X (.BoolOp .And (b :: rest) pos) (LMT X.K X.mg Z W fp' tb)) : PW X (.BoolOp .And (a :: b :: rest) pos) (LMT X.K X.mg Z W (fp ++ fp') (vmtAnd ta tb)) :=
  PW.imp (pw_and ha hb) fun σ H Q ⟨P, R, as, G, m, k, x, r, h, n⟩ => ⟨P, R, as, G, m, _, x, r, h, fun c m1 R1 as1 H1 ⟨h1, h2⟩ s1 q1 r1 => by
    cases c with
    | true =>
      rw [if_pos rfl]
      exact ⟨P, R1, as1, G, m1, k, x, r1, h1 rfl, fun c m2 R2 as2 H2 h3 s2 q2 r2 => n.ok c m2 R2 as2 H2 h3 (s1.trans s2) (fun j hj => by
        rw [List.mem_append, not_or] at hj
        rw [q2 j hj.2, q1 j hj.1]) r2, n.er⟩
    | false =>
      rw [if_neg Bool.false_ne_true]
      exact n.ok false m1 R1 as1 H1 (h2 rfl) s1 (fun j hj => q1 j (fun z => hj (List.mem_append_left _ z))) r1, n.er⟩
end
end VL

/-! VL, part MW: a comprehension whose element may raise (a call's exception): the block lets it pass. -/
namespace VL
open PySem L2 PySem.Spec

theorem noteFrame_env {e : Value} {c d : PySem.Env} (h : c.frame = d.frame) : noteFrame e c = noteFrame e d := by
  unfold noteFrame PySem.frameOf
  rw [h]
theorem funFrames_but {base h h' : Heap} {C : Addr} (k : ∀ b, b ≠ C → h'.get? b = h.get? b) : ∀ {l : List PySem.Env}, C ∉ frs l → h.FunFrames base l → h'.FunFrames base l
  | [], _, _ => trivial
  | env :: r, hc, ⟨hk, ⟨L, o, hf, hn, ho, hd⟩, hr⟩ => by
    unfold frs at hc
    rw [List.filterMap_cons, hf] at hc
    have h1 : L ≠ C := fun z => hc (by rw [z]; exact List.mem_cons_self)
    exact ⟨hk, ⟨L, o, hf, hn, (k L h1).trans ho, hd⟩, funFrames_but k (fun z => hc (List.mem_cons_of_mem _ z)) hr⟩

/-- what a block lets out: a call's exception of the wish E -/
def blkE (X : Cx) (s : Shared) (H : Hp) (scope : Scope) (ce : PySem.Env) (fp : List Addr) (E : L2.XK) : Value → Shared → Prop := fun u s' =>
  ∃ (pins : List (Addr × Obj)) (σ1 : L2.St) (H1 : Hp) (s1 : Shared), Inv (X.blk s H scope ce fp) pins σ1 H1 s1 ∧ L2.CX X.prog X.w X.stack H1 s1 E u s'
/-- the context of a block that may raise -/
abbrev blkX (X : Cx) (s : Shared) (H : Hp) (scope : Scope) (ce : PySem.Env) (fp : List Addr) (E : L2.XK) : Cx := (X.blk s H scope ce fp).wish (blkE X s H scope ce fp E)
section
variable {X : Cx} {W : WX} {pins : List (Addr × Obj)} {σ : L2.St} {H3 : Hp} {s3 : Shared} {scope : Scope} {ce : PySem.Env} {fp : List Addr}
theorem blk_pass {s : Shared} {H : Hp} {E : L2.XK} (σ' : L2.St) : PassesAt (L2.CX X.prog X.w) (blkX X s H scope ce fp E) σ' (WE (fun cls d _ H' => E cls d H') σ') :=
  fun pins H s e s' I c => ⟨pins, σ', H, s, I.unwish, c⟩
theorem blk_fails (tk : Takes X W) (hs : X.stack = X.env :: X.outer) (hf : X.env.frame = some X.env.locals) (I3 : Inv X pins σ H3 s3) (f3 : ∀ b ∈ fp, FpOk X pins H3 b) (cL : ce.locals = s3.heap.objs.size) (cF : ce.frame = X.env.frame)
    {u : Value} {s' : Shared} (x : blkE X s3 H3 scope ce fp (fun cls d H' => W cls d σ H') u s') : notedBy (model X.prog X.w) X.A ce (CompFails (model X.prog X.w) X.A X.xe ce) u s' := by
  obtain ⟨pinsB, σB, H1, s1, J1, c⟩ := x
  have xe := XE.of_call (W := fun cls d _ H' => W cls d σ H') J1 (fun _ _ _ h => h) c
  obtain ⟨a, B0, H0', cls0, d0, rfl, fl0, _⟩ := c
  obtain ⟨a', B, sI, pinsI, σI, H', cls, d, e, J, nb, up, sky, na, os, ag, w⟩ := xe
  cases e
  have fl : HandSPX.FlyingZ B X.stack a (Zc cls d) s'.heap := by
    obtain ⟨_, _, _, oe0, vs0, T0, oT0, ts0, he0, _, hd0, h10, _, _, hT0, hdT0, h30⟩ := fl0
    rcases sky with ⟨_, _, _, oe, vs, he, _, hd, h1⟩ | fl | ⟨_, _, _, oe, vs, T, oT, ts, he, _, hd, h1, _, _, hT, hdT, h3⟩
    · rw [he0] at he; cases he
      rw [hd0] at hd; cases hd
      rw [h10] at h1; cases h1
    · exact fl
    · rw [he0] at he; cases he
      rw [hd0] at hd; cases hd
      rw [h10] at h1; cases h1
      rw [hT0] at hT; cases hT
      rw [hdT0] at hdT; cases hdT
      rw [h30] at h3
      simp [rawInt] at h3
  have hfr : X.A.frames = some (X.env :: X.outer) := by rw [I3.ok.frames, hs]
  show wpAny _ _ (noteFrame (.ref a) ce) _ _ s'
  rw [noteFrame_env cF]
  rw [hs] at fl
  refine HandSPX.looks_onZ Zc.steady hfr hf fl fun h1 hh up1 => ?_
  have hC : ce.locals ∉ frs X.stack := fun hm => by
    obtain ⟨_, o, ho, _⟩ := I3.stack.mem hm
    rw [cL] at ho
    exact absurd (Heap.lt_size ho) (Nat.lt_irrefl _)
  obtain ⟨m, ⟨oC, es, ep, hoC, hdC, rC⟩, _⟩ := J.loc
  have hoC : sI.heap.get? ce.locals = some oC := hoC
  obtain ⟨k1, k2, k3, oe, vs, T, oT, ts, he, hz, hd, hv1, hnT, hTe, hT, hdT, h3⟩ := hh
  have hC1 : h1.get? ce.locals = some oC := k1 _ _ (nb _ _ hoC hC)
  refine ⟨m, ⟨oC, es, ep, hC1, hdC, rC⟩, fun h' m' hn' sb => ?_⟩
  have aC : a ≠ ce.locals := fun z => by rw [z, hC1] at he; cases he; rw [hdC] at hd; cases hd
  have tC : T ≠ ce.locals := fun z => by rw [z, hC1] at hT; cases hT; rw [hdC] at hdT; cases hdT
  have hB' : ∀ b o, (PySem.W.hideAll B [ce.locals]).get? b = some o → b ≠ ce.locals ∧ B.get? b = some o := fun b o e => ⟨fun z => (by rw [z, PySem.W.hideAll_none _ (by simp)] at e; cases e), PySem.W.of_hideAll _ e⟩
  have none' : ∀ b, B.get? b = none → (PySem.W.hideAll B [ce.locals]).get? b = none := fun b e => by
    cases q : (PySem.W.hideAll B [ce.locals]).get? b with
    | none => rfl
    | some o => rw [(hB' b o q).2] at e; cases e
  have held : HandSPX.HeldZ (PySem.W.hideAll B [ce.locals]) (X.env :: X.outer) a (Zc cls d) X.env.locals h' := by
    refine ⟨fun b o e => ?_, none' _ k2, ?_, oe, vs, T, oT, ts, (sb.2 a aC).trans he, hz, hd, hv1, none' _ hnT, hTe, (sb.2 T tC).trans hT, hdT, h3⟩
    · obtain ⟨n, e⟩ := hB' b o e
      exact (sb.2 b n).trans (k1 b o e)
    · exact funFrames_but sb.2 (by rw [← hs]; exact hC) (funFrames_none k3 fun b hb => none' b (k3.mem hb).1)
  have he' : h'.get? a = some oe := (sb.2 a aC).trans he
  show wpAny _ _ (PySem.passOn _ (.ref a) ce : Sem Value) _ _ _
  unfold PySem.passOn
  refine wpAny_bind (wpAny_field he' hd hv1 ?_)
  rw [if_neg (show ¬ ((Value.ref T == Value.none) = true) from by simp)]
  rw [cF, hf]
  refine wpAny_bind (HandSPX.setFlight_onZ held fun h2 held2 up2 => ?_)
  refine wpAny_throw (tk _ _ ?_)
  have IX : Inv X pins σ H' sI := I3.call' (ch := fp) J.os J.base J.hok J.bare fun b hb => ⟨(f3 b hb).2.2.2.1, (f3 b hb).2.1, (f3 b hb).2.2.2.2.1, (f3 b hb).2.2.2.2.2⟩
  have nC : H' ce.locals = none := J.free
  obtain ⟨f0, f1, f2, f4, f5, f6⟩ : FpOk X pins H' ce.locals := I3.fpOk (Nat.le_of_eq cL.symm) nC
  have IX' : Inv X pins σ H' { sI with heap := PySem.W.hideAll sI.heap [ce.locals] } := IX.turned (t' := sI.toks) (fun b o hb e => PySem.W.hideAll_get _ e (by simp [hb])) f0 f1 f4 f5 f6
  have hS' : ∀ b o, (PySem.W.hideAll sI.heap [ce.locals]).get? b = some o → b ≠ ce.locals ∧ sI.heap.get? b = some o := fun b o e => ⟨fun z => (by rw [z, PySem.W.hideAll_none _ (by simp)] at e; cases e), PySem.W.of_hideAll _ e⟩
  refine ⟨a, PySem.W.hideAll B [ce.locals], { sI with heap := PySem.W.hideAll sI.heap [ce.locals] }, pins, σ, H', cls, d, rfl, IX', fun b o e hb => ?_, fun b o e hn => ?_, .inr (.inr (by rw [hs]; exact held2)), na, os, ag, w⟩
  · obtain ⟨n, e⟩ := hS' b o e
    exact PySem.W.hideAll_get _ (nb b o e hb) (by simp [n])
  · obtain ⟨n, e⟩ := hS' b o e
    obtain ⟨sl, e1⟩ := (up.trans up1) b o e hn
    obtain ⟨sl2, e2⟩ := up2 b _ ((sb.2 b n).trans e1) hn
    exact ⟨sl2, e2⟩
end

/-! ### the comprehension -/
section
variable {X : Cx} {W : WX}
theorem lcx_core {pins : List (Addr × Obj)} {s : Shared} {σ : L2.St} {H : Hp} {Q : VK} {elt tg iter : Expr} {ifs : List Expr} {scope : Scope} {own : List (Str × Nat)} {pos pos' : Pos} {wi : TI} {g : L2.TG} {tt : TT} {te : WX → TE} {use : Option (Value → Sem Unit)} {Qf : Value → Shared → Prop}
    (tk : Takes X W) (hst : X.stack = X.env :: X.outer) (hfm : X.env.frame = some X.env.locals) (hc : X.calm = true) (hN : X.N.Nodup) (I : Inv X pins σ H s) (hi : PI X tg iter wi) (ok : BlkOk X.N X.env.scope scope own)
    (hg : ∀ (s : Shared) (H : Hp) (C : Addr) (cl : List (Str × Addr)) (fp : List Addr), PG (X.blk s H scope (compEnvC scope cl C X.env) fp) tg g)
    (ht : ∀ (s : Shared) (H : Hp) (C : Addr) (cl : List (Str × Addr)) (fp : List Addr), PTs (X.blk s H scope (compEnvC scope cl C X.env) fp) ifs tt)
    (he : ∀ (s : Shared) (H : Hp) (C : Addr) (cl : List (Str × Addr)) (fp : List Addr) (E : L2.XK), PE (blkX X s H scope (compEnvC scope cl C X.env) fp E) elt (te fun cls d _ H' => E cls d H'))
    (hs : ∀ x, foldedSetIterable iter X.env x = pure x) (h : tLc wi g tt (te fun cls d _ H' => W cls d σ H') (own.map (·.2)) σ H Q)
    (hRR : ∀ (D : Addr) (ce : PySem.Env) (s' : Shared) (m : Str → Option Value) (H' : Hp), Inv X pins σ H' s' → Q (.ref D) H' → s'.heap.Ns ce.locals m → FpOk X pins H' ce.locals → compEnds (model X.prog X.w) X.A X.xe use Qf (.ref D) ce (.ok .next) s') :
    wpAny (model X.prog X.w) X.A (comprehension (.ListComp elt [⟨tg, iter, ifs, 0⟩] scope pos) scope X.env pos' (newList []) false (eval iter X.env) use) Qf X.xe s := by
  have caught : ∀ y ∈ scope.names, y.2 = .free → ∃ c, X.env.cells.lookup y.1 = some c := fun y hy e => (ok.free y hy e).elim (fun k => I.ok.has _ (.inl k)) fun k => I.ok.has _ (.inr k)
  refine comprehension_at (use := use) rfl hs (closure_ok caught) ok.kind (fun y hy e => by rw [ok.uniq y hy, e]) (thn (hi.run pins s σ H _ I h) fun _ _ hx => thn hx fun itv s2 ⟨it, fp, tn, J, H2, e, I2, T, st2, f2, q⟩ => ?_)
  subst e
  -- the new list
  refine wpAny_newObj_type (newEnv_comp ?_) (by show 0 ≤ sizeLine; decide)
  generalize hD : s2.heap.objs.size = D
  obtain ⟨W0, ⟨m0, w0⟩, turn⟩ := q D (I2.hok.fresh (Nat.le_of_eq hD))
  generalize hs3 : ({ s2 with heap := s2.heap.push { cls := .type "list", data := .seq ([] : List Value).toArray } } : Shared) = s3
  have p3 : s3.heap = s2.heap.push { cls := .type "list", data := .seq ([] : List Value).toArray } := by rw [← hs3]
  have k3 : ∀ b o, s2.heap.get? b = some o → s3.heap.get? b = some o := fun b o e => by rw [p3]; exact Heap.get?_push_of_some _ e
  have I3 : Inv X pins σ (upd H2 D (.lst [])) s3 := by
    have hnew : s3.heap.get? D = some { cls := .type "list", data := .seq ([] : List Value).toArray } := by rw [p3, ← hD]; exact Heap.get?_push_size _ rfl
    have := I2.laid (a := D) (o := .lst []) (h' := s3.heap) (t' := s2.toks) k3 (Nat.le_of_eq hD) ⟨Nat.zero_le _, [], 0, .nil, hnew⟩
    rw [← hs3] at this ⊢
    exact this
  have f3 : ∀ b ∈ fp, FpOk X pins (upd H2 D (.lst [])) b ∧ b < s3.heap.objs.size := fun b hb => by
    obtain ⟨o, eo, _⟩ := T.obj _ _ st2 b hb
    have hlt := Heap.lt_size eo
    exact ⟨⟨by rw [upd_ne (by rw [← hD]; exact Nat.ne_of_lt hlt)]; exact (f2 b hb).1, (f2 b hb).2⟩, by rw [p3, Heap.size_push]; exact Nat.lt_succ_of_lt hlt⟩
  have I4 := block_start I3 ok hN f3
  have pg := hg s3 (upd H2 D (.lst [])) s3.heap.objs.size (cellsFrom (s3.heap.objs.size + 1) scope.names (cloFrom X.env.cells scope.names [])) fp
  have pt := ht s3 (upd H2 D (.lst [])) s3.heap.objs.size (cellsFrom (s3.heap.objs.size + 1) scope.names (cloFrom X.env.cells scope.names [])) fp
  have pe := he s3 (upd H2 D (.lst [])) s3.heap.objs.size (cellsFrom (s3.heap.objs.size + 1) scope.names (cloFrom X.env.cells scope.names [])) fp fun cls d H' => W cls d σ H'
  show codeAny _ _ (.compStart (.ListComp elt [⟨tg, iter, ifs, 0⟩] scope pos) 0 (.ref it) (.ref D) (compEnvC scope (cellsFrom (s3.heap.objs.size + 1) scope.names (cloFrom X.env.cells scope.names [])) s3.heap.objs.size X.env))
    (compEnds (model X.prog X.w) X.A X.xe use Qf (.ref D) (compEnvC scope (cellsFrom (s3.heap.objs.size + 1) scope.names (cloFrom X.env.cells scope.names [])) s3.heap.objs.size X.env)) { s3 with heap := pushCells (s3.heap.push { cls := .type "dict", data := .dict #[] }) scope.names }
  have cF : (compEnvC scope (cellsFrom (s3.heap.objs.size + 1) scope.names (cloFrom X.env.cells scope.names [])) s3.heap.objs.size X.env).frame = X.env.frame := rfl
  have cL : (compEnvC scope (cellsFrom (s3.heap.objs.size + 1) scope.names (cloFrom X.env.cells scope.names [])) s3.heap.objs.size X.env).locals = s3.heap.objs.size := rfl
  generalize compEnvC scope (cellsFrom (s3.heap.objs.size + 1) scope.names (cloFrom X.env.cells scope.names [])) s3.heap.objs.size X.env = ce at I4 pg pt pe cF cL ⊢
  generalize upd H2 D (.lst []) = H3 at I3 I4 pg pt pe w0 f3
  generalize hs4 : ({ s3 with heap := pushCells (s3.heap.push { cls := .type "dict", data := .dict #[] }) scope.names } : Shared) = s4 at I4 ⊢
  have st4 : tn 0 s4.heap := T.keep _ _ _ st2 fun b _ o e => by rw [← hs4]; exact pushCells_keeps _ _ _ _ (Heap.get?_push_of_some _ (k3 b o e))
  -- an exception leaves the block
  have bad : ∀ {α : Type} {t : Sem α} {R : α → Shared → Prop} {s' : Shared}, wpAny (model X.prog X.w) X.A t R (blkE X s3 H3 scope ce fp fun cls d H' => W cls d σ H') s' →
      wpAny (model X.prog X.w) X.A t R (notedBy (model X.prog X.w) X.A ce fun e s' => compEnds (model X.prog X.w) X.A X.xe use Qf (.ref D) ce (.error e) s') s' := fun hw =>
    wpAny_mono hw (fun _ _ z => z) fun e s' hx => wpAny_mono (blk_fails tk hst hfm I3 (fun b hb => (f3 b hb).1) cL cF hx) (fun _ _ z => by cases use <;> exact z) fun _ _ z => by cases use <;> exact z
  have stat : ∀ {σ' : L2.St} {H' : Hp} {s' : Shared}, Inv (X.blk s3 H3 scope ce fp) [] σ' H' s' → (∀ b ∈ fp, H' b = none) → ∀ b ∈ fp, FpOk (X.blk s3 H3 scope ce fp) [] H' b := fun I' hn b hb =>
    ⟨hn b hb, (I'.ok.exf b hb).1, I'.ok.exfs b hb, .inl hb, (I'.ok.exf b hb).2, fun p hp => absurd (show p ∈ ([] : List (Addr × Obj)) ++ [] from hp) (by simp)⟩
  have loop : codeAny (model X.prog X.w) X.A (.compLoop (.ListComp elt [⟨tg, iter, ifs, 0⟩] scope pos) 0 (.ref it) (.ref D) ce) (compEnds (model X.prog X.w) X.A X.xe use Qf (.ref D) ce) s4 := by
    refine compLoop_any (fun n s' => ∃ i H', Inv (X.blk s3 H3 scope ce fp) [] (wipe σ (own.map (·.2))) H' s' ∧ tn i s'.heap ∧ (∀ b ∈ fp, H' b = none) ∧ W0 i n H') ?_ m0 ⟨0, H3, I4, st4, fun b hb => (f3 b hb).1.1, w0⟩
    rintro n s5 ⟨i, H5, I5, st5, n5, w5⟩
    rcases turn i n H5 w5 with ⟨stop, qq⟩ | ⟨go, Nx, hNx, step⟩
    · refine thnF (T.done (X.blk s3 H3 scope ce fp) rfl rfl rfl hc i [] s5 _ H5 (fun _ _ => False) I5 (stat I5 n5) st5 stop) fun r s6 ⟨hr, I6⟩ => ?_
      subst hr
      have I7 : Inv X pins σ H5 s6 := I3.call' (ch := fp) I6.os I6.base I6.hok I6.bare fun b hb => ⟨(f3 b hb).1.2.2.2.1, (f3 b hb).1.2.1, (f3 b hb).1.2.2.2.2.1, (f3 b hb).1.2.2.2.2.2⟩
      have nC : H5 ce.locals = none := I6.free
      obtain ⟨m, hn, _⟩ := I6.loc
      have hn : s6.heap.Ns ce.locals m := hn
      exact hRR D ce s6 m H5 I7 qq hn (I3.fpOk (Nat.le_of_eq cL.symm) nC)
    · refine thnF (T.item (X.blk s3 H3 scope ce fp) rfl rfl rfl hc i [] s5 _ H5 (fun _ _ => False) I5 (stat I5 n5) st5 go) fun r s6 ⟨u, hr, h6⟩ => ?_
      subst hr
      refine thnF h6 fun _ s7 ⟨x, H7, I7, r7, y7, st7, n7⟩ => ?_
      refine thnF (pg.run _ s7 _ H7 x u _ (I7.pinned (stat I7 n7) (T.obj _ _ st7)) r7 (step x H7 y7)) fun _ s8 ⟨σ8, H8, I8, hw8, q8⟩ => ?_
      refine thnF (pt.run _ s8 σ8 H8 _ I8 q8) fun b s9 ⟨H9, I9, q9⟩ => ?_
      have next : ∀ {s' : Shared} {H' : Hp}, Inv (X.blk s3 H3 scope ce fp) ([] ++ pinsAt fp s7.heap) σ8 H' s' → Nx H' → ∃ m, m < n ∧ ∃ i H', Inv (X.blk s3 H3 scope ce fp) [] (wipe σ (own.map (·.2))) H' s' ∧ tn i s'.heap ∧ (∀ b ∈ fp, H' b = none) ∧ W0 i m H' := fun {s' H'} I' nx => by
        obtain ⟨m', hm, w'⟩ := hNx H' nx
        have pin' : ∀ b ∈ fp, ∀ o, s7.heap.get? b = some o → s'.heap.get? b = some o ∧ H' b = none := fun b hb o e => by
          have z := I'.pin (b, o) (List.mem_append_right _ (List.mem_append_right _ (mem_pinsAt hb e)))
          exact ⟨z.1, z.2.1⟩
        have hl : (wipe σ (own.map (·.2))).length = σ8.length := by rw [← hw8, wipe_length]
        refine ⟨m', hm, i + 1, H', (I'.unpinned (pins := [])).weak hl (fun j v e => ?_), T.keep _ _ _ st7 fun b hb o e => (pin' b hb o e).1, fun b hb => ?_, w'⟩
        · rw [← hw8] at e
          exact (wipe_some e).1
        · obtain ⟨o, e, _⟩ := T.obj _ _ st7 b hb
          exact (pin' b hb o e).2
      cases b with
      | false =>
        simp only [Bool.false_eq_true, if_false] at q9 ⊢
        exact next I9 q9
      | true =>
        simp only [if_true] at q9 ⊢
        refine bad (thn (pe.run _ s9 σ8 H9 _ (I9.wish _) q9) fun z s10 ⟨yv, H10, I10, r10, acc, hD10, hz10, nx⟩ => ?_)
        exact app_ok (X := X.blk s3 H3 scope ce fp) I10.unwish hD10 hz10 r10 fun s11 I11 => next I11 nx
  exact codeAny_compStart_list loop (T.self X.A 0 _ _ _ st4 loop)
/-- as a value: the reading fixes the slots of the names -/
theorem pe_lcx {elt tg iter : Expr} {ifs : List Expr} {scope : Scope} {own : List (Str × Nat)} {pos : Pos} {wi : TI} {g : L2.TG} {tt : TT} {te : WX → TE} (tk : Takes X W) (hst : X.stack = X.env :: X.outer) (hfm : X.env.frame = some X.env.locals) (hc : X.calm = true) (hN : X.N.Nodup) (hi : PI X tg iter wi) (ok : BlkOk X.N X.env.scope scope own)
    (hg : ∀ (s : Shared) (H : Hp) (C : Addr) (cl : List (Str × Addr)) (fp : List Addr), PG (X.blk s H scope (compEnvC scope cl C X.env) fp) tg g) (ht : ∀ (s : Shared) (H : Hp) (C : Addr) (cl : List (Str × Addr)) (fp : List Addr), PTs (X.blk s H scope (compEnvC scope cl C X.env) fp) ifs tt)
    (he : ∀ (s : Shared) (H : Hp) (C : Addr) (cl : List (Str × Addr)) (fp : List Addr) (E : L2.XK), PE (blkX X s H scope (compEnvC scope cl C X.env) fp E) elt (te fun cls d _ H' => E cls d H')) (hs : ∀ x, foldedSetIterable iter X.env x = pure x := by intro _; rfl) :
    PE X (.ListComp elt [⟨tg, iter, ifs, 0⟩] scope pos) (fun σ H Q => tLc wi g tt (te fun cls d _ H' => W cls d σ H') (own.map (·.2)) σ H Q) := by
  refine ⟨fun pins s σ H Q I h => ?_⟩
  rw [eval_ListComp]
  refine lcx_core tk hst hfm hc hN I hi ok hg ht he hs h fun D ce s' m H' I' q hn ⟨f0, f1, _, f3, f4, f5⟩ => ⟨m, hn, fun h'' sb => ?_⟩
  exact ⟨.ref D, H', I'.turned (t' := s'.toks) (fun b o hb e => (sb.2 b hb).trans e) f0 f1 f3 f4 f5, rfl, q⟩
/-- name = [..] on one line -/
theorem ps_setLcx {i : Nat} {y : Str} {py : Pos} {elt tg iter : Expr} {ifs : List Expr} {scope : Scope} {own : List (Str × Nat)} {pos spos : Pos} {wi : TI} {g : L2.TG} {tt : TT} {te : WX → TE} (tk : Takes X W) (hst : X.stack = X.env :: X.outer) (hfm : X.env.frame = some X.env.locals) (hc : X.calm = true) (hN : X.N.Nodup)
    (hy : X.N[i]? = some y) (hyl : X.env.scope.names.lookup y = some .local) (hsw : swapsWith (.ListComp elt [⟨tg, iter, ifs, 0⟩] scope pos) (some (.Name y py)) spos.line X.env = pure true) (hi : PI X tg iter wi) (ok : BlkOk X.N X.env.scope scope own)
    (hg : ∀ (s : Shared) (H : Hp) (C : Addr) (cl : List (Str × Addr)) (fp : List Addr), PG (X.blk s H scope (compEnvC scope cl C X.env) fp) tg g) (ht : ∀ (s : Shared) (H : Hp) (C : Addr) (cl : List (Str × Addr)) (fp : List Addr), PTs (X.blk s H scope (compEnvC scope cl C X.env) fp) ifs tt)
    (he : ∀ (s : Shared) (H : Hp) (C : Addr) (cl : List (Str × Addr)) (fp : List Addr) (E : L2.XK), PE (blkX X s H scope (compEnvC scope cl C X.env) fp E) elt (te fun cls d _ H' => E cls d H')) (hs : ∀ x, foldedSetIterable iter X.env x = pure x := by intro _; rfl) :
    PS X (.Assign [.Name y py] (.ListComp elt [⟨tg, iter, ifs, 0⟩] scope pos) spos) (tAsg (fun σ H Q => tLc wi g tt (te fun cls d _ H' => W cls d σ H') (own.map (·.2)) σ H Q) (gName i)) := by
  refine ⟨fun pins s σ H D I h => ?_⟩
  rw [exec_Assign_Name_used _ _ _ _ hsw]
  refine wpAny_bind (wpAny_standAt (wpAny_bind ?_))
  show wpAny _ X.A (do let _ ← comprehension (.ListComp elt [⟨tg, iter, ifs, 0⟩] scope pos) scope X.env (firstIterPos [⟨tg, iter, ifs, 0⟩] pos) (newList []) false (eval iter X.env) (some (assign (.Name y py) X.env))) _ _ s
  have h : tLc wi g tt (te fun cls d _ H' => W cls d σ H') (own.map (·.2)) σ H (fun x H1 => gName i x σ H1 D.nx) := h
  refine wpAny_bind (thn (lcx_core (Qf := fun _ s' => SP X pins D .next s') tk hst hfm hc hN I hi ok hg ht he hs h fun L ce s' m H' I' q hn f => ?_) fun _ s' hq => wpAny_pure (wpAny_pure hq))
  show wpAny _ _ (assign (.Name y py) X.env (.ref L)) _ _ _
  obtain ⟨f0, f1, f2, f3, f4, f5⟩ := f
  refine wpAny_assign_Name (store_ok2 (v := V.ref L) I' hN hy (.inl hyl) rfl (fun s2 I2 ⟨a, sb, ha⟩ => ?_) (.inr hyl))
  have haC : ce.locals ≠ a := ha.elim (fun z => by rw [z]; exact f1) fun z e => f4 y a z e.symm
  exact ⟨m, hn.sameBut sb haC, fun h3 sb3 => ⟨_, H', I2.turned (t' := s2.toks) (fun b o hb e => (sb3.2 b hb).trans e) f0 f1 f3 f4 f5, q⟩⟩
end

/-! ### as a rule -/
abbrev vLcX (it : VI) (tg : VG) (ts : VT) (el : VE) (vs : List Nat) : VE := fun G m k x => it G m (fun us => ∃ I : Nat → List Tr → Prop, I 0 [] ∧
  (∀ (i : Nat) t acc, us[i]? = some t → I i acc → tg t (wipeG G vs) (fun G2 => ts G2 m (fun b => (b = true → el G2 m (fun d => ∃ y, d = .t y ∧ acc.length < sizeLine ∧ I (i + 1) (acc ++ [y])) x) ∧ (b = false → I (i + 1) acc)) noX)) ∧
  ∀ acc, I us.length acc → k (.t (.lst acc))) x
theorem lc_ofX {W : WX} {Z : Rsc} {W' : WX} {K : PySem.W.Frag} {mg : Str → Option Value} {it : VI} {tg : VG} {ts : VT} {el : VE} {vs : List Nat} : ∀ σ H Q, LE K mg Z W (vLcX it tg ts el vs) σ H Q →
    tLc (LI K mg Z W it) (LG K mg Z (some vs) tg) (LT K mg Z W' ts) (LE K mg Z (fun cls d _ H' => W cls d σ H') el) vs σ H Q :=
  fun σ H Q ⟨P, R, as, G, m, k, x, r, h, n⟩ => ⟨P, R, as, G, m, _, x, r, h, fun us J R1 H1 ⟨I, h0, hs, hd⟩ n1 r1 ok D hD => by
    have okP := ok (P.at R1) rfl rfl rfl rfl
    have b1 := r1.base
    have hR := b1.newR hD
    have hB := b1.newB hD
    have h0D : (P.at R1).H0 D = none := b1.new0 hD
    have hA : ∀ (j : Nat) x, m[j]? = some (some x) → as[j]? ≠ some D := fun j x e => b1.newA hD e
    have W0 : Rel K mg Z (P.at R1) R1 as G m σ (upd H1 D (.lst [])) := b1.poke hR hB h0D hA
    refine ⟨fun i q H' => q = us.length - i ∧ i ≤ us.length ∧ ∃ R' acc xs, Rel K mg Z (P.at R1) R' as G m σ H' ∧ R' D = none ∧ H' D = some (.lst xs) ∧ Reps K mg R' xs acc ∧ I i acc ∧ Nx P R1 H1 R' H', ⟨us.length, by simp, Nat.zero_le _, R1, [], [], W0, hR, upd_same, .nil, h0, ⟨Same.refl _, fun a o ha e => by rw [upd_ne (ne_of_none e hD)]; exact e, fun a e => .inl e, fun a e => by
        by_cases hb : a = D
        · subst hb; rw [upd_same]; simp
        · rw [upd_ne hb]; exact e⟩⟩, ?_⟩
    rintro i q H' ⟨rfl, hi, R', acc, xs, r', hR', hx, rx, hI, nn⟩
    obtain ⟨ok1, ok2⟩ := okP R' as G m σ H' r' r'.r0
    by_cases hlt : i < us.length
    · have ht : us[i]? = some us[i] := List.getElem?_eq_getElem hlt
      obtain ⟨hgo, hy⟩ := ok1 i _ ht
      refine .inr ⟨hgo, fun H2 => i + 1 ≤ us.length ∧ ∃ R2 acc2 xs2, Rel K mg Z (P.at R1) R2 as G m σ H2 ∧ R2 D = none ∧ H2 D = some (.lst xs2) ∧ Reps K mg R2 xs2 acc2 ∧ I (i + 1) acc2 ∧ Nx P R1 H1 R2 H2, fun H2 ⟨a, b⟩ => ⟨us.length - (i + 1), by omega, rfl, a, b⟩, fun v H2 hv => ?_⟩
      obtain ⟨R2, s2, n2, r2, rv⟩ := hy v H2 hv
      refine ⟨P.at R1, R2, as, _, m, _, _, r2.wipe vs, rv, hs i _ acc ht hI, fun G3 σ3 h3 s3 r3 => ⟨Eq.trans s3 (wipe_wipe σ vs), ?_⟩⟩
      have clear : ∀ {Ra Ha Rb Hb : Hp}, Nx (P.at R1) Ra Ha Rb Hb → Ra D = none → Ha D = some (.lst xs) → Rb D = none ∧ Hb D = some (.lst xs) := fun {Ra Ha Rb Hb} n0 h1 h2 => by
        refine ⟨?_, n0.h D _ hB h2⟩
        cases q : Rb D with
        | none => rfl
        | some u =>
          rcases n0.n D (by rw [q]; simp) with z | z
          · exact absurd h1 z
          · rw [h2] at z; cases z
      have n2' : Nx (P.at R1) R' H' R2 H2 := ⟨n2.r, n2.h, n2.n, n2.d⟩
      obtain ⟨c1, c2⟩ := clear n2' hR' hx
      refine LT.go r3 h3 (fun b R4 H4 ⟨hb1, hb2⟩ n4 r4 => ?_) fun nm cl R4 H4 z => z.elim
      obtain ⟨c3, c4⟩ := clear n4 c1 c2
      have nn4 : Nx P R1 H1 R4 H4 := (nn.trans ⟨n2'.r, n2'.h, n2'.n, n2'.d⟩).trans ⟨n4.r, n4.h, n4.n, n4.d⟩
      cases b with
      | false =>
        rw [if_neg Bool.false_ne_true]
        exact ⟨hlt, R4, acc, xs, r4.names r' (s2.trans n4.r), c3, c4, Reps.mono (s2.trans n4.r) rx, hb2 rfl, nn4⟩
      | true =>
        rw [if_pos rfl]
        refine LE.go r4 (hb1 rfl) (fun d w R5 H5 ⟨y, ey, hz, hI5⟩ n5 r5 d5 => ?_) fun nm cl R5 H5 hx hm n5 r5 => ?_
        · subst ey
          obtain ⟨c5, c6⟩ := clear n5 c3 c4
          have s5 : Same R' R5 := (s2.trans n4.r).trans n5.r
          have nn5 : Nx P R1 H1 R5 H5 := nn4.trans ⟨n5.r, n5.h, n5.n, n5.d⟩
          cases d5 with
          | t rw' =>
            refine ⟨xs, c6, by rw [Paired.length rx]; exact hz, hlt, R5, acc ++ [y], xs ++ [w], (r5.names r' s5).poke c5 hB h0D hA, c5, upd_same, paired_append (Reps.mono s5 rx) (.cons rw' .nil), hI5, nn5.r, fun a o ha e => ?_, nn5.n, fun a e => ?_⟩
            · have ha' : a ≠ D := fun z => by rw [z, hD] at e; cases e
              rw [upd_ne ha']
              exact nn5.h a o ha e
            · by_cases hb : a = D
              · subst hb; rw [upd_same]; simp
              · rw [upd_ne hb]; exact nn5.d a e
        · have s5 : Same R' R5 := (s2.trans n4.r).trans n5.r
          have nn5 : Nx P R1 H1 R5 H5 := nn4.trans ⟨n5.r, n5.h, n5.n, n5.d⟩
          exact n.er nm cl R5 H5 hx hm (n1.trans nn5) (r1.unbase (r5.names r' s5))
    · have e : i = us.length := by omega
      subst e
      obtain ⟨sr, rk⟩ := r'.know hx hR' hB h0D hA
      have nf : Nx P R1 H1 (upd R' D (.lst xs)) H' := ⟨nn.r.trans sr, nn.h, fun a e => by
        by_cases hb : a = D
        · subst hb; exact .inr hD
        · rw [upd_ne hb] at e; exact nn.n a e, nn.d⟩
      exact .inl ⟨ok2, n.ok (.t (.lst acc)) (.ref D) _ _ (hd acc hI) (n1.trans nf) (r1.unbase rk) (.t (.lstP upd_same (Reps.mono sr rx)))⟩, n.er⟩

section
variable {X : Cx} {Z : Rsc} {W W' : WX} {e tg iter elt c : Expr} {ifs : List Expr} {vi : VI} {vg : VG} {vt : VT} {ve : VE} {pos spos : Pos}
theorem v_lcx {scope : Scope} {own : List (Str × Nat)} (tk : Takes X W) (hst : X.stack = X.env :: X.outer) (hfm : X.env.frame = some X.env.locals) (hc : X.calm = true) (hN : X.N.Nodup) (hi : PI X tg iter (LI X.K X.mg Z W vi)) (ok : BlkOk X.N X.env.scope scope own)
    (hg : ∀ (s : Shared) (H : Hp) (C : Addr) (cl : List (Str × Addr)) (fp : List Addr), PG (X.blk s H scope (compEnvC scope cl C X.env) fp) tg (LG X.K X.mg Z (some (own.map (·.2))) vg))
    (ht : ∀ (s : Shared) (H : Hp) (C : Addr) (cl : List (Str × Addr)) (fp : List Addr), PTs (X.blk s H scope (compEnvC scope cl C X.env) fp) ifs (LT X.K X.mg Z W' vt))
    (he : ∀ (s : Shared) (H : Hp) (C : Addr) (cl : List (Str × Addr)) (fp : List Addr) (E : L2.XK), (∀ σ', PassesAt (L2.CX X.prog X.w) (blkX X s H scope (compEnvC scope cl C X.env) fp E) σ' (WE (fun cls d _ H' => E cls d H') σ')) →
      PE (blkX X s H scope (compEnvC scope cl C X.env) fp E) elt (LE X.K X.mg Z (fun cls d _ H' => E cls d H') ve)) (hs : ∀ x, foldedSetIterable iter X.env x = pure x := by intro _; rfl) :
    PE X (.ListComp elt [⟨tg, iter, ifs, 0⟩] scope pos) (LE X.K X.mg Z W (vLcX vi vg vt ve (own.map (·.2)))) :=
  PE.imp (pe_lcx (te := fun W1 => LE X.K X.mg Z W1 ve) tk hst hfm hc hN hi ok hg ht (fun s H C cl fp E => he s H C cl fp E blk_pass) hs) lc_ofX
theorem vs_setLcx {i : Nat} {y : Str} {py : Pos} {scope : Scope} {own : List (Str × Nat)} (tk : Takes X W) (hst : X.stack = X.env :: X.outer) (hfm : X.env.frame = some X.env.locals) (hc : X.calm = true) (hN : X.N.Nodup) (hy : X.N[i]? = some y) (hyl : X.env.scope.names.lookup y = some .local)
    (hsw : swapsWith (.ListComp elt [⟨tg, iter, ifs, 0⟩] scope pos) (some (.Name y py)) spos.line X.env = pure true) (hi : PI X tg iter (LI X.K X.mg Z W vi)) (ok : BlkOk X.N X.env.scope scope own)
    (hg : ∀ (s : Shared) (H : Hp) (C : Addr) (cl : List (Str × Addr)) (fp : List Addr), PG (X.blk s H scope (compEnvC scope cl C X.env) fp) tg (LG X.K X.mg Z (some (own.map (·.2))) vg))
    (ht : ∀ (s : Shared) (H : Hp) (C : Addr) (cl : List (Str × Addr)) (fp : List Addr), PTs (X.blk s H scope (compEnvC scope cl C X.env) fp) ifs (LT X.K X.mg Z W' vt))
    (he : ∀ (s : Shared) (H : Hp) (C : Addr) (cl : List (Str × Addr)) (fp : List Addr) (E : L2.XK), (∀ σ', PassesAt (L2.CX X.prog X.w) (blkX X s H scope (compEnvC scope cl C X.env) fp E) σ' (WE (fun cls d _ H' => E cls d H') σ')) →
      PE (blkX X s H scope (compEnvC scope cl C X.env) fp E) elt (LE X.K X.mg Z (fun cls d _ H' => E cls d H') ve)) (hs : ∀ x, foldedSetIterable iter X.env x = pure x := by intro _; rfl) :
    PS X (.Assign [.Name y py] (.ListComp elt [⟨tg, iter, ifs, 0⟩] scope pos) spos) (LS X.K X.mg Z W (vSet i (vLcX vi vg vt ve (own.map (·.2))))) :=
  PS.imp (ps_setLcx (te := fun W1 => LE X.K X.mg Z W1 ve) tk hst hfm hc hN hy hyl hsw hi ok hg ht (fun s H C cl fp E => he s H C cl fp E blk_pass) hs) fun D σ H ⟨P, R, as, G, m, nx, rt, bk, ct, ex, r, h, k⟩ => by
    have key := lc_ofX (W := W) (Z := Z) (W' := W') (K := X.K) (mg := X.mg) (it := vi) (tg := vg) (ts := vt) (el := ve) (vs := own.map (·.2)) σ H (fun x H1 => gName i x σ H1 D.nx)
    exact key (LE.go r h (fun d v R1 H1 h1 n1 r1 d1 => k.nx _ m R1 as _ H1 h1 (r1.set d1)) k.er)
end
end VL

/-! VL, part MX: more of texts. -/
namespace VL
open PySem L2
section
variable {X : Cx} {Z : Rsc} {W : WX} {o e : Expr} {vo ve : VE} {pos apos : Pos}
/-- x.strip(signs) -/
abbrev vStrip (o e : VE) : VE := fun G m k x => o G m (fun d => (∃ a, view m d = some (.str a)) ∧ e G m (fun y => ∃ a b, view m d = some (.str a) ∧ view m y = some (.str b) ∧ a.length ≤ sizeLine ∧ k (.t (.str (Txt.stripChars a b)))) x) x
theorem v_strip (ho : PE X o (LE X.K X.mg Z W vo)) (he : PE X e (LE X.K X.mg Z W ve)) (hs : starEach [e] X.env = [(false, eval e X.env)] := by rfl) (hbase : attributeBase o "strip" X.env (eval o X.env) = eval o X.env := by rfl) (hline : (apos.endLine == pos.line) = true := by rfl) :
    PE X (.Call (.Attribute o "strip" apos) [e] [] pos) (LE X.K X.mg Z W (vStrip vo ve)) :=
  PE.imp (pe_m1 PySem.F.slot_str_strip PySem.F.type_str_strip mt_stripChars ho he hs hbase hline) fun σ H Q ⟨P, R, as, G, m, k, x, r, h, n⟩ => LE.go r h (fun d v R1 H1 ⟨⟨a, ea⟩, h1⟩ n1 r1 d1 =>
    ⟨⟨a, r1.vStr d1 ea⟩, LE.go r1 h1 (fun y w R2 H2 ⟨a, b, e1, e2, hz, h2⟩ n2 r2 d2 =>
      ⟨a, b, r2.vStr (d1.mono n2.r) e1, by rw [r2.vStr d2 e2], hz, n.ok _ _ R2 H2 h2 (n1.trans n2) r2 (.t (.str _))⟩) fun nm cl R' H' a b c d => n.er nm cl R' H' a b (n1.trans c) d⟩) n.er
end
section
variable {m : Sto} {k : DK} {d e : Dv} {a b : Str}
theorem st_strip {A : Str → Str → Prop} (h : view m d = some (.str a)) (h2 : view m e = some (.str b)) (h3 : a.length ≤ sizeLine) (q : A a b) : ∃ a b, view m d = some (.str a) ∧ view m e = some (.str b) ∧ a.length ≤ sizeLine ∧ A a b := ⟨a, b, h, h2, h3, q⟩
end
end VL

/-! VL, part MY: indices and comparisons in an except suite (there only the units are known of the room). -/
namespace VL
open PySem L2
section
variable {X : Cx} {Z : Rsc} {W : WX} {a b : Expr} {ea eb : VE} {pos : Pos}
theorem hu1 {n : Nat} (hu : n + 64 < cLine) : n + 1 < cLine := Nat.lt_of_le_of_lt (Nat.add_le_add_left (by decide : 1 ≤ 64) _) hu
theorem v_idxU (hu : X.A.units + 64 < cLine) (ha : PE X a (LE X.K X.mg Z W ea)) (hb : PE X b (LE X.K X.mg Z W eb)) (hs : PlainIx b := by exact fun _ _ => rfl) : PE X (.Subscript a b pos) (LE X.K X.mg Z W (vOp fIdx ea eb)) :=
  v_ix (IxR.or (IxR.or ix_tup ix_list) (IxR.or (IxR.or ix_list ix_list) (IxR.or ix_tup (IxR.or ix_str (ix_dict (hu1 hu)))))) ((lo_ixDT.or lo_ixDL).or ((lo_ixL.or lo_ixR).or (lo_ixT.or (lo_ixS.or lo_dget)))) ha hb hs
theorem v_eqU (hu : X.A.units + 64 < cLine) (ha : PE X a (LE X.K X.mg Z W ea)) (hb : PE X b (LE X.K X.mg Z W eb)) : PE X (.Compare a [.Eq] [b] pos) (LE X.K X.mg Z W (vOp fEqD ea eb)) := v_cmp (op_eqD hu) lo_eqD ha hb (nomark _)
theorem v_neU (hu : X.A.units + 64 < cLine) (ha : PE X a (LE X.K X.mg Z W ea)) (hb : PE X b (LE X.K X.mg Z W eb)) : PE X (.Compare a [.NotEq] [b] pos) (LE X.K X.mg Z W (vOp fNeD ea eb)) := v_cmp (op_neD hu) lo_neD ha hb (nomark _)
theorem vt_eqU (hu : X.A.units + 64 < cLine) (ha : PE X a (LE X.K X.mg Z W ea)) (hb : PE X b (LE X.K X.mg Z W eb)) : PT X (.Compare a [.Eq] [b] pos) (LT X.K X.mg Z W (vtB (vOp fEqD ea eb))) := vt_cmp (op_eqD hu) lo_eqD ha hb (nomark _)
theorem vt_neU (hu : X.A.units + 64 < cLine) (ha : PE X a (LE X.K X.mg Z W ea)) (hb : PE X b (LE X.K X.mg Z W eb)) : PT X (.Compare a [.NotEq] [b] pos) (LT X.K X.mg Z W (vtB (vOp fNeD ea eb))) := vt_cmp (op_neD hu) lo_neD ha hb (nomark _)
end
end VL

namespace LK
open PySem L2 VL
abbrev N_is_whole : List Str := ["thing"]
abbrev N_is_weight : List Str := ["thing"]
abbrev N_are_parts : List Str := ["thing", "one"]
abbrev N_is_frame : List Str := ["thing", "base", "parts", "weights", "one"]
abbrev N_show_frame : List Str := ["frame", "parts", "part", "weight"]
abbrev N_read_word : List Str := ["word", "figures", "sign"]
abbrev N_read_frame : List Str := ["text", "three", "base", "parts", "weights", "word"]
abbrev N_law_cell : List Str := ["script", "k"]
abbrev N_law_mixed : List Str := ["cell", "k", "number", "some"]
abbrev N_law_frame : List Str := ["cell", "most", "base", "parts", "kind", "weights", "k", "one"]
abbrev N_law_written : List Str := ["frame", "parts", "part", "weight"]
abbrev N_law_number : List Str := ["word", "figures"]
abbrev N_law_writes : List Str := ["text", "three", "base", "parts", "weights", "word"]
abbrev N_law_odd : List Str := ["cell", "some"]
abbrev N_law_given : List Str := ["cell", "kind", "text", "signs", "at", "sign"]
abbrev N_law_asked : List Str := ["ask", "thing", "found", "e", "kinds", "others"]
abbrev N_law_bad : List Str := ["frame", "cell", "base", "parts", "weights", "some", "at", "thing"]
abbrev N_law : List Str := ["script", "k", "cell", "text", "found", "bad", "kept", "odd"]
abbrev xnames : List Str := ["NoFrame", "NoText"]
abbrev xclasses : List Str := ["NoEven", "NoFrame", "NoFrames", "NoMiss", "NoName", "NoNumber", "NoPart", "NoRow", "NoSum", "NoText"]
local macro_rules | `(tactic| walk_at "vl side") => `(tactic| first | assumption | omega | rfl | (simp only [List.length_cons, List.length_nil, List.length_map]; omega) | decide | exact sz (Nat.le_of_ble_eq_true rfl))
local macro_rules | `(tactic| walk_at "vl call") => `(tactic| (exact absurd rfl rfl))
local macro_rules | `(tactic| walk_at "vl more") => `(tactic| (exact absurd rfl rfl))
local macro_rules | `(tactic| walk_at "vl op") => `(tactic| first
  | ((with_reducible apply sp_ixL); rfl; rfl; rfl) | ((with_reducible apply sp_ixT); rfl; rfl; rfl) | ((with_reducible apply sp_ixI); rfl; rfl) | ((with_reducible apply sp_ixR); rfl; rfl)
  | ((with_reducible apply sp_add); rfl; rfl) | ((with_reducible apply sp_addI); rfl; rfl) | ((with_reducible apply sp_addI1); rfl; rfl) | ((with_reducible apply sp_addI2); rfl; rfl) | ((with_reducible apply sp_addL); rfl; rfl) | ((with_reducible apply sp_sub); rfl; rfl)
  | ((with_reducible apply sp_mul); rfl; rfl) | ((with_reducible apply sp_mod); rfl; rfl) | ((with_reducible apply sp_divW); rfl; rfl) | ((with_reducible apply sp_pow); rfl; rfl)
  | ((with_reducible apply sp_lt); rfl; rfl) | ((with_reducible apply sp_le); rfl; rfl) | ((with_reducible apply sp_gt); rfl; rfl) | ((with_reducible apply sp_ge); rfl; rfl)
  | ((with_reducible apply sp_eqI); rfl; rfl) | ((with_reducible apply sp_neI); rfl; rfl) | ((with_reducible apply sp_eqB); rfl; rfl) | ((with_reducible apply sp_neB); rfl; rfl)
  | ((with_reducible apply sp_eqL); rfl; rfl) | ((with_reducible apply sp_neL); rfl; rfl) | ((with_reducible apply sp_eqNil); rfl; rfl) | ((with_reducible apply sp_isN); rfl; rfl) | ((with_reducible apply sp_isnN); rfl; rfl) | ((with_reducible apply sp_isB); rfl; rfl) | ((with_reducible apply sp_isnB); rfl; rfl)
  | ((with_reducible apply sp_ixM); rfl; rfl) | ((with_reducible apply sp_rep1); rfl; rfl) | ((with_reducible apply sp_rep); rfl; rfl) | ((with_reducible apply sp_slI); rfl) | ((with_reducible apply sp_slL); rfl) | ((with_reducible apply sp_slR); rfl))
local macro_rules | `(tactic| walk_at "vl built") => `(tactic| first
  | ((with_reducible apply sp_isiT); rfl; rfl; rfl) | ((with_reducible apply sp_isiF); rfl; rfl; rfl) | ((with_reducible apply sp_lenL); rfl) | ((with_reducible apply sp_lenT); rfl) | ((with_reducible apply sp_lenR); rfl) | ((with_reducible apply sp_abs); rfl) | ((with_reducible apply sp_max2); rfl; rfl) | ((with_reducible apply sp_min2); rfl; rfl)
  | ((with_reducible apply sp_maxL); rfl) | ((with_reducible apply sp_minL); rfl) | ((with_reducible apply sp_sum); rfl) | ((with_reducible apply sp_int); rfl) | ((with_reducible apply sp_intB); rfl) | ((with_reducible apply sp_list); rfl) | ((with_reducible apply sp_listT); rfl)
  | ((with_reducible apply sp_tuple); rfl) | ((with_reducible apply sp_strI); rfl))
local macro_rules | `(tactic| walk_at "vl leaf") => `(tactic| first
  | with_reducible apply br_t | with_reducible apply br_f | with_reducible apply br_n | ((with_reducible apply br_dt); walk_at "vl side") | ((with_reducible apply br_df); walk_at "vl side")
  | with_reducible apply st_tt | ((with_reducible apply st_rA); rfl) | ((with_reducible apply st_rB); rfl; rfl) | ((with_reducible apply st_bl); rfl) | ((with_reducible apply st_in); rfl) | ((with_reducible apply st_ls); rfl) | (refine st_callS' rfl ?_) | (refine st_callB' rfl ?_)
  | with_reducible apply st_de | ((with_reducible apply st_app3); rfl)
  | (refine st_newL' rfl (sz (Nat.le_of_ble_eq_true rfl)) (Nat.le_of_ble_eq_true rfl) rfl ?_) | (refine st_unT rfl (sz (Nat.le_of_ble_eq_true rfl)) ?_)
  | ((with_reducible apply st_newC); rfl; exact Nat.le_of_ble_eq_true rfl; rfl) | with_reducible apply st_iL1 | with_reducible apply st_iL2 | with_reducible apply st_zA | ((with_reducible apply st_sv); rfl)
  | ((with_reducible apply st_gTup); rfl) | with_reducible apply st_gCons | with_reducible apply st_gNil | ((with_reducible apply st_frz); rfl) | ((with_reducible apply st_aug); rfl) | ((with_reducible apply st_I0); rfl; rfl) | ((with_reducible apply st_setIL); rfl; rfl; rfl))
local macro_rules | `(tactic| walk_at "vl step") => `(tactic| first | ((with_reducible apply st_var); rfl) | walk_at "vl leaf" | walk_at "vl op" | walk_at "vl built" | walk_at "vl call" | walk_at "vl more")
local macro_rules | `(tactic| walk_at "vl") => `(tactic| (repeat (first | with_reducible apply st_seq | walk_at "vl step")))
local macro_rules | `(tactic| walk_at "vl1") => `(tactic| (repeat (walk_at "vl step")))
local macro_rules | `(tactic| walk_at "vl fin") => `(tactic| first | omega | assumption | exact cdw (by omega) (by omega) | exact .inl (.inr ⟨by omega, by omega⟩) | exact .inl (.inl ⟨by omega, by omega⟩) | decide)
/-! ### frames -/
abbrev frT (b : Int) (ps ws : List Int) : Tr := .tup [.int b, .lst (ps.map .int), .lst (ws.map .int)]
structure OkF (b : Int) (ps ws : List Int) : Prop where
  b1 : 2 ≤ b
  b2 : b ≤ 16
  p1 : 2 ≤ ps.length
  p2 : ps.length ≤ 4
  p3 : ∀ p ∈ ps, 1 ≤ p ∧ p ≤ 6
  w1 : (ws.length : Int) = ps.sum
  w2 : ∀ w ∈ ws, -9 ≤ w ∧ w ≤ 9
theorem sum_bounds {lo hi : Int} : ∀ {ps : List Int}, (∀ p ∈ ps, lo ≤ p ∧ p ≤ hi) → lo * ps.length ≤ ps.sum ∧ ps.sum ≤ hi * ps.length
  | [], _ => by simp
  | p :: ps, h => by
    have h1 := h p List.mem_cons_self
    have h2 := sum_bounds (ps := ps) fun q hq => h q (List.mem_cons_of_mem _ hq)
    rw [List.sum_cons, List.length_cons]
    have e1 : lo * ((ps.length + 1 : Nat) : Int) = lo * ps.length + lo := by push_cast; rw [Int.mul_add, Int.mul_one]
    have e2 : hi * ((ps.length + 1 : Nat) : Int) = hi * ps.length + hi := by push_cast; rw [Int.mul_add, Int.mul_one]
    rw [e1, e2]
    omega
theorem OkF.sum {b : Int} {ps ws : List Int} (h : OkF b ps ws) : 2 ≤ ps.sum ∧ ps.sum ≤ 24 := by
  have q := sum_bounds h.p3
  have := h.p1
  have := h.p2
  omega
theorem cmr {i j : Int} (h1 : -(2 ^ 64) < j) (h2 : j < 2 ^ 64) : CM i j := .inl (.inr ⟨h1, h2⟩)
theorem cml {i j : Int} (h1 : -(2 ^ 64) < i) (h2 : i < 2 ^ 64) : CM i j := .inl (.inl ⟨h1, h2⟩)
theorem mem_at {α : Type} {xs : List α} {i : Nat} {t : α} (h : xs[i]? = some t) : t ∈ xs := by
  obtain ⟨hl, e⟩ := List.getElem?_eq_some_iff.mp h
  rw [← e]; exact List.getElem_mem hl
theorem int_at {xs : List Int} {i : Nat} {t : Tr} (h : (xs.map Tr.int)[i]? = some t) : ∃ n, t = .int n ∧ xs[i]? = some n := by
  rw [List.getElem?_map] at h
  cases e : xs[i]? with
  | none => rw [e] at h; cases h
  | some n => rw [e] at h; cases h; exact ⟨n, rfl, rfl⟩
/-- a body's reading meets its promise -/
abbrev Meets (n : Nat) (N : List Str) (S : VSp) (u : VS) (nst : Nat) : Prop := ∀ (ds : List Dv) (k : Tr → Prop) (x : VL.XK), ds.length = n → S ds k x → u (fun _ _ => k .non) (fun d _ => ∃ y, d = .t y ∧ k y) (fun _ _ => False) (fun _ _ => False) (fun _ _ _ => False) (startG N ds) (blank nst)
abbrev MeetsX (n : Nat) (N : List Str) (S : VSp) (u : VS) (nst : Nat) : Prop := ∀ (ds : List Dv) (k : Tr → Prop) (x : VL.XK), ds.length = n → S ds k x → u (fun _ _ => k .non) (fun d _ => ∃ y, d = .t y ∧ k y) (fun _ _ => False) (fun _ _ => False) (fun n _ _ => x n) (startG N ds) (blank nst)
local macro_rules | `(tactic| walk_at "vl more") => `(tactic| first
  | with_reducible apply st_raise | with_reducible apply st_try | ((with_reducible apply st_caught); exact rfl)
  | ((with_reducible apply sp_isX); rfl; (first | rfl | assumption); rfl) | ((with_reducible apply sp_isV); rfl; (first | rfl | assumption)) | ((with_reducible apply sp_isXT); rfl; rfl; rfl; (first | rfl | assumption); rfl))
local macro_rules | `(tactic| walk_at "vl more") => `(tactic| first
  | ((with_reducible apply sp_eqN); rfl; rfl) | ((with_reducible apply sp_neN); rfl; rfl) | ((with_reducible apply sp_repr); rfl))
/-! ### data of any kind -/
mutual
def dt : Tr → Bool
  | .non => true | .bl _ => true | .int _ => true | .str _ => true | .dic _ => true
  | .lst xs => dts xs
  | .tup xs => dts xs
  | _ => false
def dts : List Tr → Bool
  | [] => true
  | x :: xs => dt x && dts xs
end
theorem dts_iff : ∀ {xs : List Tr}, dts xs = true ↔ ∀ x ∈ xs, dt x = true
  | [] => by simp [dts]
  | x :: xs => by
    rw [dts, Bool.and_eq_true, dts_iff]
    simp
theorem dts_ints (ns : List Int) : dts (ns.map Tr.int) = true := dts_iff.mpr fun x hx => by
  obtain ⟨n, _, rfl⟩ := List.mem_map.mp hx
  simp [dt]
theorem dt_ints (ns : List Int) : dt (.lst (ns.map Tr.int)) = true := by rw [dt]; exact dts_ints ns
theorem dt_fr (b : Int) (ps ws : List Int) : dt (frT b ps ws) = true := by simp [dt, dts, dts_ints]
def isI : Tr → Bool
  | .int _ => true
  | _ => false
def isW : Tr → Bool
  | .int i => decide (-9 ≤ i ∧ i ≤ 9)
  | _ => false
def isP : Tr → Bool
  | .int i => decide (1 ≤ i ∧ i ≤ 6)
  | _ => false
theorem isI_some {t : Tr} (h : isI t = true) : ∃ i, t = .int i := by
  cases t with
  | int i => exact ⟨i, rfl⟩
  | _ => cases h
theorem isW_no {t : Tr} (h : isI t = false) : isW t = false := by
  cases t with
  | int i => cases h
  | _ => rfl
theorem isP_no {t : Tr} (h : isI t = false) : isP t = false := by
  cases t with
  | int i => cases h
  | _ => rfl
def areP : Tr → Bool
  | .lst ts => decide (2 ≤ ts.length ∧ ts.length ≤ 4) && ts.all isP
  | _ => false
def sumT : Tr → Int
  | .lst ts => ((intsOf ts).getD []).sum
  | _ => 0
def isF : Tr → Bool
  | .tup [.int b, p, .lst ws] => decide (2 ≤ b ∧ b ≤ 16) && (areP p && (decide ((ws.length : Int) = sumT p) && ws.all isW))
  | _ => false
theorem all_P : ∀ {ts : List Tr}, ts.all isP = true → ∃ ps : List Int, ts = ps.map .int ∧ ∀ p ∈ ps, 1 ≤ p ∧ p ≤ 6
  | [], _ => ⟨[], rfl, by simp⟩
  | t :: ts, h => by
    rw [List.all_cons, Bool.and_eq_true] at h
    obtain ⟨ps, rfl, hp⟩ := all_P h.2
    cases t with
    | int i => exact ⟨i :: ps, rfl, by
        intro p hm
        rcases List.mem_cons.mp hm with rfl | hm
        · exact of_decide_eq_true h.1
        · exact hp p hm⟩
    | _ => exact absurd h.1 (by simp [isP])
theorem all_W : ∀ {ts : List Tr}, ts.all isW = true → ∃ ps : List Int, ts = ps.map .int ∧ ∀ p ∈ ps, -9 ≤ p ∧ p ≤ 9
  | [], _ => ⟨[], rfl, by simp⟩
  | t :: ts, h => by
    rw [List.all_cons, Bool.and_eq_true] at h
    obtain ⟨ps, rfl, hp⟩ := all_W h.2
    cases t with
    | int i => exact ⟨i :: ps, rfl, by
        intro p hm
        rcases List.mem_cons.mp hm with rfl | hm
        · exact of_decide_eq_true h.1
        · exact hp p hm⟩
    | _ => exact absurd h.1 (by simp [isW])
theorem areP_some {t : Tr} (h : areP t = true) : ∃ ps : List Int, t = .lst (ps.map .int) ∧ 2 ≤ ps.length ∧ ps.length ≤ 4 ∧ ∀ p ∈ ps, 1 ≤ p ∧ p ≤ 6 := by
  cases t with
  | lst ts =>
    unfold areP at h
    rw [Bool.and_eq_true] at h
    obtain ⟨ps, rfl, hp⟩ := all_P h.2
    have := of_decide_eq_true h.1
    rw [List.length_map] at this
    exact ⟨ps, rfl, this.1, this.2, hp⟩
  | _ => exact absurd h (by simp [areP])
theorem sumT_ints (ps : List Int) : sumT (.lst (ps.map .int)) = ps.sum := by show ((intsOf (ps.map Tr.int)).getD []).sum = _; rw [intsOf_map]; rfl
theorem isF_some {t : Tr} (h : isF t = true) : ∃ b ps ws, t = frT b ps ws ∧ OkF b ps ws := by
  unfold isF at h
  split at h
  · rename_i b p ws
    simp only [Bool.and_eq_true, decide_eq_true_eq] at h
    obtain ⟨⟨h1, h2⟩, h3, h4, h5⟩ := h
    obtain ⟨ps, rfl, q1, q2, q3⟩ := areP_some h3
    obtain ⟨vs, rfl, w⟩ := all_W h5
    rw [List.length_map, sumT_ints] at h4
    exact ⟨b, ps, vs, rfl, h1, h2, q1, q2, q3, h4, w⟩
  · cases h
theorem isF_len {ts : List Tr} (h : ts.length ≠ 3) : isF (.tup ts) = false := by
  match ts, h with
  | [], _ => rfl
  | [_], _ => rw [isF]; simp
  | [_, _], _ => rw [isF]; simp
  | _ :: _ :: _ :: _ :: _, _ => rw [isF]; simp
  | [_, _, _], h => exact absurd rfl h
theorem isF_no {a b c : Tr} (h : isI a = false) : isF (.tup [a, b, c]) = false := by
  cases a with
  | int i => cases h
  | _ => rfl
theorem isF_no2 {i : Int} {b c : Tr} (h : ¬ (2 ≤ i ∧ i ≤ 16) ∨ areP b = false) : isF (.tup [.int i, b, c]) = false := by
  cases c with
  | lst ws =>
    show (decide (2 ≤ i ∧ i ≤ 16) && (areP b && (decide ((ws.length : Int) = sumT b) && ws.all isW))) = false
    rcases h with h | h
    · rw [decide_eq_false h]; rfl
    · rw [h]; simp
  | _ => rfl
theorem isF_ok {b : Int} {ps ws : List Int} (h : OkF b ps ws) : isF (frT b ps ws) = true := by
  show (decide (2 ≤ b ∧ b ≤ 16) && (areP (.lst (ps.map .int)) && (decide (((ws.map Tr.int).length : Int) = sumT (.lst (ps.map .int))) && (ws.map Tr.int).all isW))) = true
  have e1 : areP (.lst (ps.map .int)) = true := by
    show (decide (2 ≤ (ps.map Tr.int).length ∧ (ps.map Tr.int).length ≤ 4) && (ps.map Tr.int).all isP) = true
    rw [List.length_map, decide_eq_true ⟨h.p1, h.p2⟩, List.all_map, show ps.all (isP ∘ Tr.int) = true from List.all_eq_true.mpr fun p hp => decide_eq_true (h.p3 p hp)]
    rfl
  have e2 : (ws.map Tr.int).all isW = true := by rw [List.all_map]; exact List.all_eq_true.mpr fun p hp => decide_eq_true (h.w2 p hp)
  rw [e1, e2, sumT_ints, List.length_map, decide_eq_true h.w1, decide_eq_true ⟨h.b1, h.b2⟩]
  rfl
theorem lc_filter {us : List Tr} {B : List Tr → Prop} {A : Nat → Tr → List Tr → (Nat → List Tr → Prop) → Prop} (p : Tr → Bool) (hz : us.length ≤ sizeLine)
    (hs : ∀ (i : Nat) t acc, us[i]? = some t → acc.length < sizeLine → ∀ I : Nat → List Tr → Prop, (p t = true → I (i + 1) (acc ++ [t])) → (p t = false → I (i + 1) acc) → A i t acc I) (hk : B (us.filter p)) :
    ∃ I : Nat → List Tr → Prop, I 0 [] ∧ (∀ (i : Nat) t acc, us[i]? = some t → I i acc → A i t acc I) ∧ ∀ acc, I us.length acc → B acc :=
  ⟨fun i acc => acc = (us.take i).filter p ∧ acc.length ≤ i, ⟨by simp, Nat.le_refl _⟩, fun i t acc e ⟨h, hl⟩ => by
    obtain ⟨hi, he⟩ := List.getElem?_eq_some_iff.mp e
    refine hs i t _ e (by omega) _ (fun q => ⟨?_, by rw [List.length_append]; simp; omega⟩) fun q => ⟨?_, by omega⟩
    · rw [List.take_add_one, e, h, List.filter_append]; simp [q]
    · rw [List.take_add_one, e, h, List.filter_append]; simp [q], fun acc ⟨h, _⟩ => by subst h; rw [List.take_length]; exact hk⟩
theorem filter_nil (p : Tr → Bool) : ∀ us : List Tr, (us.filter p).isEmpty = us.all fun t => !p t
  | [] => rfl
  | t :: us => by
    rw [List.filter_cons, List.all_cons]
    cases h : p t
    · simp [filter_nil p us]
    · simp
-- CUT
def S_is_whole : VSp := fun ds k _ => ∃ (t : Tr), ds = [.t t] ∧ (dt t = true) ∧ k (.bl (isI t))
theorem S_is_whole.len : ∀ ds k x, S_is_whole ds k x → ds.length = 1 := fun ds k x ⟨_, e, _⟩ => by rw [e]; rfl
theorem i_is_whole {t : Tr} {k : Tr → Prop} {x : VL.XK} (q : k (.bl (isI t))) (h1 : dt t = true) : S_is_whole [.t t] k x := ⟨t, rfl, h1, q⟩
local macro_rules | `(tactic| walk_at "vl call") => `(tactic| ((with_reducible apply i_is_whole)))
def u_is_whole : VS :=
  (vRet (vAnd (vCB (fIsi "int") (vaCons (vVar 0) (vaCons (vC (.ty "int")) vaNil))) (vNot (vCB (fIsi "bool") (vaCons (vVar 0) (vaCons (vC (.ty "bool")) vaNil))))))

theorem w_is_whole : Meets 1 N_is_whole S_is_whole u_is_whole 0 := by
  rintro ds k x hl ⟨t, rfl, h1, hk⟩
  unfold u_is_whole
  cases t <;> first | (walk_at "vl"; exact hk) | (simp [dt] at h1; done)
def S_is_weight : VSp := fun ds k _ => ∃ (t : Tr), ds = [.t t] ∧ (dt t = true) ∧ k (.bl (isW t))
theorem S_is_weight.len : ∀ ds k x, S_is_weight ds k x → ds.length = 1 := fun ds k x ⟨_, e, _⟩ => by rw [e]; rfl
theorem i_is_weight {t : Tr} {k : Tr → Prop} {x : VL.XK} (q : k (.bl (isW t))) (h1 : dt t = true) : S_is_weight [.t t] k x := ⟨t, rfl, h1, q⟩
local macro_rules | `(tactic| walk_at "vl call") => `(tactic| ((with_reducible apply i_is_weight)))
def u_is_weight : VS :=
  (vRet (vAnd (vCall S_is_whole (vaCons (vVar 0) vaNil)) (vOp fLe (vCB fAbs (vaCons (vVar 0) vaNil)) (vC (.int 9)))))

theorem w_is_weight : Meets 1 N_is_weight S_is_weight u_is_weight 0 := by
  rintro ds k x hl ⟨t, rfl, h1, hk⟩
  unfold u_is_weight
  walk_at "vl"
  · cases hI : isI t with
    | true =>
      obtain ⟨i, rfl⟩ := isI_some hI
      walk_at "vl"
      have e : decide ((if i < 0 then -i else i) ≤ 9) = decide (-9 ≤ i ∧ i ≤ 9) := by
        congr 1
        split <;> exact propext ⟨fun h => by omega, fun h => by omega⟩
      rw [e]; exact hk
    | false =>
      walk_at "vl"
      rw [isW_no hI] at hk
      exact hk
  · exact h1
-- CUT
def S_are_parts : VSp := fun ds k _ => ∃ (t : Tr), ds = [.t t] ∧ (dt t = true) ∧ (∀ ts, t = .lst ts → ts.length ≤ 1000) ∧ k (.bl (areP t))
theorem S_are_parts.len : ∀ ds k x, S_are_parts ds k x → ds.length = 1 := fun ds k x ⟨_, e, _⟩ => by rw [e]; rfl
theorem i_are_parts {t : Tr} {k : Tr → Prop} {x : VL.XK} (q : k (.bl (areP t))) (h1 : dt t = true) (h2 : ∀ ts, t = .lst ts → ts.length ≤ 1000) : S_are_parts [.t t] k x := ⟨t, rfl, h1, h2, q⟩
local macro_rules | `(tactic| walk_at "vl call") => `(tactic| ((with_reducible apply i_are_parts)))
def u_are_parts : VS :=
  (vSeq (vIfS (vtOr (vtNot (vtB (vCB (fIsi "list") (vaCons (vVar 0) (vaCons (vC (.ty "list")) vaNil))))) (vtNot (vtB (vCh fLe fLe (vC (.int 2)) (vCB fLen (vaCons (vVar 0) vaNil)) (vC (.int 4))))))
  (vRet (vC (.bl false)))
  vNext)
  (vSeq (vRet (vOp fEqN (vLc (viL (vVar 0)) (vgName 1) (vtOr (vtNot (vtB (vCall S_is_whole (vaCons (vVar 1) vaNil)))) (vtNot (vtB (vCh fLe fLe (vC (.int 1)) (vVar 1) (vC (.int 6)))))) (vVar 1) [1]) (vLst vaNil))) vNext))

theorem w_are_parts : Meets 1 N_are_parts S_are_parts u_are_parts 0 := by
  rintro ds k x hl ⟨t, rfl, h1, h2, hk⟩
  unfold u_are_parts
  cases t with
  | lst ts =>
    have hz := h2 ts rfl
    have hd := dts_iff.mp (show dts ts = true by rw [dt] at h1; exact h1)
    walk_at "vl"
    by_cases c1 : 2 ≤ ts.length
    · by_cases c2 : ts.length ≤ 4
      · walk_at "vl"
        refine lc_filter (fun t => !isP t) (sz hz) (fun i t acc e hl I hI hI2 => ?_) ?_
        · have hdt := hd t (mem_at e)
          walk_at "vl"
          · cases hq : isI t with
            | true =>
              obtain ⟨i, rfl⟩ := isI_some hq
              walk_at "vl"
              by_cases d1 : 1 ≤ i
              · by_cases d2 : i ≤ 6
                · walk_at "vl"
                  exact hI2 (by simp [isP, d1, d2])
                · walk_at "vl"
                  exact ⟨hl, hI (by simp [isP, d2])⟩
              · walk_at "vl"
                exact ⟨hl, hI (by simp [isP, d1])⟩
            | false =>
              walk_at "vl"
              exact ⟨hl, hI (by rw [isP_no hq]; rfl)⟩
          · exact hdt
        · walk_at "vl"
          have e : areP (.lst ts) = (ts.filter fun t => !isP t).isEmpty := by
            rw [filter_nil]
            show (decide (2 ≤ ts.length ∧ ts.length ≤ 4) && ts.all isP) = _
            rw [decide_eq_true ⟨c1, c2⟩]
            simp
          rw [e] at hk
          exact hk
      · walk_at "vl"
        have e : areP (.lst ts) = false := by
          show (decide (2 ≤ ts.length ∧ ts.length ≤ 4) && ts.all isP) = _
          rw [decide_eq_false fun q => c2 q.2]; rfl
        rw [e] at hk; exact hk
    · walk_at "vl"
      have e : areP (.lst ts) = false := by
        show (decide (2 ≤ ts.length ∧ ts.length ≤ 4) && ts.all isP) = _
        rw [decide_eq_false fun q => c1 q.1]; rfl
      rw [e] at hk; exact hk
  | _ => first | (walk_at "vl"; exact hk) | (simp [dt] at h1; done)
-- CUT
def szs : Tr → Prop
  | .lst ts => ts.length ≤ 1000
  | .tup ts => ∀ t ∈ ts, ∀ us, t = .lst us → us.length ≤ 1000
  | _ => True
def S_is_frame : VSp := fun ds k _ => ∃ (t : Tr), ds = [.t t] ∧ (dt t = true) ∧ (szs t) ∧ k (.bl (isF t))
theorem S_is_frame.len : ∀ ds k x, S_is_frame ds k x → ds.length = 1 := fun ds k x ⟨_, e, _⟩ => by rw [e]; rfl
theorem i_is_frame {t : Tr} {k : Tr → Prop} {x : VL.XK} (q : k (.bl (isF t))) (h1 : dt t = true) (h2 : szs t) : S_is_frame [.t t] k x := ⟨t, rfl, h1, h2, q⟩
local macro_rules | `(tactic| walk_at "vl call") => `(tactic| ((with_reducible apply i_is_frame)))
def u_is_frame : VS :=
  (vSeq (vIfS (vtOr (vtNot (vtB (vCB (fIsi "tuple") (vaCons (vVar 0) (vaCons (vC (.ty "tuple")) vaNil))))) (vtB (vOp fNeD (vCB fLen (vaCons (vVar 0) vaNil)) (vC (.int 3)))))
  (vRet (vC (.bl false)))
  vNext)
  (vSeq (vAsg (vVar 0) (vgTup 3 (vgCons (vgName 1) (vgCons (vgName 2) (vgCons (vgName 3) vgNil)))))
  (vSeq (vIfS (vtOr (vtNot (vtB (vCall S_is_whole (vaCons (vVar 1) vaNil)))) (vtOr (vtNot (vtB (vCh fLe fLe (vC (.int 2)) (vVar 1) (vC (.int 16))))) (vtNot (vtB (vCall S_are_parts (vaCons (vVar 2) vaNil))))))
  (vRet (vC (.bl false)))
  vNext)
  (vSeq (vIfS (vtOr (vtNot (vtB (vCB (fIsi "list") (vaCons (vVar 3) (vaCons (vC (.ty "list")) vaNil))))) (vtB (vOp fNeD (vCB fLen (vaCons (vVar 3) vaNil)) (vCB fSum (vaCons (vVar 2) vaNil)))))
  (vRet (vC (.bl false)))
  vNext)
  (vSeq (vRet (vOp fEqN (vLc (viL (vVar 3)) (vgName 4) (vtNot (vtB (vCall S_is_weight (vaCons (vVar 4) vaNil)))) (vVar 4) [4]) (vLst vaNil))) vNext)))))

theorem w_is_frame : Meets 1 N_is_frame S_is_frame u_is_frame 0 := by
  rintro ds k x hl ⟨t, rfl, h1, h2, hk⟩
  unfold u_is_frame
  cases t with
  | tup ts =>
    have hd := dts_iff.mp (show dts ts = true by rw [dt] at h1; exact h1)
    have hs : ∀ t ∈ ts, ∀ us, t = .lst us → us.length ≤ 1000 := h2
    match ts, hd, hs, hk with
    | [], _, _, hk => walk_at "vl"; exact hk
    | [_], _, _, hk => walk_at "vl"; rw [isF_len (by simp)] at hk; exact hk
    | [_, _], _, _, hk => walk_at "vl"; rw [isF_len (by simp)] at hk; exact hk
    | _ :: _ :: _ :: _ :: r, _, _, hk =>
      walk_at "vl"
      rw [isF_len (by simp)] at hk; exact hk
    | [a, b, c], hd, hs, hk =>
      have da := hd a (by simp)
      have db := hd b (by simp)
      have dc := hd c (by simp)
      have hzb := hs b (by simp)
      have hzc := hs c (by simp)
      walk_at "vl"
      · cases ha : isI a with
        | false =>
          walk_at "vl"
          rw [isF_no ha] at hk
          exact hk
        | true =>
          obtain ⟨i, rfl⟩ := isI_some ha
          walk_at "vl"
          by_cases c1 : 2 ≤ i
          · by_cases c2 : i ≤ 16
            · walk_at "vl"
              · cases hp : areP b with
                | false =>
                  walk_at "vl"
                  rw [isF_no2 (.inr hp)] at hk; exact hk
                | true =>
                  obtain ⟨ps, rfl, q1, q2, q3⟩ := areP_some hp
                  walk_at "vl"
                  cases c with
                  | lst ws =>
                    have hdw := dts_iff.mp (show dts ws = true by rw [dt] at dc; exact dc)
                    have hzw := hzc ws rfl
                    walk_at "vl"
                    by_cases c3 : (ws.length : Int) = ps.sum
                    · walk_at "vl"
                      refine lc_filter (fun t => !isW t) (sz hzw) (fun i t acc e hl I hI hI2 => ?_) ?_
                      · have hdt := hdw t (mem_at e)
                        walk_at "vl"
                        · cases hw : isW t with
                          | true => walk_at "vl"; exact hI2 (by rw [hw]; rfl)
                          | false => walk_at "vl"; exact ⟨hl, hI (by rw [hw]; rfl)⟩
                        · exact hdt
                      · walk_at "vl"
                        have e : isF (.tup [.int i, .lst (ps.map .int), .lst ws]) = (ws.filter fun t => !isW t).isEmpty := by
                          rw [filter_nil]
                          show (decide (2 ≤ i ∧ i ≤ 16) && (areP (.lst (ps.map .int)) && (decide ((ws.length : Int) = sumT (.lst (ps.map .int))) && ws.all isW))) = _
                          rw [hp, sumT_ints, decide_eq_true c3, decide_eq_true ⟨c1, c2⟩]
                          simp
                        rw [e] at hk; exact hk
                    · walk_at "vl"
                      have e : isF (.tup [.int i, .lst (ps.map .int), .lst ws]) = false := by
                        show (decide (2 ≤ i ∧ i ≤ 16) && (areP (.lst (ps.map .int)) && (decide ((ws.length : Int) = sumT (.lst (ps.map .int))) && ws.all isW))) = _
                        rw [sumT_ints, decide_eq_false c3]
                        simp
                      rw [e] at hk; exact hk
                  | _ => first | (walk_at "vl"; exact hk) | (simp [dt] at dc; done)
              · exact db
              · exact hzb
            · walk_at "vl"
              rw [isF_no2 (.inl fun q => c2 q.2)] at hk; exact hk
          · walk_at "vl"
            rw [isF_no2 (.inl fun q => c1 q.1)] at hk; exact hk
      · exact da
  | _ => first | (walk_at "vl"; exact hk) | (simp [dt] at h1; done)
-- CUT
def L (ps : List Int) : Nat := ps.sum.toNat
theorem take_snoc {α : Type} {xs : List α} {i : Nat} {t : α} (h : xs[i]? = some t) : xs.take (i + 1) = xs.take i ++ [t] := by
  rw [List.take_succ, h]; rfl
/-! == and != of texts -/
def fEqZ : O2 := fun m d e k => ∃ a b, view m d = some (.str a) ∧ view m e = some (.str b) ∧ k (.t (.bl (decide (a = b))))
def fNeZ : O2 := fun m d e k => ∃ a b, view m d = some (.str a) ∧ view m e = some (.str b) ∧ k (.t (.bl (!decide (a = b))))
theorem dec_str (a b : Str) : decide (V.str a = V.str b) = decide (a = b) := by
  by_cases h : a = b
  · rw [h, decide_eq_true rfl, decide_eq_true rfl]
  · rw [decide_eq_false h, decide_eq_false fun e => h (by injection e)]
theorem lo_eqZ {K : PySem.W.Frag} {mg : Str → Option Value} : Lo2 K mg rEq fEqZ := by
  rintro Z P R as G m σ H v w d e k Q r h1 h2 ⟨a, b, e1, e2, q⟩ n
  rw [r.vStr h1 e1, r.vStr h2 e2]
  refine ⟨rfl, n (.t (.bl (decide (a = b)))) _ R H q .refl r (.t ?_)⟩
  rw [dec_str]
  exact .bl _
theorem lo_neZ {K : PySem.W.Frag} {mg : Str → Option Value} : Lo2 K mg rNe fNeZ := by
  rintro Z P R as G m σ H v w d e k Q r h1 h2 ⟨a, b, e1, e2, q⟩ n
  rw [r.vStr h1 e1, r.vStr h2 e2]
  refine ⟨rfl, n (.t (.bl (!decide (a = b)))) _ R H q .refl r (.t ?_)⟩
  rw [dec_str]
  exact .bl _
section
variable {X : Cx} {Z : Rsc} {W : WX} {a b : Expr} {ea eb : VE} {pos : Pos}
theorem v_eqZ (ha : PE X a (LE X.K X.mg Z W ea)) (hb : PE X b (LE X.K X.mg Z W eb)) : PE X (.Compare a [.Eq] [b] pos) (LE X.K X.mg Z W (vOp fEqZ ea eb)) := v_cmp op_eq lo_eqZ ha hb (nomark _)
theorem v_neZ (ha : PE X a (LE X.K X.mg Z W ea)) (hb : PE X b (LE X.K X.mg Z W eb)) : PE X (.Compare a [.NotEq] [b] pos) (LE X.K X.mg Z W (vOp fNeZ ea eb)) := v_cmp op_ne lo_neZ ha hb (nomark _)
theorem vt_eqZ (ha : PE X a (LE X.K X.mg Z W ea)) (hb : PE X b (LE X.K X.mg Z W eb)) : PT X (.Compare a [.Eq] [b] pos) (LT X.K X.mg Z W (vtB (vOp fEqZ ea eb))) := vt_cmp op_eq lo_eqZ ha hb (nomark _)
theorem vt_neZ (ha : PE X a (LE X.K X.mg Z W ea)) (hb : PE X b (LE X.K X.mg Z W eb)) : PT X (.Compare a [.NotEq] [b] pos) (LT X.K X.mg Z W (vtB (vOp fNeZ ea eb))) := vt_cmp op_ne lo_neZ ha hb (nomark _)
end
theorem sp_eqZ {m : Sto} {d e : Dv} {a b : Str} {k : DK} (h1 : view m d = some (.str a)) (h2 : view m e = some (.str b)) (q : k (.t (.bl (decide (a = b))))) : fEqZ m d e k := ⟨a, b, h1, h2, q⟩
theorem sp_neZ {m : Sto} {d e : Dv} {a b : Str} {k : DK} (h1 : view m d = some (.str a)) (h2 : view m e = some (.str b)) (q : k (.t (.bl (!decide (a = b))))) : fNeZ m d e k := ⟨a, b, h1, h2, q⟩
local macro_rules | `(tactic| walk_at "vl side") => `(tactic| first | assumption | omega | rfl | exact Nat.le_of_ble_eq_true rfl | (simp only [List.length_cons, List.length_nil, List.length_map]; omega) | decide | exact sz (Nat.le_of_ble_eq_true rfl))
local macro_rules | `(tactic| walk_at "vl op") => `(tactic| first
  | ((with_reducible apply sp_ixDs); rfl; rfl; rfl) | ((with_reducible apply sp_ixLs); rfl; rfl; rfl) | ((with_reducible apply sp_ixDk); rfl; rfl; rfl; rfl))
local macro_rules | `(tactic| walk_at "vl flat") => `(tactic| first | exact flat_ints | exact flat_dtb rfl | exact flat_dlb rfl | exact flat_dib rfl | assumption)
local macro_rules | `(tactic| walk_at "vl flats") => `(tactic| repeat (first | exact fn_0 | ((refine fn_s ?_ ?_); walk_at "vl flat") | refine fn_n ?_))
local macro_rules | `(tactic| walk_at "vl more") => `(tactic| first
  | ((with_reducible apply st_fc); (case h => walk_at "vl flats"))
  | ((with_reducible apply st_out); rfl) | ((with_reducible apply st_newCMN); exact Nat.le_of_ble_eq_true rfl; rfl; rfl; (case hm => walk_at "vl nrm")) | ((with_reducible apply st_fe); (case h => walk_at "vl nrm")) | ((with_reducible apply st_ni); rfl)
  | ((with_reducible apply st_chTs); rfl; exact sz (Nat.le_of_ble_eq_true rfl)) | ((with_reducible apply st_rp1); rfl; rfl) | ((with_reducible apply st_lst1); rfl) | ((with_reducible apply st_lst2); rfl)
  | ((with_reducible apply st_rev1); rfl) | ((with_reducible apply st_bor); rfl; rfl) | ((with_reducible apply st_tbor); rfl; rfl) | ((with_reducible apply st_fl); rfl) | ((with_reducible apply st_flc); rfl) | ((with_reducible apply st_fld); rfl) | ((with_reducible apply st_wipe); rfl) | ((with_reducible apply st_am1); rfl; rfl) | ((apply st_am2N); (case h1 => walk_at "vl nrm2"); (case h2 => walk_at "vl nrm"); rfl; (case h6 => walk_at "vl nrm"); rfl; (case h7 => walk_at "vl nrm"))
  | ((with_reducible apply st_callA); rfl; rfl; rfl; rfl; rfl) | ((with_reducible apply st_callBM); rfl; rfl; rfl; rfl; rfl))
local macro_rules | `(tactic| walk_at "vl leaf") => `(tactic| ((with_reducible apply st_ins1); rfl))
local macro_rules | `(tactic| walk_at "vl nrm") => `(tactic| first
  | (dsimp only [outM, putS, wipeM, reachD, reach, flatR, renT, renI, seeL, seeP, drG, startG, blank, List.getD, List.set, List.foldl, List.map, List.replicate, List.length, Option.bind, List.nil_append, List.cons_append, List.getElem?_cons_succ, List.getElem?_cons_zero, Option.getD, Option.map, List.getD_cons_zero, List.getD_cons_succ]; done)
  | exact rfl)
local macro_rules | `(tactic| walk_at "vl") => `(tactic| (repeat (first | ((with_reducible apply st_seqN); (case hG => walk_at "vl nrm"); (case hm => walk_at "vl nrm")) | walk_at "vl step")))
local macro_rules | `(tactic| walk_at "vl nrm2") => `(tactic| first
  | (dsimp only [viewD, see, seeL, seeP, outM, putS, wipeM, reachD, reach, flatR, renT, renI, drG, startG, blank, List.getD, List.set, List.foldl, List.map, List.replicate, List.length, Option.bind, List.nil_append, List.cons_append, List.getElem?_cons_succ, List.getElem?_cons_zero, Option.getD, Option.map, List.getD_cons_zero, List.getD_cons_succ]; done)
  | exact rfl)
local macro_rules | `(tactic| walk_at "vl more") => `(tactic| first
  | ((with_reducible apply st_tx); rfl) | ((with_reducible apply st_split); rfl; rfl; rfl))
local macro_rules | `(tactic| walk_at "vl op") => `(tactic| first
  | ((with_reducible apply sp_eqS); rfl; rfl) | ((with_reducible apply sp_neS); rfl; rfl) | ((with_reducible apply sp_neNil); rfl; rfl) | ((with_reducible apply sp_addS); rfl; rfl) | ((with_reducible apply sp_slS); rfl) | ((with_reducible apply sp_lenS); rfl) | ((with_reducible apply sp_inS); rfl; rfl) | ((with_reducible apply sp_notinS); rfl; rfl))
local macro_rules | `(tactic| walk_at "vl op") => `(tactic| first
  | ((with_reducible apply sp_eqZ); rfl; rfl) | ((with_reducible apply sp_neZ); rfl; rfl))
/-! numbers written -/
def ts (n : Int) : Str := toString n
def nK (k : Fin 26) : Int := (k.val : Int) - 9
theorem nK_of {n : Int} (h1 : -9 ≤ n) (h2 : n ≤ 16) : ∃ k, n = nK k := ⟨⟨(n + 9).toNat, by omega⟩, by unfold nK; simp; omega⟩
theorem ts_int : ∀ k : Fin 26, intText? (ts (nK k)) = some (nK k) := by decide +kernel
theorem ts_ch : ∀ k : Fin 26, ∀ c ∈ TL.tl (ts (nK k)), c = 45 ∨ (48 ≤ c ∧ c ≤ 57) := by decide +kernel
theorem ts_len : ∀ k : Fin 26, (ts (nK k)).length ≤ 2 ∧ 1 ≤ (ts (nK k)).length := by decide +kernel
def fgT (n : Int) : Str := if n < 0 then cutS (ts n) (some 1) none else ts n
theorem ts_neg : ∀ k : Fin 26, decide (cutS (ts (nK k)) none (some 1) = Str.ofString "-") = decide (nK k < 0) := by decide +kernel
theorem fg_len : ∀ k : Fin 26, (fgT (nK k)).length ≤ 2 ∧ 1 ≤ (fgT (nK k)).length := by decide +kernel
theorem fg_ch : ∀ k : Fin 26, ∀ c ∈ (fgT (nK k)).cps.toList, c ∈ (Str.ofString "0123456789").cps.toList := by decide +kernel
theorem ts_no : ∀ k : Fin 26, decide (ts (nK k) = Str.ofString "-0") = false := by decide +kernel
theorem fg_0 : ∀ k : Fin 26, 1 < (fgT (nK k)).length → decide (atI (fgT (nK k)).cps.toList 0 = some 48) = false ∧ (atI (fgT (nK k)).cps.toList 0).isSome = true := by decide +kernel
theorem ok_cut : ∀ k : Fin 26, PyData.strOk (cutS (ts (nK k)) none (some 1)) = true ∧ PyData.strOk (ts (nK k)) = true := by decide +kernel
theorem ok_lit : PyData.strOk (Str.ofString "-") = true ∧ PyData.strOk (Str.ofString "-0") = true ∧ PyData.strOk (Str.ofString "0") = true := by decide +kernel
theorem ok_one : ∀ k : Fin 26, 1 < (fgT (nK k)).length → ∀ c, atI (fgT (nK k)).cps.toList 0 = some c → PyData.strOk ⟨#[c]⟩ = true ∧ decide ((⟨#[c]⟩ : Str) = Str.ofString "0") = false := fun k => by
  have : ∀ k : Fin 26, 1 < (fgT (nK k)).length → (match atI (fgT (nK k)).cps.toList 0 with
    | some c => PyData.strOk ⟨#[c]⟩ && !decide ((⟨#[c]⟩ : Str) = Str.ofString "0")
    | none => true) = true := by decide +kernel
  intro h c hc
  have := this k h
  rw [hc] at this
  simpa using this
-- CUT
/-! ### words: what writes a number -/
def fgL (l : List Nat) : List Nat := if l.take 1 = [45] then l.drop 1 else l
def dig (c : Nat) : Bool := decide (48 ≤ c ∧ c ≤ 57)
def okL (l : List Nat) : Bool := decide (1 ≤ (fgL l).length) && (decide ((fgL l).length ≤ 2) && ((fgL l).all dig && (!decide (l = [45, 48]) && !(decide (1 < (fgL l).length) && decide ((fgL l).head? = some 48)))))
theorem dig_of {c : Nat} (h : dig c = true) : ∃ i : Fin 10, c = 48 + i := by
  have h : 48 ≤ c ∧ c ≤ 57 := of_decide_eq_true h
  exact ⟨⟨c - 48, by omega⟩, by show c = 48 + (c - 48); omega⟩
theorem one_p : ∀ i : Fin 10, (⟨#[48 + i.val]⟩ : Str) = ts (i.val : Int) ∧ intText? (ts (i.val : Int)) = some (i.val : Int) := by decide +kernel
theorem one_n : ∀ i : Fin 10, i ≠ 0 → (⟨#[45, 48 + i.val]⟩ : Str) = ts (-(i.val : Int)) ∧ intText? (ts (-(i.val : Int))) = some (-(i.val : Int)) := by decide +kernel
theorem two_p : ∀ i j : Fin 10, i ≠ 0 → (⟨#[48 + i.val, 48 + j.val]⟩ : Str) = ts (10 * (i.val : Int) + j.val) ∧ intText? (ts (10 * (i.val : Int) + j.val)) = some (10 * (i.val : Int) + j.val) := by decide +kernel
theorem two_n : ∀ i j : Fin 10, i ≠ 0 → (⟨#[45, 48 + i.val, 48 + j.val]⟩ : Str) = ts (-(10 * (i.val : Int) + j.val)) ∧ intText? (ts (-(10 * (i.val : Int) + j.val))) = some (-(10 * (i.val : Int) + j.val)) := by decide +kernel
theorem w_eq {w : Str} {l : List Nat} (h : TL.tl w = l) : w = ⟨l.toArray⟩ := by rw [← h]
theorem okL_ts {w : Str} (h : okL (TL.tl w) = true) : ∃ n : Int, -99 ≤ n ∧ n ≤ 99 ∧ w = ts n ∧ intText? w = some n := by
  unfold okL at h
  simp only [Bool.and_eq_true, decide_eq_true_eq, Bool.not_eq_true', decide_eq_false_iff_not, Bool.and_eq_false_iff] at h
  obtain ⟨h1, h2, h3, h4, h5⟩ := h
  have hall : ∀ c ∈ fgL (TL.tl w), dig c = true := List.all_eq_true.mp h3
  by_cases hm : (TL.tl w).take 1 = [45]
  · have ef : fgL (TL.tl w) = (TL.tl w).drop 1 := by unfold fgL; rw [if_pos hm]
    have et : TL.tl w = 45 :: fgL (TL.tl w) := by rw [ef]; exact (List.take_append_drop 1 (TL.tl w)).symm.trans (by rw [hm]; rfl)
    rw [et] at h4
    generalize fgL (TL.tl w) = f at *
    match f, h1, h2, hall, h4, h5, et with
    | [a], _, _, hall, h4, _, et =>
      obtain ⟨i, rfl⟩ := dig_of (hall a (by simp))
      have hi : i ≠ 0 := fun z => h4 (by rw [z]; rfl)
      obtain ⟨e1, e2⟩ := one_n i hi
      have ew : w = ts (-(i.val : Int)) := (w_eq et).trans e1
      exact ⟨-(i.val : Int), by have := i.isLt; omega, by omega, ew, by rw [ew]; exact e2⟩
    | [a, b], _, _, hall, h4, h5, et =>
      obtain ⟨i, rfl⟩ := dig_of (hall a (by simp))
      obtain ⟨j, rfl⟩ := dig_of (hall b (by simp))
      have hi : i ≠ 0 := fun z => by
        rcases h5 with q | q
        · simp at q
        · exact q (by rw [z]; rfl)
      obtain ⟨e1, e2⟩ := two_n i j hi
      have ew : w = ts (-(10 * (i.val : Int) + j.val)) := (w_eq et).trans e1
      exact ⟨-(10 * (i.val : Int) + j.val), by have := i.isLt; have := j.isLt; omega, by omega, ew, by rw [ew]; exact e2⟩
    | [], h1, _, _, _, _, _ => simp at h1
    | _ :: _ :: _ :: _, _, h2, _, _, _, _ => simp at h2
  · have ef : fgL (TL.tl w) = TL.tl w := by unfold fgL; rw [if_neg hm]
    rw [ef] at h1 h2 hall h5
    have et : TL.tl w = TL.tl w := rfl
    generalize hf : TL.tl w = f at *
    match f, h1, h2, hall, h4, h5 with
    | [a], _, _, hall, h4, _ =>
      obtain ⟨i, rfl⟩ := dig_of (hall a (by simp))
      obtain ⟨e1, e2⟩ := one_p i
      have ew : w = ts (i.val : Int) := (w_eq hf).trans e1
      exact ⟨(i.val : Int), by omega, by have := i.isLt; omega, ew, by rw [ew]; exact e2⟩
    | [a, b], _, _, hall, h4, h5 =>
      obtain ⟨i, rfl⟩ := dig_of (hall a (by simp))
      obtain ⟨j, rfl⟩ := dig_of (hall b (by simp))
      have hi : i ≠ 0 := fun z => by
        rcases h5 with q | q
        · simp at q
        · exact q (by rw [z]; rfl)
      obtain ⟨e1, e2⟩ := two_p i j hi
      have ew : w = ts (10 * (i.val : Int) + j.val) := (w_eq hf).trans e1
      exact ⟨10 * (i.val : Int) + j.val, by omega, by have := i.isLt; have := j.isLt; omega, ew, by rw [ew]; exact e2⟩
    | [], h1, _, _, _, _ => simp at h1
    | _ :: _ :: _ :: _, _, h2, _, _, _ => simp at h2
/-- the same words as texts -/
def fgW (w : Str) : Str := if cutS w none (some 1) = Str.ofString "-" then cutS w (some 1) none else w
theorem tl_cut1 (w : Str) : TL.tl (cutS w none (some 1)) = (TL.tl w).take 1 := by
  show ((w.cps.toList.drop _).take _) = _
  have e1 : HT.sIx w.length 0 none = 0 := rfl
  have e2 : HT.sIx w.length w.length (some 1) = min 1 w.length := by simp [HT.sIx] <;> omega
  rw [e1, e2, List.drop_zero, Nat.sub_zero, TL.len_tl]
  cases h : TL.tl w with
  | nil => have h : w.cps.toList = [] := h; rw [h]; rfl
  | cons c r => have h : w.cps.toList = c :: r := h; rw [h]; simp
theorem tl_cutr (w : Str) : TL.tl (cutS w (some 1) none) = (TL.tl w).drop 1 := by
  show ((w.cps.toList.drop _).take _) = _
  have e1 : HT.sIx w.length w.length none = w.length := rfl
  have e2 : HT.sIx w.length 0 (some 1) = min 1 w.length := by simp [HT.sIx] <;> omega
  rw [e1, e2, TL.len_tl]
  cases h : TL.tl w with
  | nil => have h : w.cps.toList = [] := h; rw [h]; rfl
  | cons c r => have h : w.cps.toList = c :: r := h; rw [h]; simp
theorem cut_minus (w : Str) : (cutS w none (some 1) = Str.ofString "-") ↔ (TL.tl w).take 1 = [45] := by
  constructor
  · intro e
    rw [← tl_cut1, e]; decide +kernel
  · intro e
    refine TL.ext_tl ?_
    rw [tl_cut1, e]; decide +kernel
theorem tl_fg (w : Str) : TL.tl (fgW w) = fgL (TL.tl w) := by
  unfold fgW fgL
  by_cases h : (TL.tl w).take 1 = [45]
  · rw [if_pos ((cut_minus w).mpr h), if_pos h, tl_cutr]
  · rw [if_neg fun z => h ((cut_minus w).mp z), if_neg h]
theorem fig_dig (c : Nat) : decide (c ∈ (Str.ofString "0123456789").cps.toList) = dig c := by
  have e : (Str.ofString "0123456789").cps.toList = [48, 49, 50, 51, 52, 53, 54, 55, 56, 57] := by decide +kernel
  rw [e]
  unfold dig
  by_cases h : 48 ≤ c ∧ c ≤ 57
  · rw [decide_eq_true h]
    have : c = 48 ∨ c = 49 ∨ c = 50 ∨ c = 51 ∨ c = 52 ∨ c = 53 ∨ c = 54 ∨ c = 55 ∨ c = 56 ∨ c = 57 := by omega
    simpa using this
  · rw [decide_eq_false h]
    refine decide_eq_false fun z => ?_
    simp at z
    omega
theorem lit_m0 (w : Str) : decide (w = Str.ofString "-0") = decide (TL.tl w = [45, 48]) := by
  have e : TL.tl (Str.ofString "-0") = [45, 48] := by decide +kernel
  by_cases h : w = Str.ofString "-0"
  · rw [decide_eq_true h, decide_eq_true (by rw [h]; exact e)]
  · rw [decide_eq_false h, decide_eq_false fun z => h (TL.ext_tl (z.trans e.symm))]
theorem one_0 (c : Nat) : decide ((⟨#[c]⟩ : Str) = Str.ofString "0") = decide (c = 48) := by
  have e : Str.ofString "0" = ⟨#[48]⟩ := by decide +kernel
  rw [e]
  by_cases h : c = 48
  · rw [decide_eq_true h, h]; decide
  · rw [decide_eq_false h]
    refine decide_eq_false fun z => h ?_
    have := congrArg TL.tl z
    simpa [TL.tl] using this
def digT : Tr → Bool
  | .str z => match z.cps.toList with
    | [c] => dig c
    | _ => false
  | _ => false
theorem dig_filter (l : List Nat) : (((l.map fun c => Tr.str ⟨#[c]⟩).filter fun t => !digT t).isEmpty) = l.all dig := by
  induction l with
  | nil => rfl
  | cons c r ih =>
    rw [List.map_cons, List.filter_cons, List.all_cons]
    have e : digT (.str ⟨#[c]⟩) = dig c := rfl
    rw [e]
    cases h : dig c with
    | true => simpa using ih
    | false => simp
theorem at0 {α : Type} (c : α) (r : List α) : atI (c :: r) 0 = some c := by
  unfold atI ixN
  simp
def S_read_word : VSp := fun ds k x => ∃ w : Str, ds = [.t (.str w)] ∧ w.length ≤ 640 ∧ (∀ n : Int, okL (TL.tl w) = true → -99 ≤ n → n ≤ 99 → w = ts n → k (.int n)) ∧ (okL (TL.tl w) = false → x "NoText")
theorem S_read_word.len : ∀ ds k x, S_read_word ds k x → ds.length = 1 := fun ds k x ⟨_, e, _⟩ => by rw [e]; rfl
theorem i_read_word {w : Str} {k : Tr → Prop} {x : VL.XK} (q : ∀ n : Int, okL (TL.tl w) = true → -99 ≤ n → n ≤ 99 → w = ts n → k (.int n)) (q2 : okL (TL.tl w) = false → x "NoText") (h1 : w.length ≤ 640) : S_read_word [.t (.str w)] k x := ⟨w, rfl, h1, q, q2⟩
local macro_rules | `(tactic| walk_at "vl call") => `(tactic| with_reducible apply i_read_word)
def u_read_word : VS :=
  (vSeq (vSet 1 (vVar 0))
  (vSeq (vIfS (vtB (vOp fEqZ (vSl fSlc (vVar 0) voN (voS (vC (.int 1)))) (vC (.str "-"))))
  (vSet 1 (vSl fSlc (vVar 0) (voS (vC (.int 1))) voN))
  vNext)
  (vSeq (vIfS (vtOr (vtNot (vtB (vCh fLe fLe (vC (.int 1)) (vCB fLen (vaCons (vVar 1) vaNil)) (vC (.int 2))))) (vtB (vOp fNeN (vLc (viStr (vVar 1)) (vgName 2) (vtB (vOp fNotIn' (vVar 2) (vC (.str "0123456789")))) (vVar 2) [2]) (vLst vaNil))))
  (vRaise "NoText")
  vNext)
  (vSeq (vIfS (vtOr (vtB (vOp fEqZ (vVar 0) (vC (.str "-0")))) (vtAnd (vtB (vOp fGt (vCB fLen (vaCons (vVar 1) vaNil)) (vC (.int 1)))) (vtB (vOp fEqZ (vOp fIdx (vVar 1) (vC (.int 0))) (vC (.str "0"))))))
  (vRaise "NoText")
  vNext)
  (vSeq (vRet (vCB fIntS (vaCons (vVar 0) vaNil))) vNext)))))

theorem w_read_word : MeetsX 1 N_read_word S_read_word u_read_word 0 := by
  rintro ds k x hl ⟨w, rfl, hz, hk, hx⟩
  unfold u_read_word
  have hz1 : w.length ≤ sizeLine := by rw [sizeLine_eq]; omega
  have hfl : (fgW w).length = (fgL (TL.tl w)).length := by rw [TL.len_tl, tl_fg]
  have hfz : (fgW w).length ≤ w.length := by
    unfold fgW
    split
    · exact cutS_length _ _ _
    · exact Nat.le_refl _
  have hz2 : (fgW w).length ≤ sizeLine := by omega
  have hall : (fgW w).cps.toList = fgL (TL.tl w) := tl_fg w
  have hok : ∀ c1 c2 c3 c4 c5 : Bool, decide (1 ≤ (fgL (TL.tl w)).length) = c1 → decide ((fgL (TL.tl w)).length ≤ 2) = c2 → (fgL (TL.tl w)).all dig = c3 → decide (TL.tl w = [45, 48]) = c4 →
      (decide (1 < (fgL (TL.tl w)).length) && decide ((fgL (TL.tl w)).head? = some 48)) = c5 → okL (TL.tl w) = (c1 && (c2 && (c3 && (!c4 && !c5)))) := fun _ _ _ _ _ e1 e2 e3 e4 e5 => by
    rw [← e1, ← e2, ← e3, ← e4, ← e5]; rfl
  walk_at "vl"
  · refine br_joinN (fun G m => G = [some (.t (.str w)), some (.t (.str (fgW w))), none] ∧ m = []) ?_ ?_ ?_
    · rintro G' m' ⟨rfl, rfl⟩
      by_cases c12 : 1 ≤ (fgW w).length ∧ (fgW w).length ≤ 2
      · obtain ⟨c1, c2⟩ := c12
        walk_at "vl"
        · refine lc_filter (fun t => !digT t) (by rw [List.length_map, hall, sizeLine_eq]; omega) (fun i t acc e hl I hI hI2 => ?_) ?_
          · obtain ⟨c, rfl, hc⟩ : ∃ c, t = .str ⟨#[c]⟩ ∧ c ∈ (fgW w).cps.toList := by
              rw [List.getElem?_map] at e
              cases z : (fgW w).cps.toList[i]? with
              | none => rw [z] at e; cases e
              | some c => rw [z] at e; exact ⟨c, (Option.some.inj e).symm, mem_at z⟩
            have ed : digT (.str ⟨#[c]⟩) = dig c := rfl
            walk_at "vl"
            · rw [fig_dig]
              cases h : dig c with
              | true =>
                walk_at "vl"
                exact hI2 (by rw [ed, h]; rfl)
              | false =>
                walk_at "vl"
                exact ⟨hl, hI (by rw [ed, h]; rfl)⟩
          · walk_at "vl"
            rw [dig_filter, hall]
            cases c3 : (fgL (TL.tl w)).all dig with
            | false =>
              walk_at "vl"
              exact hx (by rw [hok _ _ _ _ _ rfl rfl c3 rfl rfl]; simp)
            | true =>
              walk_at "vl"
              rw [lit_m0]
              cases c4 : decide (TL.tl w = [45, 48]) with
              | true =>
                walk_at "vl"
                exact hx (by rw [hok _ _ _ _ _ rfl rfl c3 c4 rfl]; simp)
              | false =>
                walk_at "vl"
                · refine ⟨fun hc => ?_, fun hc => ?_⟩
                  · have hc : (1 : Int) < ((fgW w).length : Int) := by simpa using hc
                    have hc : 1 < (fgW w).length := by omega
                    obtain ⟨c, r, hcr⟩ : ∃ c r, (fgW w).cps.toList = c :: r := by
                      cases z : (fgW w).cps.toList with
                      | nil => rw [hall] at z; rw [hfl, z] at hc; simp at hc
                      | cons c r => exact ⟨c, r, rfl⟩
                    walk_at "vl"
                    refine .inr (.inr (.inr (.inl ⟨_, 0, c, rfl, rfl, hz2, by rw [hcr]; exact at0 c r, ?_⟩)))
                    walk_at "vl"
                    rw [one_0]
                    rw [hall] at hcr
                    cases c5 : decide (c = 48) with
                    | true =>
                      walk_at "vl"
                      exact hx (by rw [hok _ _ _ _ true rfl rfl c3 c4 (by rw [hcr, List.head?_cons, decide_eq_true (by rw [← hcr, ← hfl]; exact hc), of_decide_eq_true c5]; rfl)]; simp)
                    | false =>
                      walk_at "vl"
                      have hk1 : okL (TL.tl w) = true := by
                        rw [hok _ _ _ _ false rfl rfl c3 c4 (by rw [hcr, List.head?_cons, decide_eq_false fun z => of_decide_eq_false c5 (Option.some.inj z)]; simp), decide_eq_true (by omega), decide_eq_true (by omega)]; rfl
                      obtain ⟨n, n1, n2, ew, ei⟩ := okL_ts hk1
                      exact sp_intS rfl ei hz ⟨_, rfl, hk n hk1 n1 n2 ew⟩
                  · have hc : ¬ (1 : Int) < ((fgW w).length : Int) := by simpa using hc
                    walk_at "vl"
                    have hk1 : okL (TL.tl w) = true := by
                      rw [hok _ _ _ _ false rfl rfl c3 c4 (by rw [decide_eq_false (by omega)]; rfl), decide_eq_true (by omega), decide_eq_true (by omega)]; rfl
                    obtain ⟨n, n1, n2, ew, ei⟩ := okL_ts hk1
                    exact sp_intS rfl ei hz ⟨_, rfl, hk n hk1 n1 n2 ew⟩
                all_goals exact hz2
        · exact hz2
      · have hno : okL (TL.tl w) = false := by
          cases q : okL (TL.tl w) with
          | false => rfl
          | true =>
            rw [hok _ _ _ _ _ rfl rfl rfl rfl rfl] at q
            simp only [Bool.and_eq_true, decide_eq_true_eq] at q
            rw [← hfl] at q
            exact absurd ⟨q.1, q.2.1⟩ c12
        by_cases c1 : 1 ≤ (fgW w).length
        · have c2 : ¬ (fgW w).length ≤ 2 := fun z => c12 ⟨c1, z⟩
          walk_at "vl"
          · exact hx hno
          all_goals exact hz2
        · walk_at "vl"
          · exact hx hno
          all_goals exact hz2
    · intro hr hc
      have hc : cutS w none (some 1) = Str.ofString "-" := of_decide_eq_true hc
      walk_at "vl1"
      · refine hr _ _ ⟨?_, rfl⟩
        unfold fgW
        rw [if_pos hc]; rfl
      · exact hz1
    · intro hc
      have hc : ¬ cutS w none (some 1) = Str.ofString "-" := of_decide_eq_false hc
      unfold fgW
      rw [if_neg hc]
      exact ⟨rfl, rfl⟩
  · exact hz1
-- CUT
def valI : Tr → Int
  | .int i => i
  | _ => 0
theorem len_le {ns : List Int} (h : ∀ n ∈ ns, -9 ≤ n ∧ n ≤ 16) : ((ns.map ts).map (·.length)).sum ≤ 2 * ns.length := by
  induction ns with
  | nil => simp
  | cons n r ih =>
    have q := h n List.mem_cons_self
    obtain ⟨k, rfl⟩ := nK_of q.1 q.2
    have := ih fun z hz => h z (List.mem_cons_of_mem _ hz)
    have l := ts_len k
    simp only [List.map_cons, List.sum_cons, List.length_cons]
    omega
def wr (b : Int) (ps ws : List Int) : Str := ts b ++ Str.ofString ":" ++ Txt.join (Str.ofString "+") (ps.map ts) ++ Str.ofString ":" ++ Txt.join (Str.ofString " ") (ws.map ts)
theorem ts_map (ns : List Int) : (ns.map Tr.int).map (fun t => Tr.str (ts (valI t))) = (ns.map ts).map Tr.str := by
  rw [List.map_map, List.map_map]; rfl
theorem ts_log : ∀ k : Fin 26, (nK k).natAbs.log2 < 1920 := by decide +kernel
theorem log_ok {n : Int} (h : -9 ≤ n ∧ n ≤ 16) : n.natAbs.log2 < 1920 := by
  obtain ⟨k, rfl⟩ := nK_of h.1 h.2
  exact ts_log k
theorem joinL_len (a : List Nat) : ∀ ys : List (List Nat), (TL.joinL a ys).length ≤ (ys.map List.length).sum + ys.length * a.length
  | [] => by simp [TL.joinL]
  | [x] => by simp [TL.joinL]
  | x :: y :: r => by
    have ih := joinL_len a (y :: r)
    show (x ++ (a ++ TL.joinL a (y :: r))).length ≤ _
    rw [List.length_append, List.length_append, List.map_cons, List.sum_cons, List.length_cons, Nat.add_mul]
    omega
theorem join_len (a : Str) (ys : List Str) : (Txt.join a ys).length ≤ (ys.map (·.length)).sum + ys.length * a.length := by
  have h := joinL_len (TL.tl a) (ys.map TL.tl)
  rw [TL.len_tl, TL.join_eq, TL.tl_join]
  have e : (ys.map TL.tl).map List.length = ys.map (·.length) := by
    rw [List.map_map]
    exact List.map_congr_left fun x _ => (TL.len_tl x).symm
  rw [e, List.length_map, ← TL.len_tl] at h
  exact h
theorem app_len (a b : Str) : (a ++ b).length = a.length + b.length := by
  rw [TL.len_tl, TL.tl_append, List.length_append, ← TL.len_tl, ← TL.len_tl]
theorem okF_ps {b : Int} {ps ws : List Int} (h : OkF b ps ws) : ∀ n ∈ ps, -9 ≤ n ∧ n ≤ 16 := fun n hn => by have := h.p3 n hn; omega
theorem okF_ws {b : Int} {ps ws : List Int} (h : OkF b ps ws) : ∀ n ∈ ws, -9 ≤ n ∧ n ≤ 16 := fun n hn => by have := h.w2 n hn; omega
theorem okF_len {b : Int} {ps ws : List Int} (h : OkF b ps ws) : ws.length ≤ 24 := by
  have h1 := sum_bounds h.p3
  have h2 := h.w1
  have h3 := h.p2
  omega
theorem lit_len : (Str.ofString ":").length = 1 ∧ (Str.ofString "+").length = 1 ∧ (Str.ofString " ").length = 1 := by decide +kernel
theorem P_len {ns : List Int} (h : ∀ n ∈ ns, -9 ≤ n ∧ n ≤ 16) {a : Str} (ha : a.length = 1) : (Txt.join a (ns.map ts)).length ≤ 3 * ns.length := by
  have h1 := join_len a (ns.map ts)
  have h2 := len_le h
  rw [ha, List.length_map] at h1
  omega
theorem lc_ts {ns : List Int} {B : List Tr → Prop} {A : Nat → Tr → List Tr → (Nat → List Tr → Prop) → Prop} (hz : ns.length ≤ 1000) (hs : ∀ (i : Nat) (n : Int) acc, n ∈ ns → acc.length < sizeLine → ∀ I : Nat → List Tr → Prop, I (i + 1) (acc ++ [.str (ts n)]) → A i (.int n) acc I) (hk : B ((ns.map ts).map Tr.str)) :
    ∃ I : Nat → List Tr → Prop, I 0 [] ∧ (∀ (i : Nat) t acc, (ns.map Tr.int)[i]? = some t → I i acc → A i t acc I) ∧ ∀ acc, I (ns.map Tr.int).length acc → B acc :=
  lc_mapB (fun t => .str (ts (valI t))) (by rw [List.length_map, sizeLine_eq]; omega) (fun i t acc e hz I hI => by
    obtain ⟨n, rfl, hn⟩ := int_at e
    exact hs i n acc (mem_at hn) hz I hI) (by rw [ts_map]; exact hk)
theorem free_ts {s : Nat} (h : s ≠ 45 ∧ (s < 48 ∨ 57 < s)) {n : Int} (hn : -9 ≤ n ∧ n ≤ 16) : s ∉ TL.tl (ts n) := fun hm => by
  obtain ⟨k, rfl⟩ := nK_of hn.1 hn.2
  have := ts_ch k s hm
  omega
theorem free_join {s : Nat} {a : Str} {ys : List Str} (ha : s ∉ TL.tl a) (hy : ∀ y ∈ ys, s ∉ TL.tl y) : s ∉ TL.tl (Txt.join a ys) := by
  rw [TL.join_eq, TL.tl_join]
  have : ∀ zs : List (List Nat), (∀ z ∈ zs, s ∉ z) → s ∉ TL.joinL (TL.tl a) zs := by
    intro zs
    induction zs with
    | nil => intro _; simp [TL.joinL]
    | cons x r ih =>
      intro h
      cases r with
      | nil => exact h x List.mem_cons_self
      | cons y r =>
        show s ∉ x ++ (TL.tl a ++ TL.joinL (TL.tl a) (y :: r))
        intro hm
        rcases List.mem_append.mp hm with q | q
        · exact h x List.mem_cons_self q
        · rcases List.mem_append.mp q with q | q
          · exact ha q
          · exact ih (fun z hz => h z (List.mem_cons_of_mem _ hz)) q
  exact this _ fun z hz => by
    obtain ⟨y, hy', rfl⟩ := List.mem_map.mp hz
    exact hy y hy'
theorem lits : TL.tl (Str.ofString ":") = [58] ∧ TL.tl (Str.ofString "+") = [43] ∧ TL.tl (Str.ofString " ") = [32] := by decide +kernel
theorem lits2 : (Str.ofString ":").cps.all (· < 256) = true ∧ (Str.ofString "+").cps.all (· < 256) = true ∧ (Str.ofString " ").cps.all (· < 256) = true := by decide +kernel
theorem wr_join (b : Int) (ps ws : List Int) : wr b ps ws = Txt.join (Str.ofString ":") [ts b, Txt.join (Str.ofString "+") (ps.map ts), Txt.join (Str.ofString " ") (ws.map ts)] := by
  refine TL.ext_tl ?_
  rw [TL.join_eq, TL.tl_join]
  unfold wr
  simp only [TL.tl_append, List.map_cons, List.map_nil, TL.joinL, List.append_assoc]
theorem split3 {b : Int} {ps ws : List Int} (h : OkF b ps ws) : Txt.split (wr b ps ws) (Str.ofString ":") = [ts b, Txt.join (Str.ofString "+") (ps.map ts), Txt.join (Str.ofString " ") (ws.map ts)] := by
  rw [wr_join]
  refine TL.split_join lits.1 lits2.1 (by simp) fun p hp => ?_
  have hb : -9 ≤ b ∧ b ≤ 16 := by have := h.b1; have := h.b2; omega
  simp only [List.mem_cons, List.not_mem_nil, or_false] at hp
  rcases hp with rfl | rfl | rfl
  · exact free_ts (by decide) hb
  · refine free_join (by rw [lits.2.1]; decide) fun y hy => ?_
    obtain ⟨n, hn, rfl⟩ := List.mem_map.mp hy
    exact free_ts (by decide) (okF_ps h n hn)
  · refine free_join (by rw [lits.2.2]; decide) fun y hy => ?_
    obtain ⟨n, hn, rfl⟩ := List.mem_map.mp hy
    exact free_ts (by decide) (okF_ws h n hn)
theorem split_p {b : Int} {ps ws : List Int} (h : OkF b ps ws) : Txt.split (Txt.join (Str.ofString "+") (ps.map ts)) (Str.ofString "+") = ps.map ts :=
  TL.split_join lits.2.1 lits2.2.1 (fun e => by have q := congrArg List.length e; rw [List.length_map] at q; have := h.p1; simp at q; rw [q] at this; simp at this) fun p hp => by
    obtain ⟨n, hn, rfl⟩ := List.mem_map.mp hp
    exact free_ts (by decide) (okF_ps h n hn)
theorem ws_ne {b : Int} {ps ws : List Int} (h : OkF b ps ws) : 0 < ws.length := by
  have h1 := sum_bounds h.p3
  have h2 := h.w1
  have h3 := h.p1
  omega
theorem split_w {b : Int} {ps ws : List Int} (h : OkF b ps ws) : Txt.split (Txt.join (Str.ofString " ") (ws.map ts)) (Str.ofString " ") = ws.map ts :=
  TL.split_join lits.2.2 lits2.2.2 (fun e => by have q := congrArg List.length e; rw [List.length_map] at q; have := ws_ne h; simp at q; rw [q] at this; simp at this) fun p hp => by
    obtain ⟨n, hn, rfl⟩ := List.mem_map.mp hp
    exact free_ts (by decide) (okF_ws h n hn)
theorem wr_len {b : Int} {ps ws : List Int} (h : OkF b ps ws) : (wr b ps ws).length ≤ 200 := by
  have hb : -9 ≤ b ∧ b ≤ 16 := by have := h.b1; have := h.b2; omega
  have lb : (ts b).length ≤ 2 := by obtain ⟨k, rfl⟩ := nK_of hb.1 hb.2; exact (ts_len k).1
  have l1 := P_len (okF_ps h) lit_len.2.1
  have l2 := P_len (okF_ws h) lit_len.2.2
  have h1 := h.p2
  have h2 := okF_len h
  have lc := lit_len.1
  unfold wr
  simp only [app_len]
  omega
/-! ### a text cut, and put together again -/
theorem joinL_cons {a x : List Nat} {X : List (List Nat)} (h : X ≠ []) : TL.joinL a (x :: X) = x ++ (a ++ TL.joinL a X) := by
  cases X with
  | nil => exact absurd rfl h
  | cons y r => rfl
theorem spl_ne (S : List Nat) : ∀ (l acc : List Nat) (k : Nat), TL.spl S k acc l ≠ []
  | [], acc, k => by rw [TL.spl_nil]; simp
  | c :: r, acc, 0 => by
    cases h : TL.pre S (c :: r) with
    | true => rw [TL.spl_hit h]; simp
    | false => rw [TL.spl_miss h]; exact spl_ne S r _ 0
  | c :: r, acc, k + 1 => spl_ne S r acc k
theorem join_spl (s : Nat) : ∀ (l acc : List Nat), TL.joinL [s] (TL.spl [s] 0 acc l) = acc ++ l
  | [], acc => by rw [TL.spl_nil]; simp [TL.joinL]
  | c :: r, acc => by
    cases h : TL.pre [s] (c :: r) with
    | true =>
      have e : c = s := by
        have h : ((c :: r).take 1 == [s]) = true := h
        simpa using h
      rw [TL.spl_hit h, joinL_cons (spl_ne _ _ _ _)]
      show acc ++ ([s] ++ TL.joinL [s] (TL.spl [s] 0 [] r)) = _
      rw [join_spl s r [], e]; simp
    | false =>
      rw [TL.spl_miss h, join_spl s r]; simp
theorem split_tl {x y : Str} {s : Nat} (ey : TL.tl y = [s]) (hk : y.cps.all (· < 256) = true) : (Txt.split x y).map TL.tl = TL.spl [s] 0 [] (TL.tl x) := by
  rw [TL.split_spl x y (by rw [ey]; simp) (TL.kind_ok hk), ey]
theorem join_split {x y : Str} {s : Nat} (ey : TL.tl y = [s]) (hk : y.cps.all (· < 256) = true) : Txt.join y (Txt.split x y) = x := by
  refine TL.ext_tl ?_
  rw [TL.join_eq, TL.tl_join, split_tl ey hk, ey, join_spl]; rfl
theorem joinL_len1 (s : Nat) : ∀ (ys : List (List Nat)), ys ≠ [] → (TL.joinL [s] ys).length + 1 = (ys.map List.length).sum + ys.length
  | [], h => absurd rfl h
  | [x], _ => by simp [TL.joinL]
  | x :: y :: r, _ => by
    have ih := joinL_len1 s (y :: r) (by simp)
    rw [joinL_cons (by simp), List.length_append, List.length_append, List.map_cons, List.sum_cons, List.length_cons]
    simp only [List.length_cons, List.length_nil] at *
    omega
theorem split_ne {x y : Str} {s : Nat} (ey : TL.tl y = [s]) (hk : y.cps.all (· < 256) = true) : Txt.split x y ≠ [] := fun e => by
  have h := split_tl (x := x) ey hk
  rw [e] at h
  exact spl_ne _ _ _ _ h.symm
theorem le_sumN : ∀ {l : List Nat} {n : Nat}, n ∈ l → n ≤ l.sum
  | m :: l, n, h => by
    rw [List.sum_cons]
    rcases List.mem_cons.mp h with e | h
    · omega
    · have := le_sumN h
      omega
theorem split_len {x y : Str} {s : Nat} (ey : TL.tl y = [s]) (hk : y.cps.all (· < 256) = true) : (Txt.split x y).length ≤ x.length + 1 ∧ ∀ w ∈ Txt.split x y, w.length ≤ x.length := by
  have h := joinL_len1 s ((Txt.split x y).map TL.tl) fun z => split_ne ey hk (List.map_eq_nil_iff.mp z)
  rw [split_tl ey hk, join_spl, ← split_tl ey hk] at h
  have hx : x.length = (TL.tl x).length := TL.len_tl x
  rw [List.nil_append, List.length_map, ← hx] at h
  have hn : 0 < (Txt.split x y).length := List.length_pos_iff.mpr (split_ne ey hk)
  refine ⟨by omega, fun w hw => ?_⟩
  have : w.length ≤ (((Txt.split x y).map TL.tl).map List.length).sum := by
    rw [TL.len_tl]
    exact le_sumN (List.mem_map.mpr ⟨_, List.mem_map.mpr ⟨w, hw, rfl⟩, rfl⟩)
  omega
theorem ts_okL : ∀ k : Fin 26, okL (TL.tl (ts (nK k))) = true := by decide +kernel
theorem ts_ok {n : Int} (h : -9 ≤ n ∧ n ≤ 16) : okL (TL.tl (ts n)) = true := by
  obtain ⟨k, rfl⟩ := nK_of h.1 h.2
  exact ts_okL k
theorem ts_int99 : ∀ k : Fin 199, intText? (ts ((k.val : Int) - 99)) = some ((k.val : Int) - 99) := by decide +kernel
theorem ts_i99 {n : Int} (h1 : -99 ≤ n) (h2 : n ≤ 99) : intText? (ts n) = some n := by
  have e := ts_int99 ⟨(n + 99).toNat, by omega⟩
  have e2 : (((n + 99).toNat : Nat) : Int) - 99 = n := by omega
  rw [show (((⟨(n + 99).toNat, by omega⟩ : Fin 199).val : Nat) : Int) - 99 = n from e2] at e
  exact e
theorem ts_inj99 {a c : Int} (ha : -99 ≤ a ∧ a ≤ 99) (hc : -99 ≤ c ∧ c ≤ 99) (h : ts a = ts c) : a = c := by
  have h1 := ts_i99 ha.1 ha.2
  rw [h, ts_i99 hc.1 hc.2] at h1
  exact (Option.some.inj h1).symm
theorem map_inj99 : ∀ {xs ys : List Int}, (∀ n ∈ xs, -99 ≤ n ∧ n ≤ 99) → (∀ n ∈ ys, -99 ≤ n ∧ n ≤ 99) → xs.map ts = ys.map ts → xs = ys
  | [], [], _, _, _ => rfl
  | x :: xs, y :: ys, h1, h2, h => by
    rw [List.map_cons, List.map_cons] at h
    obtain ⟨e1, e2⟩ := List.cons.inj h
    rw [ts_inj99 (h1 x List.mem_cons_self) (h2 y List.mem_cons_self) e1, map_inj99 (fun n hn => h1 n (List.mem_cons_of_mem _ hn)) (fun n hn => h2 n (List.mem_cons_of_mem _ hn)) e2]
  | [], _ :: _, _, _, h => by simp at h
  | _ :: _, [], _, _, h => by simp at h
/-- what a text that writes a frame is -/
def RdP (z : Str) : Prop := ∃ (b : Int) (ps ws : List Int), OkF b ps ws ∧ z = wr b ps ws
theorem rd_cut {z : Str} {b : Int} {ps ws : List Int} (h : OkF b ps ws) (e : z = wr b ps ws) : ∃ s1 s2 : Str, Txt.split z (Str.ofString ":") = [ts b, s1, s2] ∧ Txt.split s1 (Str.ofString "+") = ps.map ts ∧ Txt.split s2 (Str.ofString " ") = ws.map ts :=
  ⟨_, _, by rw [e]; exact split3 h, split_p h, split_w h⟩
theorem rd_put {z a b c : Str} {n : Int} {ns ms : List Int} (h3 : Txt.split z (Str.ofString ":") = [a, b, c]) (ha : a = ts n) (hb : Txt.split b (Str.ofString "+") = ns.map ts) (hc : Txt.split c (Str.ofString " ") = ms.map ts) : z = wr n ns ms := by
  rw [← join_split (x := z) lits.1 lits2.1, h3, wr_join, ← hb, ← hc, join_split lits.2.1 lits2.2.1, join_split lits.2.2 lits2.2.2, ha]
theorem rd_words {z a b c : Str} (h3 : Txt.split z (Str.ofString ":") = [a, b, c]) (h : RdP z) : okL (TL.tl a) = true ∧ (∀ w ∈ Txt.split b (Str.ofString "+"), okL (TL.tl w) = true) ∧ ∀ w ∈ Txt.split c (Str.ofString " "), okL (TL.tl w) = true := by
  obtain ⟨n, ps, ws, hf, e⟩ := h
  obtain ⟨s1, s2, e3, e1, e2⟩ := rd_cut hf e
  rw [h3] at e3
  have q1 := (List.cons.inj e3).1
  have q2 := (List.cons.inj (List.cons.inj e3).2).1
  have q3 := (List.cons.inj (List.cons.inj (List.cons.inj e3).2).2).1
  have hb : -9 ≤ n ∧ n ≤ 16 := by have := hf.b1; have := hf.b2; omega
  refine ⟨by rw [q1]; exact ts_ok hb, fun w hw => ?_, fun w hw => ?_⟩
  · rw [q2, e1] at hw
    obtain ⟨m, hm, rfl⟩ := List.mem_map.mp hw
    exact ts_ok (okF_ps hf m hm)
  · rw [q3, e2] at hw
    obtain ⟨m, hm, rfl⟩ := List.mem_map.mp hw
    exact ts_ok (okF_ws hf m hm)
theorem rd_same {z a b c : Str} {n : Int} {ns ms : List Int} (h3 : Txt.split z (Str.ofString ":") = [a, b, c]) (ha : a = ts n) (hn : -99 ≤ n ∧ n ≤ 99) (hb : Txt.split b (Str.ofString "+") = ns.map ts) (hns : ∀ n ∈ ns, -99 ≤ n ∧ n ≤ 99)
    (hc : Txt.split c (Str.ofString " ") = ms.map ts) (hms : ∀ n ∈ ms, -99 ≤ n ∧ n ≤ 99) (h : RdP z) : OkF n ns ms := by
  obtain ⟨b', ps, ws, hf, e⟩ := h
  obtain ⟨s1, s2, e3, e1, e2⟩ := rd_cut hf e
  rw [h3] at e3
  have q1 := (List.cons.inj e3).1
  have q2 := (List.cons.inj (List.cons.inj e3).2).1
  have q3 := (List.cons.inj (List.cons.inj (List.cons.inj e3).2).2).1
  rw [← q2, hb] at e1
  rw [← q3, hc] at e2
  have r1 : n = b' := ts_inj99 hn (by have := hf.b1; have := hf.b2; omega) (ha.symm.trans q1)
  have r2 : ns = ps := map_inj99 hns (fun m hm => by have := okF_ps hf m hm; omega) e1
  have r3 : ms = ws := map_inj99 hms (fun m hm => by have := okF_ws hf m hm; omega) e2
  rw [r1, r2, r3]; exact hf
theorem lc_rdx {ws : List Str} {B : List Tr → Prop} {A : Nat → Tr → List Tr → (Nat → List Tr → Prop) → Prop} (hz : ws.length ≤ 1000)
    (hs : ∀ (i : Nat) (w : Str) acc, w ∈ ws → acc.length < sizeLine → ∀ I : Nat → List Tr → Prop, (∀ n : Int, -99 ≤ n → n ≤ 99 → w = ts n → I (i + 1) (acc ++ [.int n])) → A i (.str w) acc I)
    (hk : ∀ ns : List Int, ws = ns.map ts → (∀ n ∈ ns, -99 ≤ n ∧ n ≤ 99) → B (ns.map Tr.int)) :
    ∃ I : Nat → List Tr → Prop, I 0 [] ∧ (∀ (i : Nat) t acc, (ws.map Tr.str)[i]? = some t → I i acc → A i t acc I) ∧ ∀ acc, I (ws.map Tr.str).length acc → B acc := by
  refine ⟨fun i acc => ∃ ns : List Int, acc = ns.map Tr.int ∧ ws.take i = ns.map ts ∧ ∀ n ∈ ns, -99 ≤ n ∧ n ≤ 99, ⟨[], rfl, by simp, fun n h => by cases h⟩, fun i t acc e ⟨ns, h1, h2, h3⟩ => ?_, fun acc ⟨ns, h1, h2, h3⟩ => ?_⟩
  · rw [List.getElem?_map] at e
    cases q : ws[i]? with
    | none => rw [q] at e; cases e
    | some w =>
      rw [q] at e
      have e : Tr.str w = t := Option.some.inj e
      subst e
      have hi := (List.getElem?_eq_some_iff.mp q).1
      have hl : ns.length = i := by
        have := congrArg List.length h2
        rw [List.length_take, List.length_map] at this
        omega
      refine hs i w acc (mem_at q) (by rw [h1, List.length_map, sizeLine_eq]; omega) _ fun n n1 n2 ew => ⟨ns ++ [n], by rw [h1, List.map_append]; rfl, by rw [take_snoc q, h2, ew, List.map_append]; rfl, fun m hm => ?_⟩
      rcases List.mem_append.mp hm with z | z
      · exact h3 m z
      · have : m = n := by simpa using z
        omega
  · rw [List.length_map, List.take_length] at h2
    rw [h1]
    exact hk ns h2 h3
theorem fr_inj3 {b c : Int} {ps qs ws vs : List Int} (h : frT b ps ws = frT c qs vs) : b = c ∧ ps = qs ∧ ws = vs := by
  injection h with h
  injection h with h1 h2
  injection h1 with h1
  injection h2 with h2 h3
  injection h2 with h2
  injection h3 with h3 h4
  injection h3 with h3
  exact ⟨h1, (List.map_inj_right (fun x y e => by injection e)).mp h2, (List.map_inj_right (fun x y e => by injection e)).mp h3⟩
theorem dt_frI (n : Int) (ns ms : List Int) : dt (frT n ns ms) = true := by
  have h : ∀ l : List Int, dt (.lst (l.map .int)) = true := fun l => by
    rw [dt]
    refine dts_iff.mpr fun t ht => ?_
    obtain ⟨i, _, rfl⟩ := List.mem_map.mp ht
    rfl
  show dt (.tup [.int n, .lst (ns.map .int), .lst (ms.map .int)]) = true
  rw [dt]
  refine dts_iff.mpr fun t ht => ?_
  simp only [List.mem_cons, List.not_mem_nil, or_false] at ht
  rcases ht with rfl | rfl | rfl
  · rfl
  · exact h ns
  · exact h ms
theorem szs_frI {n : Int} {ns ms : List Int} (h1 : ns.length ≤ 1000) (h2 : ms.length ≤ 1000) : szs (frT n ns ms) := fun t ht us e => by
  have ht : t ∈ [Tr.int n, .lst (ns.map .int), .lst (ms.map .int)] := ht
  simp only [List.mem_cons, List.not_mem_nil, or_false] at ht
  rcases ht with rfl | rfl | rfl
  · cases e
  · cases e; rw [List.length_map]; exact h1
  · cases e; rw [List.length_map]; exact h2
def isS : Tr → Bool
  | .str _ => true
  | _ => false
def S_read_frame : VSp := fun ds k x => ∃ t : Tr, ds = [.t t] ∧ ((∃ z : Str, t = .str z ∧ z.length ≤ 600 ∧ (∀ b ps ws, OkF b ps ws → z = wr b ps ws → k (frT b ps ws)) ∧ (¬ RdP z → x "NoText")) ∨ (isS t = false ∧ dt t = true ∧ x "NoText"))
theorem S_read_frame.len : ∀ ds k x, S_read_frame ds k x → ds.length = 1 := fun ds k x ⟨_, e, _⟩ => by rw [e]; rfl
theorem i_read_frame {z : Str} {k : Tr → Prop} {x : VL.XK} (q : ∀ b ps ws, OkF b ps ws → z = wr b ps ws → k (frT b ps ws)) (q2 : ¬ RdP z → x "NoText") (h1 : z.length ≤ 600) : S_read_frame [.t (.str z)] k x := ⟨_, rfl, .inl ⟨z, rfl, h1, q, q2⟩⟩
theorem i_read_frame0 {t : Tr} {k : Tr → Prop} {x : VL.XK} (q : x "NoText") (h1 : isS t = false) (h2 : dt t = true) : S_read_frame [.t t] k x := ⟨_, rfl, .inr ⟨h1, h2, q⟩⟩
local macro_rules | `(tactic| walk_at "vl call") => `(tactic| first | with_reducible apply i_read_frame | with_reducible apply i_read_frame0)
def u_read_frame : VS :=
  (vSeq (vIfS (vtNot (vtB (vCB (fIsi "str") (vaCons (vVar 0) (vaCons (vC (.ty "str")) vaNil)))))
  (vRaise "NoText")
  vNext)
  (vSeq (vSet 1 (vSplit (vVar 0) (vC (.str ":"))))
  (vSeq (vIfS (vtB (vOp fNeD (vCB fLen (vaCons (vVar 1) vaNil)) (vC (.int 3))))
  (vRaise "NoText")
  vNext)
  (vSeq (vSet 2 (vCall S_read_word (vaCons (vOp fIdx (vVar 1) (vC (.int 0))) vaNil)))
  (vSeq (vSet 3 (vLcX (viL (vSplit (vOp fIdx (vVar 1) (vC (.int 1))) (vC (.str "+")))) (vgName 5) vtYes (vCall S_read_word (vaCons (vVar 5) vaNil)) [5]))
  (vSeq (vSet 4 (vLcX (viL (vSplit (vOp fIdx (vVar 1) (vC (.int 2))) (vC (.str " ")))) (vgName 5) vtYes (vCall S_read_word (vaCons (vVar 5) vaNil)) [5]))
  (vSeq (vIfS (vtNot (vtB (vCall S_is_frame (vaCons (vTup (vaCons (vVar 2) (vaCons (vVar 3) (vaCons (vVar 4) vaNil)))) vaNil))))
  (vRaise "NoText")
  vNext)
  (vSeq (vRet (vTup (vaCons (vVar 2) (vaCons (vVar 3) (vaCons (vVar 4) vaNil))))) vNext))))))))

theorem w_read_frame : MeetsX 1 N_read_frame S_read_frame u_read_frame 0 := by
  rintro ds k x hl ⟨t, rfl, ⟨z, rfl, hz, hk, hx⟩ | ⟨ht, hdt, hx⟩⟩
  · unfold u_read_frame
    have hz1 : z.length + 2 ≤ sizeLine := by rw [sizeLine_eq]; omega
    have l3 := split_len (x := z) lits.1 lits2.1
    walk_at "vl"
    · exact hz1
    · by_cases hn : (Txt.split z (Str.ofString ":")).length = 3
      · obtain ⟨a, b, c, h3⟩ : ∃ a b c, Txt.split z (Str.ofString ":") = [a, b, c] := by
          match Txt.split z (Str.ofString ":"), hn with
          | [a, b, c], _ => exact ⟨a, b, c, rfl⟩
        rw [h3] at l3 ⊢
        have za := l3.2 a (by simp)
        have zb := l3.2 b (by simp)
        have zc := l3.2 c (by simp)
        obtain ⟨lb1, lb2⟩ := split_len (x := b) lits.2.1 lits2.2.1
        obtain ⟨lc1, lc2⟩ := split_len (x := c) lits.2.2 lits2.2.2
        have hw := rd_words h3
        walk_at "vl"
        · intro n ok1 n1 n2 ea
          walk_at "vl"
          · rw [sizeLine_eq]; omega
          · walk_at "vl"
            refine lc_rdx (ws := Txt.split b (Str.ofString "+")) (by omega) (fun i w acc hm hz I hI => ?_) fun ns eb hns => ?_
            · walk_at "vl"
              · exact fun n _ n1 n2 ew => ⟨_, rfl, hz, hI n n1 n2 ew⟩
              · exact fun no => hx fun q => by rw [(hw q).2.1 w hm] at no; cases no
              · have := lb2 w hm; omega
            · walk_at "vl"
              · rw [sizeLine_eq]; omega
              · walk_at "vl"
                refine lc_rdx (ws := Txt.split c (Str.ofString " ")) (by omega) (fun i w acc hm hz I hI => ?_) fun ms ec hms => ?_
                · walk_at "vl"
                  · exact fun n _ n1 n2 ew => ⟨_, rfl, hz, hI n n1 n2 ew⟩
                  · exact fun no => hx fun q => by rw [(hw q).2.2 w hm] at no; cases no
                  · have := lc2 w hm; omega
                · walk_at "vl"
                  · show (isF (frT n ns ms) = true → _) ∧ (isF (frT n ns ms) = false → _)
                    cases hF : isF (frT n ns ms) with
                    | true =>
                      obtain ⟨b', ps, ws, e, hf⟩ := isF_some hF
                      obtain ⟨r1, r2, r3⟩ := fr_inj3 e
                      refine ⟨fun _ => ?_, fun q => (by cases q)⟩
                      walk_at "vl"
                      exact hk n ns ms (by rw [r1, r2, r3]; exact hf) (rd_put h3 ea eb ec)
                    | false =>
                      refine ⟨fun q => (by cases q), fun _ => ?_⟩
                      walk_at "vl"
                      exact hx fun q => by
                        have := isF_ok (rd_same h3 ea ⟨n1, n2⟩ eb hns ec hms q)
                        rw [hF] at this; cases this
                  · show dt (frT n ns ms) = true
                    exact dt_frI n ns ms
                  · show szs (frT n ns ms)
                    exact szs_frI (by have := congrArg List.length eb; rw [List.length_map] at this; omega) (by have := congrArg List.length ec; rw [List.length_map] at this; omega)
        · exact fun no => hx fun q => by rw [(hw q).1] at no; cases no
        · omega
      · walk_at "vl"
        exact hx fun ⟨b, ps, ws, hf, e⟩ => hn (by rw [e, split3 hf]; rfl)
  · unfold u_read_frame
    cases t <;> first | (cases ht; done) | (walk_at "vl"; exact hx) | (simp [dt] at hdt; done)
-- CUT
def S_show_frame : VSp := fun ds k x => ∃ t : Tr, ds = [.t t] ∧ dt t = true ∧ szs t ∧ (∀ b ps ws, t = frT b ps ws → OkF b ps ws → k (.str (wr b ps ws))) ∧ (isF t = false → x "NoFrame")
theorem S_show_frame.len : ∀ ds k x, S_show_frame ds k x → ds.length = 1 := fun ds k x ⟨_, e, _⟩ => by rw [e]; rfl
theorem i_show_frame {t : Tr} {k : Tr → Prop} {x : VL.XK} (q : ∀ b ps ws, t = frT b ps ws → OkF b ps ws → k (.str (wr b ps ws))) (q2 : isF t = false → x "NoFrame") (h1 : dt t = true) (h2 : szs t) : S_show_frame [.t t] k x := ⟨t, rfl, h1, h2, q, q2⟩
local macro_rules | `(tactic| walk_at "vl call") => `(tactic| with_reducible apply i_show_frame)
def u_show_frame : VS :=
  (vSeq (vIfS (vtNot (vtB (vCall S_is_frame (vaCons (vVar 0) vaNil))))
  (vRaise "NoFrame")
  vNext)
  (vSeq (vSet 1 (vJoin (vC (.str "+")) (vLc (viL (vOp fIdx (vVar 0) (vC (.int 1)))) (vgName 2) vtYes (vCB fStrI (vaCons (vVar 2) vaNil)) [2])))
  (vRet (vOp fAdd (vOp fAdd (vOp fAdd (vOp fAdd (vCB fStrI (vaCons (vOp fIdx (vVar 0) (vC (.int 0))) vaNil)) (vC (.str ":"))) (vVar 1)) (vC (.str ":"))) (vJoin (vC (.str " ")) (vLc (viL (vOp fIdx (vVar 0) (vC (.int 2)))) (vgName 3) vtYes (vCB fStrI (vaCons (vVar 3) vaNil)) [3]))))))

theorem w_show_frame : MeetsX 1 N_show_frame S_show_frame u_show_frame 0 := by
  rintro ds k x hl ⟨t, rfl, hd, hs, hk, hx⟩
  unfold u_show_frame
  cases hF : isF t with
  | false =>
    walk_at "vl"
    · rw [hF]
      walk_at "vl"
      exact hx hF
    · exact hd
    · exact hs
  | true =>
    obtain ⟨b, ps, ws, rfl, h1⟩ := isF_some hF
    have hk := hk b ps ws rfl h1
    have hp := okF_ps h1
    have hw := okF_ws h1
    have hpl := h1.p2
    have hwl := okF_len h1
    have l1 := P_len hp lit_len.2.1
    have l2 := P_len hw lit_len.2.2
    have lp := len_le hp
    have lw := len_le hw
    have hb : -9 ≤ b ∧ b ≤ 16 := by have := h1.b1; have := h1.b2; omega
    have lb : (ts b).length ≤ 2 := by obtain ⟨k, rfl⟩ := nK_of hb.1 hb.2; exact (ts_len k).1
    have lc := lit_len
    have lb : (Str.ofString (toString b)).length ≤ 2 := lb
    walk_at "vl"
    · rw [hF]
      walk_at "vl"
      · refine lc_ts (by omega) (fun i n acc hn hz I hI => ?_) ?_
        · walk_at "vl"
          · exact ⟨hz, hI⟩
          · exact log_ok (hp n hn)
        · refine st_join rfl rfl (by rw [List.length_map, lc.2.1]; omega) ?_
          walk_at "vl"
          · refine lc_ts (by omega) (fun i n acc hn hz I hI => ?_) ?_
            · walk_at "vl"
              · exact ⟨hz, hI⟩
              · exact log_ok (hw n hn)
            · refine st_join rfl rfl (by rw [List.length_map, lc.2.2]; omega) ?_
              walk_at "vl"
              · exact hk
              all_goals first | (simp only [app_len]; rw [sizeLine_eq]; omega) | (rw [sizeLine_eq]; omega)
          all_goals first | exact log_ok hb | (simp only [app_len]; rw [sizeLine_eq]; omega) | (rw [sizeLine_eq]; omega)
    · exact hd
    · exact hs
def S_law_written : VSp := fun ds k _ => ∃ (b : Int) (ps ws : List Int), ds = [.t (frT b ps ws)] ∧ (OkF b ps ws) ∧ k (.str (wr b ps ws))
theorem S_law_written.len : ∀ ds k x, S_law_written ds k x → ds.length = 1 := fun ds k x ⟨_, _, _, e, _⟩ => by rw [e]; rfl
theorem i_law_written {b : Int} {ps ws : List Int} {k : Tr → Prop} {x : VL.XK} (q : k (.str (wr b ps ws))) (h1 : OkF b ps ws) : S_law_written [.t (frT b ps ws)] k x := ⟨b, ps, ws, rfl, h1, q⟩
local macro_rules | `(tactic| walk_at "vl call") => `(tactic| ((with_reducible apply i_law_written)))
def u_law_written : VS :=
  (vSeq (vSet 1 (vJoin (vC (.str "+")) (vLc (viL (vOp fIdx (vVar 0) (vC (.int 1)))) (vgName 2) vtYes (vCB fStrI (vaCons (vVar 2) vaNil)) [2])))
  (vRet (vOp fAdd (vOp fAdd (vOp fAdd (vOp fAdd (vCB fStrI (vaCons (vOp fIdx (vVar 0) (vC (.int 0))) vaNil)) (vC (.str ":"))) (vVar 1)) (vC (.str ":"))) (vJoin (vC (.str " ")) (vLc (viL (vOp fIdx (vVar 0) (vC (.int 2)))) (vgName 3) vtYes (vCB fStrI (vaCons (vVar 3) vaNil)) [3])))))

theorem w_law_written : Meets 1 N_law_written S_law_written u_law_written 0 := by
  rintro ds k x hl ⟨b, ps, ws, rfl, h1, hk⟩
  unfold u_law_written
  have hp := okF_ps h1
  have hw := okF_ws h1
  have hpl := h1.p2
  have hwl := okF_len h1
  have l1 := P_len hp lit_len.2.1
  have l2 := P_len hw lit_len.2.2
  have lp := len_le hp
  have lw := len_le hw
  have hb : -9 ≤ b ∧ b ≤ 16 := by have := h1.b1; have := h1.b2; omega
  have lb : (ts b).length ≤ 2 := by obtain ⟨k, rfl⟩ := nK_of hb.1 hb.2; exact (ts_len k).1
  have lc := lit_len
  have lb : (Str.ofString (toString b)).length ≤ 2 := lb
  walk_at "vl"
  · refine lc_ts (by omega) (fun i n acc hn hz I hI => ?_) ?_
    · walk_at "vl"
      · exact ⟨hz, hI⟩
      · exact log_ok (hp n hn)
    · refine st_join rfl rfl (by rw [List.length_map, lc.2.1]; omega) ?_
      walk_at "vl"
      · refine lc_ts (by omega) (fun i n acc hn hz I hI => ?_) ?_
        · walk_at "vl"
          · exact ⟨hz, hI⟩
          · exact log_ok (hw n hn)
        · refine st_join rfl rfl (by rw [List.length_map, lc.2.2]; omega) ?_
          walk_at "vl"
          · exact hk
          all_goals first | (simp only [app_len]; rw [sizeLine_eq]; omega) | (rw [sizeLine_eq]; omega)
      all_goals first | exact log_ok hb | (simp only [app_len]; rw [sizeLine_eq]; omega) | (rw [sizeLine_eq]; omega)
  all_goals first | exact h1
-- CUT
def S_law_cell : VSp := fun ds k _ => ∃ (i : Int) (ns : List Int), ds = [.t (.scr ns), .t (.int i)] ∧ (0 ≤ i) ∧ (i ≤ 100) ∧ (∀ v : Int, k (.int v))
theorem S_law_cell.len : ∀ ds k x, S_law_cell ds k x → ds.length = 2 := fun ds k x ⟨_, _, e, _⟩ => by rw [e]; rfl
theorem i_law_cell {i : Int} {ns : List Int} {k : Tr → Prop} {x : VL.XK} (q : ∀ v : Int, k (.int v)) (h1 : 0 ≤ i) (h2 : i ≤ 100) : S_law_cell [.t (.scr ns), .t (.int i)] k x := ⟨i, ns, rfl, h1, h2, q⟩
local macro_rules | `(tactic| walk_at "vl call") => `(tactic| ((with_reducible apply i_law_cell); intro _))
def u_law_cell : VS :=
  (vSeq (vIfS (vtB (vOp fLt (vVar 1) (vCB fLen (vaCons (vVar 0) vaNil))))
  (vRet (vOp fIdx (vVar 0) (vVar 1)))
  vNext)
  (vSeq (vRet (vOp fAdd (vOp fAdd (vOp fMul (vOp fMul (vC (.int 113)) (vVar 1)) (vVar 1)) (vOp fMul (vC (.int 101)) (vVar 1))) (vC (.int 24)))) vNext))

theorem w_law_cell : Meets 2 N_law_cell S_law_cell u_law_cell 0 := by
  rintro ds k x hl ⟨i, ns, rfl, h1, h2, hk⟩
  unfold u_law_cell
  walk_at "vl"
  refine ⟨fun hc => ?_, fun hc => ?_⟩
  · have hc : i < ns.length := by simpa using hc
    walk_at "vl"
    · exact hk _
    all_goals first | omega | (rw [List.length_map]; omega)
  · walk_at "vl"
    · exact hk _
    all_goals first | exact .inl (.inl ⟨by omega, by omega⟩) | exact .inl (.inr ⟨by omega, by omega⟩)
def S_law_mixed : VSp := fun ds k _ => ∃ (c i : Int), ds = [.t (.int c), .t (.int i)] ∧ (0 ≤ i) ∧ (i ≤ 100) ∧ (∀ v : Int, k (.int v))
theorem S_law_mixed.len : ∀ ds k x, S_law_mixed ds k x → ds.length = 2 := fun ds k x ⟨_, _, e, _⟩ => by rw [e]; rfl
theorem i_law_mixed {c i : Int} {k : Tr → Prop} {x : VL.XK} (q : ∀ v : Int, k (.int v)) (h1 : 0 ≤ i) (h2 : i ≤ 100) : S_law_mixed [.t (.int c), .t (.int i)] k x := ⟨c, i, rfl, h1, h2, q⟩
local macro_rules | `(tactic| walk_at "vl call") => `(tactic| ((with_reducible apply i_law_mixed); intro _))
def u_law_mixed : VS :=
  (vSeq (vSet 2 (vOp fMod (vOp fAdd (vOp fAdd (vOp fAdd (vOp fMul (vVar 0) (vC (.int 48271))) (vOp fMul (vOp fMul (vC (.int 7919)) (vVar 1)) (vVar 1))) (vOp fMul (vC (.int 104729)) (vVar 1))) (vC (.int 11))) (vC (.int 2147483647))))
  (vSeq (vSet 3 (vLst (vaCons (vC (.int 2147483629)) (vaCons (vC (.int 2147483587)) (vaCons (vC (.int 2147483579)) (vaCons (vC (.int 2147483563)) (vaCons (vC (.int 2147483549)) (vaCons (vC (.int 2147483543)) (vaCons (vC (.int 2147483497)) vaNil)))))))))
  (vSeq (vSet 2 (vOp fMod (vOp fMul (vVar 2) (vVar 2)) (vOp fIdx (vVar 3) (vOp fMod (vVar 1) (vC (.int 7))))))
  (vRet (vOp fDiv (vOp fAdd (vOp fMul (vVar 2) (vC (.int 16811))) (vOp fMod (vVar 0) (vC (.int 5)))) (vC (.int 8)))))))

theorem w_law_mixed : Meets 2 N_law_mixed S_law_mixed u_law_mixed 0 := by
  rintro ds k x hl ⟨c, i, rfl, h1, h2, hk⟩
  unfold u_law_mixed
  walk_at "vl"
  · intro t ht
    obtain ⟨p, rfl, p1⟩ : ∃ p : Int, t = .int p ∧ 0 < p := by
      simp only [List.mem_cons, List.not_mem_nil, or_false] at ht
      rcases ht with rfl | rfl | rfl | rfl | rfl | rfl | rfl <;> exact ⟨_, rfl, by decide⟩
    walk_at "vl"
    · exact hk _
    all_goals first | decide | exact p1 | exact cdw (by decide) (by decide) | exact .inl (.inr ⟨by omega, by omega⟩)
  all_goals first | decide | omega | exact .inl (.inl ⟨by omega, by omega⟩) | exact .inl (.inr ⟨by omega, by omega⟩) | (simp; omega)
-- CUT
def S_law_frame : VSp := fun ds k _ => ∃ (c most : Int), ds = [.t (.int c), .t (.int most)] ∧ (1 ≤ most) ∧ (most ≤ 6) ∧ (∀ (b : Int) (ps ws : List Int), OkF b ps ws → k (frT b ps ws))
theorem S_law_frame.len : ∀ ds k x, S_law_frame ds k x → ds.length = 2 := fun ds k x ⟨_, _, e, _⟩ => by rw [e]; rfl
theorem i_law_frame {c most : Int} {k : Tr → Prop} {x : VL.XK} (q : ∀ (b : Int) (ps ws : List Int), OkF b ps ws → k (frT b ps ws)) (h1 : 1 ≤ most) (h2 : most ≤ 6) : S_law_frame [.t (.int c), .t (.int most)] k x := ⟨c, most, rfl, h1, h2, q⟩
local macro_rules | `(tactic| walk_at "vl call") => `(tactic| ((with_reducible apply i_law_frame); intro _ _ _ _))
def u_law_frame : VS :=
  (vSeq (vSet 2 (vOp fAdd (vC (.int 2)) (vOp fMod (vVar 0) (vC (.int 15)))))
  (vSeq (vSet 3 (vLc (viR1 (vOp fAdd (vC (.int 2)) (vOp fMod (vOp fDiv (vVar 0) (vC (.int 15))) (vC (.int 3))))) (vgName 6) vtYes (vOp fAdd (vC (.int 1)) (vOp fMod (vCall S_law_mixed (vaCons (vVar 0) (vaCons (vVar 6) vaNil))) (vVar 1))) [6]))
  (vSeq (vIfS (vtB (vOp fEqD (vOp fMod (vOp fDiv (vVar 0) (vC (.int 45))) (vC (.int 3))) (vC (.int 1))))
  (vSet 3 (vOp fMul (vLst (vaCons (vOp fIdx (vVar 3) (vC (.int 0))) vaNil)) (vCB fLen (vaCons (vVar 3) vaNil))))
  vNext)
  (vSeq (vSet 4 (vOp fMod (vOp fDiv (vVar 0) (vC (.int 135))) (vC (.int 5))))
  (vSeq (vNewL 5 0 vaNil)
  (vSeq (vFor (viR1 (vCB fSum (vaCons (vVar 3) vaNil))) (vgName 6)
  (vSeq (vSet 7 (vCall S_law_mixed (vaCons (vVar 0) (vaCons (vOp fAdd (vC (.int 10)) (vVar 6)) vaNil))))
  (vApp (vVar 5) (vOp fIdx (vLst (vaCons (vC (.int 1)) (vaCons (vOp fMod (vVar 7) (vC (.int 3))) (vaCons (vOp fSub (vOp fMod (vVar 7) (vC (.int 19))) (vC (.int 9))) (vaCons (vOp fMul (vOp fMod (vVar 7) (vC (.int 2))) (vC (.int 9))) (vaCons (vOp fIdx (vLst (vaCons (vC (.int 9)) (vaCons (vNeg (vC (.int 9))) vaNil))) (vOp fMod (vVar 7) (vC (.int 2)))) vaNil)))))) (vVar 4)))))
  (vFrz 0 (vRet (vTup (vaCons (vVar 2) (vaCons (vVar 3) (vaCons (vVar 5) vaNil))))))))))))

theorem w_law_frame : Meets 2 N_law_frame S_law_frame u_law_frame 1 := by
  rintro ds k x hl ⟨c, most, rfl, h1, h2, hk⟩
  unfold u_law_frame
  walk_at "vl"
  · refine lc_all (fun _ y => ∃ p : Int, y = .int p ∧ 1 ≤ p ∧ p ≤ 6) (by rw [rng_len, sizeLine_eq]; omega) (fun i t acc e hz I hI => ?_) fun acc hl ha => ?_
    · obtain ⟨hi, rfl⟩ := rng_get e
      walk_at "vl"
      · rename_i v
        have e1 := Int.emod_nonneg v (b := most) (by omega)
        have e2 := Int.emod_lt_of_pos v (b := most) (by omega)
        exact ⟨hz, hI _ ⟨_, rfl, by omega, by omega⟩⟩
      all_goals first | omega | decide
    · obtain ⟨ps, rfl, hp⟩ := ints_all ha
      rw [List.length_map, rng_len] at hl
      walk_at "vl"
      · refine br_joinN (fun G m => ∃ ps : List Int, 2 ≤ ps.length ∧ ps.length ≤ 4 ∧ (∀ p ∈ ps, 1 ≤ p ∧ p ≤ 6) ∧ G = [some (.t (.int c)), some (.t (.int most)), some (.t (.int (2 + c % 15))), some (.t (.lst (ps.map .int))), none, none, none, none] ∧ m = [none]) ?_ ?_ ?_
        · rintro G' m' ⟨ps, q1, q2, q3, rfl, rfl⟩
          have hsum := sum_bounds q3
          walk_at "vl"
          · refine fr_inv (fun i G m => ∃ (ws : List Int) (o6 o7 : Option Dv), ws.length = i ∧ (∀ w ∈ ws, -9 ≤ w ∧ w ≤ 9) ∧ G = [some (.t (.int c)), some (.t (.int most)), some (.t (.int (2 + c % 15))), some (.t (.lst (ps.map .int))), some (.t (.int (c / 135 % 5))), some (.loc 0), o6, o7] ∧ m = [some (.lst (ws.map .int))]) ⟨[], none, none, rfl, (fun w h => by cases h), rfl, rfl⟩ ?_ ?_
            · rintro i t G' m' e ⟨ws, o6, o7, hw, hwb, rfl, rfl⟩
              obtain ⟨hi, rfl⟩ := rng_get e
              walk_at "vl"
              · rename_i y
                intro t ht
                obtain ⟨v, rfl, v1, v2⟩ : ∃ p : Int, t = .int p ∧ -9 ≤ p ∧ p ≤ 9 := by
                  have ht : t ∈ [Tr.int 9, Tr.int (-9)] := ht
                  simp only [List.mem_cons, List.not_mem_nil, or_false] at ht
                  rcases ht with rfl | rfl <;> exact ⟨_, rfl, by omega, by omega⟩
                walk_at "vl"
                · intro t ht
                  obtain ⟨w, rfl, w1, w2⟩ : ∃ p : Int, t = .int p ∧ -9 ≤ p ∧ p ≤ 9 := by
                    simp only [List.mem_cons, List.not_mem_nil, or_false] at ht
                    rcases ht with rfl | rfl | rfl | rfl | rfl <;> exact ⟨_, rfl, by omega, by omega⟩
                  walk_at "vl"
                  refine an_lt (by rw [List.length_map, sizeLine_eq]; omega) ?_
                  refine ⟨ws ++ [w], _, _, by rw [List.length_append, hw]; rfl, ?_, rfl, by rw [List.map_append]; rfl⟩
                  intro z hz
                  rcases List.mem_append.mp hz with h | h
                  · exact hwb z h
                  · have : z = w := by simpa using h
                    omega
                all_goals first | omega | decide | (simp; omega) | exact .inl (.inr ⟨by omega, by omega⟩)
              all_goals first | omega | decide | (simp; omega) | exact .inl (.inr ⟨by omega, by omega⟩)
            · rintro G' m' ⟨ws, o6, o7, hw, hwb, rfl, rfl⟩
              rw [rng_len] at hw
              walk_at "vl"
              exact hk _ ps ws ⟨by omega, by omega, q1, q2, q3, by omega, hwb⟩
          all_goals first | omega | decide | exact cdw (by decide) (by decide)
        · intro hr hc
          have hp0 : 1 ≤ ps.getD (Int.toNat 0) 0 ∧ ps.getD (Int.toNat 0) 0 ≤ 6 := by
            cases ps with
            | nil => simp at hl; omega
            | cons p r => exact hp p List.mem_cons_self
          walk_at "vl1"
          · refine hr _ _ ⟨_, ?_, ?_, ?_, rfl, rfl⟩
            · rw [List.length_replicate, List.length_map]; omega
            · rw [List.length_replicate, List.length_map]; omega
            · intro p hpm
              have := List.eq_of_mem_replicate hpm
              rw [this]; exact hp0
          all_goals first | omega | (rw [List.length_map]; omega)
        · intro hc
          exact ⟨ps, by omega, by omega, hp, rfl, rfl⟩
      all_goals first | omega | decide | exact cdw (by decide) (by decide)
  all_goals first | omega | decide | exact cdw (by decide) (by decide)
-- CUT
/-! ### the law's own reading of a word -/
theorem digs_ge : ∀ (l : List Nat) (a : Nat), a ≤ l.foldl (fun acc c => acc * 10 + (c - 48)) a
  | [], a => Nat.le_refl a
  | c :: r, a => by
    rw [List.foldl_cons]
    exact Nat.le_trans (by omega) (digs_ge r _)
theorem digs_100 {l : List Nat} (h : l.all dig = true) (h1 : 3 ≤ l.length) (h2 : l.head? ≠ some 48) : 100 ≤ NumText.digitsVal l := by
  match l, h1 with
  | a :: b :: c :: r, _ =>
    have ha : dig a = true := List.all_eq_true.mp h a (by simp)
    have ha : 48 ≤ a ∧ a ≤ 57 := of_decide_eq_true ha
    have hne : a ≠ 48 := fun z => h2 (by rw [z]; rfl)
    unfold NumText.digitsVal
    rw [List.foldl_cons, List.foldl_cons, List.foldl_cons]
    refine Nat.le_trans ?_ (digs_ge r _)
    omega
theorem all_digits {l : List Nat} (h : l.all dig = true) : NumText.AllDigits l := fun c hc => of_decide_eq_true (List.all_eq_true.mp h c hc)
theorem tw_self {p : Nat → Bool} : ∀ {l : List Nat}, (∀ c ∈ l, p c = true) → l.takeWhile p = l
  | [], _ => rfl
  | c :: r, h => by rw [List.takeWhile_cons, if_pos (h c List.mem_cons_self), tw_self fun d hd => h d (List.mem_cons_of_mem _ hd)]
theorem tw_all {p : Nat → Bool} : ∀ {l : List Nat}, l.takeWhile p = l → ∀ c ∈ l, p c = true
  | [], _, c, h => by cases h
  | a :: r, h, c, hc => by
    rw [List.takeWhile_cons] at h
    cases q : p a with
    | false => rw [if_neg (by rw [q]; decide)] at h; cases h
    | true =>
      rw [if_pos q] at h
      rcases List.mem_cons.mp hc with e | hc
      · rw [e]; exact q
      · exact tw_all (List.cons.inj h).2 c hc
theorem cps_x : TL.tl (Str.ofString "x") = [120] := by decide +kernel
/-- "x" + figures, its figures taken off at the ends, is "x" -/
theorem strip_x (f : Str) : decide (Txt.stripChars (Str.ofString "x" ++ f) (Str.ofString "0123456789") = Str.ofString "x") = (TL.tl f).all dig := by
  have hx : (Str.ofString "x" ++ f).cps.toList = 120 :: TL.tl f := by
    have := TL.tl_append (Str.ofString "x") f
    rw [cps_x] at this
    exact this
  have hg : ∀ c, (Str.ofString "0123456789").cps.contains c = dig c := fun c => by
    rw [← fig_dig c]
    simp
  have hgf : (fun c => (Str.ofString "0123456789").cps.contains c) = dig := funext hg
  have e0 : PySem.stripLo (fun c => (Str.ofString "0123456789").cps.contains c) true (Str.ofString "x" ++ f) = 0 := by
    unfold PySem.stripLo
    rw [if_pos rfl, hx, List.takeWhile_cons, if_neg (by rw [hg]; decide)]; rfl
  have hl : (Str.ofString "x" ++ f).length = (TL.tl f).length + 1 := by rw [TL.len_tl]; show (Str.ofString "x" ++ f).cps.toList.length = _; rw [hx]; rfl
  have e1 : PySem.stripHi (fun c => (Str.ofString "0123456789").cps.contains c) true (Str.ofString "x" ++ f) 0 = (TL.tl f).length + 1 - ((TL.tl f).reverse.takeWhile dig).length := by
    unfold PySem.stripHi
    rw [if_pos rfl, hl, List.drop_zero, hx, List.reverse_cons, hgf]
    congr 2
    rw [List.takeWhile_append]
    split
    · rename_i q
      have e : [120].takeWhile dig = [] := by decide
      rw [e, List.append_nil]
      exact (List.takeWhile_sublist _).eq_of_length q |>.symm ▸ rfl
    · rfl
  have key : TL.tl (Txt.stripChars (Str.ofString "x" ++ f) (Str.ofString "0123456789")) = (120 :: TL.tl f).take ((TL.tl f).length + 1 - ((TL.tl f).reverse.takeWhile dig).length) := by
    unfold Txt.stripChars Txt.stripBy PySem.stripSame PySem.stripped
    have e0' : PySem.stripLo (Str.ofString "0123456789").cps.contains true (Str.ofString "x" ++ f) = 0 := e0
    have e1' : PySem.stripHi (Str.ofString "0123456789").cps.contains true (Str.ofString "x" ++ f) 0 = _ := e1
    rw [e0', e1', hl]
    split
    · rename_i q
      have q : (TL.tl f).length + 1 - ((TL.tl f).reverse.takeWhile dig).length = (TL.tl f).length + 1 := by simpa using q
      rw [q]
      show (Str.ofString "x" ++ f).cps.toList = _
      rw [hx, List.take_of_length_le (by simp)]
    · rw [TL.tl_strSub, List.drop_zero, Nat.sub_zero]
      show List.take _ (Str.ofString "x" ++ f).cps.toList = _
      rw [hx]
  have hle : ((TL.tl f).reverse.takeWhile dig).length ≤ (TL.tl f).length := by
    have := (List.takeWhile_sublist dig (l := (TL.tl f).reverse)).length_le
    rwa [List.length_reverse] at this
  cases ha : (TL.tl f).all dig with
  | true =>
    have e : (TL.tl f).reverse.takeWhile dig = (TL.tl f).reverse := tw_self fun c hc => List.all_eq_true.mp ha c (List.mem_reverse.mp hc)
    refine decide_eq_true (TL.ext_tl ?_)
    rw [key, e, cps_x, List.length_reverse]
    have : (TL.tl f).length + 1 - (TL.tl f).length = 1 := by omega
    rw [this]; rfl
  | false =>
    refine decide_eq_false fun z => ?_
    have z := congrArg TL.tl z
    rw [key, cps_x] at z
    have z := congrArg List.length z
    rw [List.length_take, List.length_cons] at z
    have hlt : ((TL.tl f).reverse.takeWhile dig).length = (TL.tl f).length := by
      simp only [List.length_cons, List.length_nil] at z
      omega
    have e : (TL.tl f).reverse.takeWhile dig = (TL.tl f).reverse := (List.takeWhile_sublist _).eq_of_length (by rw [hlt, List.length_reverse])
    have : (TL.tl f).all dig = true := List.all_eq_true.mpr fun c hc => tw_all e c (List.mem_reverse.mpr hc)
    rw [ha] at this; cases this
/-- what the law's own reading tells of a word -/
def NW (w : Str) (v : Option Int) : Prop := (okL (TL.tl w) = true → ∃ n : Int, v = some n ∧ w = ts n ∧ -99 ≤ n ∧ n ≤ 99) ∧ (okL (TL.tl w) = false → ∀ n, v = some n → n < -99 ∨ 99 < n)
def oT : Option Int → Tr
  | none => .non
  | some n => .int n
theorem nw_none {w : Str} (h : okL (TL.tl w) = false) : NW w none := ⟨fun q => (by rw [h] at q; cases q), fun _ n e => (by cases e)⟩
theorem fg_nil (w : Str) : decide (fgW w = Str.ofString "") = decide ((fgL (TL.tl w)).length = 0) := by
  have e0 : TL.tl (Str.ofString "") = [] := by decide +kernel
  by_cases h : fgW w = Str.ofString ""
  · rw [decide_eq_true h, decide_eq_true (by rw [← tl_fg, h, e0]; rfl)]
  · rw [decide_eq_false h, decide_eq_false fun z => h (TL.ext_tl (by rw [tl_fg, e0]; exact List.length_eq_zero_iff.mp z))]
theorem fg_if (w : Str) : cutS w (some (if decide (cutS w none (some 1) = Str.ofString "-") = true then 1 else 0)) none = fgW w := by
  unfold fgW
  by_cases h : cutS w none (some 1) = Str.ofString "-"
  · rw [if_pos (decide_eq_true h), if_pos h]
  · rw [if_neg (by rw [decide_eq_false h]; decide), if_neg h]
    refine TL.ext_tl ?_
    show ((w.cps.toList.drop _).take _) = _
    have e1 : HT.sIx w.length w.length none = w.length := rfl
    have e2 : HT.sIx w.length 0 (some 0) = 0 := by simp [HT.sIx]
    rw [e1, e2, List.drop_zero, TL.len_tl, Nat.sub_zero, List.take_length]
theorem ok_at (l : List Nat) : okL l = (decide (1 ≤ (fgL l).length) && (decide ((fgL l).length ≤ 2) && ((fgL l).all dig && (!decide (l = [45, 48]) && !(decide (1 < (fgL l).length) && decide ((fgL l).head? = some 48)))))) := rfl
theorem long_val {w : Str} (hz : w.length ≤ 600) (h3 : (fgL (TL.tl w)).all dig = true) (hl : 3 ≤ (fgL (TL.tl w)).length) (h5 : (fgL (TL.tl w)).head? ≠ some 48) : ∃ n, intText? w = some n ∧ (n < -99 ∨ 99 < n) := by
  have hv := digs_100 h3 hl h5
  have hne : fgL (TL.tl w) ≠ [] := fun z => by rw [z] at hl; simp at hl
  by_cases hm : (TL.tl w).take 1 = [45]
  · have ef : fgL (TL.tl w) = (TL.tl w).drop 1 := by unfold fgL; rw [if_pos hm]
    have et : w.cps.toList = 45 :: fgL (TL.tl w) := by rw [ef]; exact (List.take_append_drop 1 (TL.tl w)).symm.trans (by rw [hm]; rfl)
    exact ⟨_, PySem.intText_neg et (all_digits h3) hne (by omega), .inl (by omega)⟩
  · have ef : fgL (TL.tl w) = TL.tl w := by unfold fgL; rw [if_neg hm]
    rw [ef] at h3 hv hne
    exact ⟨_, PySem.intText_digits (all_digits h3) hne (by omega), .inr (by
      have hv : 100 ≤ NumText.digitsVal w.cps.toList := hv
      omega)⟩
def S_law_number : VSp := fun ds k _ => ∃ w : Str, ds = [.t (.str w)] ∧ w.length ≤ 600 ∧ (∀ v, NW w v → k (oT v))
theorem S_law_number.len : ∀ ds k x, S_law_number ds k x → ds.length = 1 := fun ds k x ⟨_, e, _⟩ => by rw [e]; rfl
theorem i_law_number {w : Str} {k : Tr → Prop} {x : VL.XK} (q : ∀ v, NW w v → k (oT v)) (h1 : w.length ≤ 600) : S_law_number [.t (.str w)] k x := ⟨w, rfl, h1, q⟩
local macro_rules | `(tactic| walk_at "vl more") => `(tactic| ((with_reducible apply st_strip); rfl; rfl))
local macro_rules | `(tactic| walk_at "vl call") => `(tactic| with_reducible apply i_law_number)
def u_law_number : VS :=
  (vSeq (vSet 1 (vSl fSlc (vVar 0) (voS (vCB fInt (vaCons (vOp fEqZ (vSl fSlc (vVar 0) voN (voS (vC (.int 1)))) (vC (.str "-"))) vaNil))) voN))
  (vSeq (vIfS (vtOr (vtB (vOp fEqZ (vVar 1) (vC (.str "")))) (vtOr (vtB (vOp fNeZ (vStrip (vOp fAdd (vC (.str "x")) (vVar 1)) (vC (.str "0123456789"))) (vC (.str "x")))) (vtB (vOp fEqZ (vVar 0) (vC (.str "-0"))))))
  (vRet (vC .non))
  vNext)
  (vSeq (vIfS (vtAnd (vtB (vOp fGt (vCB fLen (vaCons (vVar 1) vaNil)) (vC (.int 1)))) (vtB (vOp fEqZ (vOp fIdx (vVar 1) (vC (.int 0))) (vC (.str "0")))))
  (vRet (vC .non))
  vNext)
  (vSeq (vRet (vCB fIntS (vaCons (vVar 0) vaNil))) vNext))))

theorem w_law_number : Meets 1 N_law_number S_law_number u_law_number 0 := by
  rintro ds k x hl ⟨w, rfl, hz, hk⟩
  unfold u_law_number
  have hz1 : w.length ≤ sizeLine := by rw [sizeLine_eq]; omega
  have hfl : (fgW w).length = (fgL (TL.tl w)).length := by rw [TL.len_tl, tl_fg]
  have hall : (fgW w).cps.toList = fgL (TL.tl w) := tl_fg w
  have hno : ∀ {c : Bool}, okL (TL.tl w) = c → c = false → NW w none := fun e h => nw_none (by rw [e, h])
  walk_at "vl"
  · rw [fg_if, fg_nil]
    have hz2 : (fgW w).length ≤ sizeLine := by
      have : (fgW w).length ≤ w.length := by
        unfold fgW
        split
        · exact cutS_length _ _ _
        · exact Nat.le_refl _
      omega
    cases c0 : decide ((fgL (TL.tl w)).length = 0) with
    | true =>
      have c0 := of_decide_eq_true c0
      walk_at "vl"
      exact hk none (hno (ok_at _) (by rw [c0]; rfl))
    | false =>
      have c0 := of_decide_eq_false c0
      have hxz : (Str.ofString "x").length + (fgW w).length ≤ sizeLine := by
        have : (Str.ofString "x").length = 1 := by decide +kernel
        rw [sizeLine_eq] at hz2 ⊢
        have : (fgW w).length ≤ w.length := by
          unfold fgW
          split
          · exact cutS_length _ _ _
          · exact Nat.le_refl _
        omega
      walk_at "vl"
      · rw [app_len]; exact hxz
      · walk_at "vl"
        rw [strip_x, tl_fg]
        cases c3 : (fgL (TL.tl w)).all dig with
        | false =>
          walk_at "vl"
          exact hk none (hno (ok_at _) (by rw [c3]; simp))
        | true =>
          walk_at "vl"
          rw [lit_m0]
          cases c4 : decide (TL.tl w = [45, 48]) with
          | true =>
            walk_at "vl"
            exact hk none (hno (ok_at _) (by rw [c4]; simp))
          | false =>
            have fin : (fgL (TL.tl w)).head? ≠ some 48 ∨ (fgL (TL.tl w)).length ≤ 1 → ∃ v n, intText? w = some n ∧ NW w v ∧ v = some n := fun h => by
              by_cases h2 : (fgL (TL.tl w)).length ≤ 2
              · have hk1 : okL (TL.tl w) = true := by
                  rw [ok_at, c3, c4, decide_eq_true h2, decide_eq_true (by omega)]
                  rcases h with h | h
                  · rw [decide_eq_false h]; simp
                  · rw [decide_eq_false (by omega : ¬ 1 < (fgL (TL.tl w)).length)]; rfl
                obtain ⟨n, n1, n2, ew, ei⟩ := okL_ts hk1
                exact ⟨some n, n, ei, ⟨fun _ => ⟨n, rfl, ew, n1, n2⟩, fun q => by rw [hk1] at q; cases q⟩, rfl⟩
              · have h5 : (fgL (TL.tl w)).head? ≠ some 48 := h.elim (fun z => z) fun z => absurd z (by omega)
                obtain ⟨n, ei, hn⟩ := long_val hz c3 (by omega) h5
                exact ⟨some n, n, ei, ⟨fun q => by rw [ok_at, decide_eq_false h2] at q; simp at q, fun _ m e => by cases e; exact hn⟩, rfl⟩
            walk_at "vl"
            · refine ⟨fun hc => ?_, fun hc => ?_⟩
              · have hc : (1 : Int) < ((fgW w).length : Int) := by simpa using hc
                have hc : 1 < (fgW w).length := by omega
                obtain ⟨c, r, hcr⟩ : ∃ c r, (fgW w).cps.toList = c :: r := by
                  cases z : (fgW w).cps.toList with
                  | nil => rw [hall] at z; rw [hfl, z] at hc; simp at hc
                  | cons c r => exact ⟨c, r, rfl⟩
                walk_at "vl"
                refine .inr (.inr (.inr (.inl ⟨_, 0, c, rfl, rfl, hz2, by rw [hcr]; exact at0 c r, ?_⟩)))
                walk_at "vl"
                rw [one_0]
                rw [hall] at hcr
                cases c5 : decide (c = 48) with
                | true =>
                  walk_at "vl"
                  exact hk none (hno (ok_at _) (by rw [hcr, List.head?_cons, decide_eq_true (by rw [← hcr, ← hfl]; exact hc : 1 < (c :: r).length), of_decide_eq_true c5]; simp))
                | false =>
                  walk_at "vl"
                  obtain ⟨v, n, ei, hv, e⟩ := fin (.inl (by rw [hcr, List.head?_cons]; exact fun z => of_decide_eq_false c5 (Option.some.inj z)))
                  subst e
                  exact sp_intS rfl ei (by omega) ⟨_, rfl, hk _ hv⟩
              · have hc : ¬ (1 : Int) < ((fgW w).length : Int) := by simpa using hc
                walk_at "vl"
                obtain ⟨v, n, ei, hv, e⟩ := fin (.inr (by omega))
                subst e
                exact sp_intS rfl ei (by omega) ⟨_, rfl, hk _ hv⟩
            all_goals exact hz2
      · exact hxz
  all_goals exact hz1
-- CUT
theorem lc_nw {ws : List Str} {B : List Tr → Prop} {A : Nat → Tr → List Tr → (Nat → List Tr → Prop) → Prop} (hz : ws.length ≤ 1000)
    (hs : ∀ (i : Nat) (w : Str) acc, w ∈ ws → acc.length < sizeLine → ∀ I : Nat → List Tr → Prop, (∀ v, NW w v → I (i + 1) (acc ++ [oT v])) → A i (.str w) acc I)
    (hk : ∀ vs : List (Option Int), vs.length = ws.length → (∀ (i : Nat) w v, ws[i]? = some w → vs[i]? = some v → NW w v) → B (vs.map oT)) :
    ∃ I : Nat → List Tr → Prop, I 0 [] ∧ (∀ (i : Nat) t acc, (ws.map Tr.str)[i]? = some t → I i acc → A i t acc I) ∧ ∀ acc, I (ws.map Tr.str).length acc → B acc := by
  refine ⟨fun i acc => ∃ vs : List (Option Int), acc = vs.map oT ∧ vs.length = i ∧ ∀ (j : Nat) w v, ws[j]? = some w → vs[j]? = some v → NW w v, ⟨[], rfl, rfl, fun j w v _ h => by simp at h⟩, fun i t acc e ⟨vs, h1, h2, h3⟩ => ?_, fun acc ⟨vs, h1, h2, h3⟩ => ?_⟩
  · rw [List.getElem?_map] at e
    cases q : ws[i]? with
    | none => rw [q] at e; cases e
    | some w =>
      rw [q] at e
      have e : Tr.str w = t := Option.some.inj e
      subst e
      have hi := (List.getElem?_eq_some_iff.mp q).1
      refine hs i w acc (mem_at q) (by rw [h1, List.length_map, sizeLine_eq]; omega) _ fun v hv => ⟨vs ++ [v], by rw [h1, List.map_append]; rfl, by rw [List.length_append, h2]; rfl, fun j w' v' e1 e2 => ?_⟩
      by_cases hj : j < vs.length
      · rw [List.getElem?_append_left hj] at e2
        exact h3 j w' v' e1 e2
      · rw [List.getElem?_append_right (by omega)] at e2
        have hj2 : j - vs.length = 0 := by
          cases z : j - vs.length with
          | zero => rfl
          | succ n => rw [z] at e2; simp at e2
        rw [hj2] at e2
        have e2 : v = v' := by simpa using e2
        have : j = i := by omega
        rw [this, q] at e1
        cases e1
        rw [← e2]; exact hv
  · rw [h1]
    exact hk vs (by rw [h2, List.length_map]) h3
theorem nw_in {w : Str} {n : Int} (h : NW w (some n)) (h1 : -99 ≤ n ∧ n ≤ 99) : w = ts n := by
  cases q : okL (TL.tl w) with
  | true =>
    obtain ⟨m, e, ew, _⟩ := h.1 q
    cases e
    exact ew
  | false =>
    have := h.2 q n rfl
    omega
theorem nw_ts {n : Int} {v : Option Int} (h : NW (ts n) v) (hn : -9 ≤ n ∧ n ≤ 16) : v = some n := by
  obtain ⟨m, e, ew, hm⟩ := h.1 (ts_ok hn)
  rw [e, ts_inj99 (by omega) hm ew]
theorem nw_list {ws : List Str} {vs : List (Option Int)} {ns : List Int} (hl : vs.length = ws.length) (h : ∀ (i : Nat) w v, ws[i]? = some w → vs[i]? = some v → NW w v) (e : ws = ns.map ts) (hn : ∀ n ∈ ns, -9 ≤ n ∧ n ≤ 16) : vs = ns.map some := by
  refine List.ext_getElem? fun i => ?_
  rw [List.getElem?_map]
  subst e
  cases q : ns[i]? with
  | none =>
    have := List.getElem?_eq_none_iff.mp q
    exact List.getElem?_eq_none (by rw [hl, List.length_map]; exact this)
  | some n =>
    have hi := (List.getElem?_eq_some_iff.mp q).1
    have hv : vs[i]? = some (vs[i]'(by rw [hl, List.length_map]; exact hi)) := List.getElem?_eq_getElem _
    rw [hv]
    exact congrArg some (nw_ts (h i (ts n) _ (by rw [List.getElem?_map, q]; rfl) hv) (hn n (mem_at q)))
theorem nw_back {ws : List Str} {ns : List Int} (hl : (ns.map some).length = ws.length) (h : ∀ (i : Nat) w v, ws[i]? = some w → (ns.map some)[i]? = some v → NW w v) (hn : ∀ n ∈ ns, -99 ≤ n ∧ n ≤ 99) : ws = ns.map ts := by
  refine List.ext_getElem? fun i => ?_
  rw [List.getElem?_map]
  cases q : ns[i]? with
  | none =>
    have := List.getElem?_eq_none_iff.mp q
    exact List.getElem?_eq_none (by rw [← hl, List.length_map]; exact this)
  | some n =>
    have hi := (List.getElem?_eq_some_iff.mp q).1
    have hw : ws[i]? = some (ws[i]'(by rw [← hl, List.length_map]; exact hi)) := List.getElem?_eq_getElem _
    rw [hw]
    exact congrArg some (nw_in (h i _ (some n) hw (by rw [List.getElem?_map, q]; rfl)) (hn n (mem_at q)))
theorem nw_rd {z a b c : Str} {v0 : Option Int} {vs us : List (Option Int)} (h3 : Txt.split z (Str.ofString ":") = [a, b, c]) (h0 : NW a v0) (lv : vs.length = (Txt.split b (Str.ofString "+")).length)
    (hv : ∀ (i : Nat) w v, (Txt.split b (Str.ofString "+"))[i]? = some w → vs[i]? = some v → NW w v) (lu : us.length = (Txt.split c (Str.ofString " ")).length) (hu : ∀ (i : Nat) w v, (Txt.split c (Str.ofString " "))[i]? = some w → us[i]? = some v → NW w v)
    (h : RdP z) : ∃ n ns ms, v0 = some n ∧ vs = ns.map some ∧ us = ms.map some ∧ OkF n ns ms := by
  obtain ⟨n, ps, ws, hf, e⟩ := h
  obtain ⟨s1, s2, e3, e1, e2⟩ := rd_cut hf e
  rw [h3] at e3
  have q1 := (List.cons.inj e3).1
  have q2 := (List.cons.inj (List.cons.inj e3).2).1
  have q3 := (List.cons.inj (List.cons.inj (List.cons.inj e3).2).2).1
  rw [← q2] at e1
  rw [← q3] at e2
  have hb : -9 ≤ n ∧ n ≤ 16 := by have := hf.b1; have := hf.b2; omega
  rw [q1] at h0
  exact ⟨n, ps, ws, nw_ts h0 hb, nw_list lv hv e1 (okF_ps hf), nw_list lu hu e2 (okF_ws hf), hf⟩
theorem nw_wr {z a b c : Str} {n : Int} {ns ms : List Int} (h3 : Txt.split z (Str.ofString ":") = [a, b, c]) (h0 : NW a (some n)) (lv : (ns.map some).length = (Txt.split b (Str.ofString "+")).length)
    (hv : ∀ (i : Nat) w v, (Txt.split b (Str.ofString "+"))[i]? = some w → (ns.map some)[i]? = some v → NW w v) (lu : (ms.map some).length = (Txt.split c (Str.ofString " ")).length) (hu : ∀ (i : Nat) w v, (Txt.split c (Str.ofString " "))[i]? = some w → (ms.map some)[i]? = some v → NW w v)
    (hf : OkF n ns ms) : RdP z :=
  ⟨n, ns, ms, hf, rd_put h3 (nw_in h0 (by have := hf.b1; have := hf.b2; omega)) (nw_back lv hv fun m hm => by have := okF_ps hf m hm; omega) (nw_back lu hu fun m hm => by have := okF_ws hf m hm; omega)⟩
theorem sp_inO {m : Sto} {d e : Dv} {k : DK} {vs : List (Option Int)} (h1 : view m d = some .non) (h2 : view m e = some (.lst (vs.map oT))) (q : k (.t (.bl (vs.any Option.isNone)))) : fIn' m d e k := by
  refine .inl ⟨.non, vs.map oT, h1, .inl h2, rfl, ?_, ?_⟩
  · rw [List.all_eq_true]
    intro t ht
    obtain ⟨v, _, rfl⟩ := List.mem_map.mp ht
    cases v <;> rfl
  · have e : (vs.map oT).any (fun y => flatEq y .non) = vs.any Option.isNone := by
      rw [List.any_map]
      congr 1
      funext v
      cases v <;> rfl
    show k (.t (.bl ((vs.map oT).any fun y => flatEq y .non)))
    rw [e]; exact q
theorem all_some : ∀ {vs : List (Option Int)}, vs.any Option.isNone = false → ∃ ns : List Int, vs = ns.map some
  | [], _ => ⟨[], rfl⟩
  | none :: r, h => by simp at h
  | some n :: r, h => by
    obtain ⟨ns, e⟩ := all_some (vs := r) (by simpa using h)
    exact ⟨n :: ns, by rw [e]; rfl⟩
theorem no_none {ns : List Int} : (ns.map some).any Option.isNone = false := by
  induction ns with
  | nil => rfl
  | cons n r ih => simpa using ih
theorem oT_some (ns : List Int) : (ns.map some).map oT = ns.map Tr.int := by rw [List.map_map]; rfl
def S_law_writes : VSp := fun ds k _ => ∃ z : Str, ds = [.t (.str z)] ∧ z.length ≤ 590 ∧ (∀ c : Bool, (c = true → RdP z) → (c = false → ¬ RdP z) → k (.bl c))
theorem S_law_writes.len : ∀ ds k x, S_law_writes ds k x → ds.length = 1 := fun ds k x ⟨_, e, _⟩ => by rw [e]; rfl
theorem i_law_writes {z : Str} {k : Tr → Prop} {x : VL.XK} (q : ∀ c : Bool, (c = true → RdP z) → (c = false → ¬ RdP z) → k (.bl c)) (h1 : z.length ≤ 590) : S_law_writes [.t (.str z)] k x := ⟨z, rfl, h1, q⟩
local macro_rules | `(tactic| walk_at "vl call") => `(tactic| with_reducible apply i_law_writes)
def u_law_writes : VS :=
  (vSeq (vSet 1 (vSplit (vVar 0) (vC (.str ":"))))
  (vSeq (vIfS (vtB (vOp fNeD (vCB fLen (vaCons (vVar 1) vaNil)) (vC (.int 3))))
  (vRet (vC (.bl false)))
  vNext)
  (vSeq (vSet 2 (vCall S_law_number (vaCons (vOp fIdx (vVar 1) (vC (.int 0))) vaNil)))
  (vSeq (vSet 3 (vLc (viL (vSplit (vOp fIdx (vVar 1) (vC (.int 1))) (vC (.str "+")))) (vgName 5) vtYes (vCall S_law_number (vaCons (vVar 5) vaNil)) [5]))
  (vSeq (vSet 4 (vLc (viL (vSplit (vOp fIdx (vVar 1) (vC (.int 2))) (vC (.str " ")))) (vgName 5) vtYes (vCall S_law_number (vaCons (vVar 5) vaNil)) [5]))
  (vSeq (vIfS (vtOr (vtB (vOp fIs (vVar 2) (vC .non))) (vtOr (vtB (vOp fIn' (vC .non) (vVar 3))) (vtB (vOp fIn' (vC .non) (vVar 4)))))
  (vRet (vC (.bl false)))
  vNext)
  (vSeq (vIfS (vtOr (vtNot (vtB (vCh fLe fLe (vC (.int 2)) (vVar 2) (vC (.int 16))))) (vtNot (vtB (vCh fLe fLe (vC (.int 2)) (vCB fLen (vaCons (vVar 3) vaNil)) (vC (.int 4))))))
  (vRet (vC (.bl false)))
  vNext)
  (vSeq (vIfS (vtOr (vtB (vOp fLt (vCB fMin (vaCons (vVar 3) vaNil)) (vC (.int 1)))) (vtOr (vtB (vOp fGt (vCB fMax (vaCons (vVar 3) vaNil)) (vC (.int 6)))) (vtB (vOp fNeD (vCB fLen (vaCons (vVar 4) vaNil)) (vCB fSum (vaCons (vVar 3) vaNil))))))
  (vRet (vC (.bl false)))
  vNext)
  (vSeq (vRet (vAnd (vOp fGe (vCB fMin (vaCons (vVar 4) vaNil)) (vNeg (vC (.int 9)))) (vOp fLe (vCB fMax (vaCons (vVar 4) vaNil)) (vC (.int 9))))) vNext)))))))))

theorem w_law_writes : Meets 1 N_law_writes S_law_writes u_law_writes 0 := by
  rintro ds k x hl ⟨z, rfl, hz, hk⟩
  unfold u_law_writes
  have hz1 : z.length + 2 ≤ sizeLine := by rw [sizeLine_eq]; omega
  have l3 := split_len (x := z) lits.1 lits2.1
  walk_at "vl"
  · exact hz1
  · by_cases hn : (Txt.split z (Str.ofString ":")).length = 3
    · obtain ⟨a, b, c, h3⟩ : ∃ a b c, Txt.split z (Str.ofString ":") = [a, b, c] := by
        match Txt.split z (Str.ofString ":"), hn with
        | [a, b, c], _ => exact ⟨a, b, c, rfl⟩
      rw [h3] at l3 ⊢
      have za := l3.2 a (by simp)
      have zb := l3.2 b (by simp)
      have zc := l3.2 c (by simp)
      obtain ⟨lb1, lb2⟩ := split_len (x := b) lits.2.1 lits2.2.1
      obtain ⟨lc1, lc2⟩ := split_len (x := c) lits.2.2 lits2.2.2
      have hw := rd_words h3
      walk_at "vl"
      · intro v0 hv0
        walk_at "vl"
        · rw [sizeLine_eq]; omega
        · walk_at "vl"
          refine lc_nw (ws := Txt.split b (Str.ofString "+")) (by omega) (fun i w acc hm hz I hI => ?_) fun vs lv hvs => ?_
          · walk_at "vl"
            · exact fun v hv => ⟨_, rfl, hz, hI v hv⟩
            · have := lb2 w hm; omega
          · walk_at "vl"
            · rw [sizeLine_eq]; omega
            · walk_at "vl"
              refine lc_nw (ws := Txt.split c (Str.ofString " ")) (by omega) (fun i w acc hm hz I hI => ?_) fun us lu hus => ?_
              · walk_at "vl"
                · exact fun v hv => ⟨_, rfl, hz, hI v hv⟩
                · have := lc2 w hm; omega
              · walk_at "vl"
                · have no : (∀ n ns ms, v0 = some n → vs = ns.map some → us = ms.map some → ¬ OkF n ns ms) → k (.bl false) := fun h => hk false (fun q => by cases q) fun _ q => by
                    obtain ⟨n, ns, ms, q1, q2, q3, q4⟩ := nw_rd h3 hv0 lv hvs lu hus q
                    exact h n ns ms q1 q2 q3 q4
                  cases v0 with
                  | none =>
                    rw [show oT none = Tr.non from rfl, show Tr.non.isN = true from rfl]
                    walk_at "vl"
                    exact no fun n ns ms e _ _ _ => by cases e
                  | some n =>
                    rw [show oT (some n) = Tr.int n from rfl, show (Tr.int n).isN = false from rfl]
                    walk_at "vl"
                    refine sp_inO rfl rfl ?_
                    cases hN : vs.any Option.isNone with
                    | true =>
                      walk_at "vl"
                      exact no fun n ns ms _ e _ _ => by rw [e, no_none] at hN; cases hN
                    | false =>
                      obtain ⟨ns, rfl⟩ := all_some hN
                      walk_at "vl"
                      refine sp_inO rfl rfl ?_
                      cases hM : us.any Option.isNone with
                      | true =>
                        walk_at "vl"
                        exact no fun n ns ms _ _ e _ => by rw [e, no_none] at hM; cases hM
                      | false =>
                        obtain ⟨ms, rfl⟩ := all_some hM
                        rw [oT_some, oT_some]
                        have no2 : ¬ OkF n ns ms → k (.bl false) := fun h => no fun n' ns' ms' e1 e2 e3 h' => h (by
                          have e2 := (List.map_inj_right (fun x y e => Option.some.inj e)).mp e2
                          have e3 := (List.map_inj_right (fun x y e => Option.some.inj e)).mp e3
                          rw [Option.some.inj e1, e2, e3]; exact h')
                        have hns : 0 < ns.length := by
                          rw [List.length_map] at lv
                          rw [lv]; exact List.length_pos_iff.mpr (split_ne lits.2.1 lits2.2.1)
                        have hms : 0 < ms.length := by
                          rw [List.length_map] at lu
                          rw [lu]; exact List.length_pos_iff.mpr (split_ne lits.2.2 lits2.2.2)
                        obtain ⟨mn1, mn2⟩ := mnI_ok hns
                        obtain ⟨mx1, mx2⟩ := mxI_ok hns
                        obtain ⟨mn3, mn4⟩ := mnI_ok hms
                        obtain ⟨mx3, mx4⟩ := mxI_ok hms
                        by_cases c1 : 2 ≤ n
                        · by_cases c2 : n ≤ 16
                          · by_cases c3 : 2 ≤ ns.length
                            · by_cases c4 : ns.length ≤ 4
                              · by_cases d1 : mnI ns < 1
                                · walk_at "vl"
                                  · exact no2 fun h => by have := (h.p3 _ mn1).1; omega
                                  all_goals first | exact hns | (rw [List.length_map]; omega)
                                · by_cases d2 : 6 < mxI ns
                                  · walk_at "vl"
                                    · exact no2 fun h => by have := (h.p3 _ mx1).2; omega
                                    all_goals first | exact hns | (rw [List.length_map]; omega)
                                  · by_cases d3 : (ms.length : Int) = ns.sum
                                    · walk_at "vl"
                                      · by_cases d4 : -9 ≤ mnI ms
                                        · walk_at "vl"
                                          · refine hk _ (fun q => ?_) fun q => ?_
                                            · have q := of_decide_eq_true q
                                              exact nw_wr h3 hv0 lv hvs lu hus ⟨c1, c2, c3, c4, fun p hp => by have := mn2 p hp; have := mx2 p hp; omega, d3, fun w hw => by have := mn4 w hw; have := mx4 w hw; omega⟩
                                            · have q := of_decide_eq_false q
                                              intro hr
                                              obtain ⟨n', ns', ms', e1, e2, e3, h'⟩ := nw_rd h3 hv0 lv hvs lu hus hr
                                              have e3 := (List.map_inj_right (fun x y e => Option.some.inj e)).mp e3
                                              rw [e3] at mx3 q
                                              exact q (h'.w2 _ mx3).2
                                          all_goals exact hms
                                        · walk_at "vl"
                                          exact no2 fun h => d4 (h.w2 _ mn3).1
                                      all_goals first | exact hns | exact hms | (rw [List.length_map]; omega)
                                    · walk_at "vl"
                                      · exact no2 fun h => d3 h.w1
                                      all_goals first | exact hns | (rw [List.length_map]; omega)
                              · walk_at "vl"
                                · exact no2 fun h => c4 h.p2
                                all_goals first | (rw [List.length_map]; omega)
                            · walk_at "vl"
                              · exact no2 fun h => c3 h.p1
                              all_goals first | (rw [List.length_map]; omega)
                          · walk_at "vl"
                            exact no2 fun h => c2 h.b2
                        · walk_at "vl"
                          exact no2 fun h => c1 h.b1
      · omega
    · walk_at "vl"
      exact hk false (fun q => by cases q) fun _ ⟨b, ps, ws, hf, e⟩ => hn (by rw [e, split3 hf]; rfl)
-- CUT
/-! ### texts as the law draws them -/
def okZ : Tr → Bool
  | .str z => decide (z.length ≤ 500)
  | _ => false
theorem okZ_some {t : Tr} (h : okZ t = true) : ∃ z, t = .str z ∧ z.length ≤ 500 := by
  cases t with
  | str z => exact ⟨z, rfl, of_decide_eq_true h⟩
  | _ => cases h
def S_law_odd : VSp := fun ds k _ => ∃ (c : Int), ds = [.t (.int c)] ∧ (0 ≤ c) ∧ ((∀ t, okZ t = true → k (t)))
theorem S_law_odd.len : ∀ ds k x, S_law_odd ds k x → ds.length = 1 := fun ds k x ⟨_, e, _⟩ => by rw [e]; rfl
theorem i_law_odd {c : Int} {k : Tr → Prop} {x : VL.XK} (q : (∀ t, okZ t = true → k (t))) (h1 : 0 ≤ c) : S_law_odd [.t (.int c)] k x := ⟨c, rfl, h1, q⟩
local macro_rules | `(tactic| walk_at "vl call") => `(tactic| ((with_reducible apply i_law_odd); intro _ _))
def u_law_odd : VS :=
  (vSeq (vSet 1 (vLst (vaCons (vC (.str "")) (vaCons (vC (.str " ")) (vaCons (vC (.str ":")) (vaCons (vC (.str "::")) (vaCons (vC (.str "10:1+1:1 1")) (vaCons (vC (.str "10:1+1:1")) vaNil))))))))
  (vSeq (vSet 1 (vOp fAdd (vVar 1) (vLst (vaCons (vC (.str "10:1+1:1 1 1")) (vaCons (vC (.str "10:1+1:1  1")) (vaCons (vC (.str "10:1+1: 1 1")) (vaCons (vC (.str "10:1+1:1 1 ")) (vaCons (vC (.str " 10:1+1:1 1")) vaNil))))))))
  (vSeq (vSet 1 (vOp fAdd (vVar 1) (vLst (vaCons (vC (.str "10 :1+1:1 1")) (vaCons (vC (.str "10:1 + 1:1 1")) (vaCons (vC (.str "10:1+1 :1 1")) (vaCons (vC (.str "1:1+1:1 1")) (vaCons (vC (.str "17:1+1:1 1")) vaNil))))))))
  (vSeq (vSet 1 (vOp fAdd (vVar 1) (vLst (vaCons (vC (.str "16:1+1:1 1")) (vaCons (vC (.str "2:1+1:1 1")) (vaCons (vC (.str "02:1+1:1 1")) (vaCons (vC (.str "-2:1+1:1 1")) vaNil)))))))
  (vSeq (vSet 1 (vOp fAdd (vVar 1) (vLst (vaCons (vC (.str "10:2:1 1")) (vaCons (vC (.str "10:1+0:1")) (vaCons (vC (.str "10:0+1:1")) (vaCons (vC (.str "10:1+1+1+1:1 1 1 1")) vaNil)))))))
  (vSeq (vSet 1 (vOp fAdd (vVar 1) (vLst (vaCons (vC (.str "10:1+1+1+1+1:1 1 1 1 1")) (vaCons (vC (.str "10:6+1:1 1 1 1 1 1 1")) (vaCons (vC (.str "10:7+1:1 1 1 1 1 1 1 1")) vaNil))))))
  (vSeq (vSet 1 (vOp fAdd (vVar 1) (vLst (vaCons (vC (.str "10:1+1:9 -9")) (vaCons (vC (.str "10:1+1:10 1")) (vaCons (vC (.str "10:1+1:-10 1")) (vaCons (vC (.str "10:1+1:-0 1")) (vaCons (vC (.str "10:1+1:01 1")) vaNil))))))))
  (vSeq (vSet 1 (vOp fAdd (vVar 1) (vLst (vaCons (vC (.str "10:01+1:1 1")) (vaCons (vC (.str "10:1+1:1,1")) (vaCons (vC (.str "10;1+1;1 1")) (vaCons (vC (.str "10:1+1")) vaNil)))))))
  (vSeq (vSet 1 (vOp fAdd (vVar 1) (vLst (vaCons (vC (.str "10:1+1:1 1:")) (vaCons (vC (.str "10:1+1:+1 1")) (vaCons (vC (.str "10:1+-1:1 1")) (vaCons (vC (.str "10:1++1:1 1")) (vaCons (vC (.str "10:+1+1:1 1")) vaNil))))))))
  (vSeq (vSet 1 (vOp fAdd (vVar 1) (vLst (vaCons (vC (.str "10:1+1+:1 1")) (vaCons (vC (.str "10:1+1:1 x")) (vaCons (vC (.str "x:1+1:1 1")) (vaCons (vC (.str "10:x+1:1 1")) vaNil)))))))
  (vSeq (vSet 1 (vOp fAdd (vVar 1) (vLst (vaCons (vC (.str "10:1+1:1 1
")) (vaCons (vC (.str "10:1+1:1	1")) (vaCons (vC (.str "10.0:1+1:1 1")) (vaCons (vC (.str "1_0:1+1:1 1")) (vaCons (vC (.str "10:1+1:--1 1")) vaNil))))))))
  (vSeq (vSet 1 (vOp fAdd (vVar 1) (vLst (vaCons (vC (.str "10:1+1:- 1")) (vaCons (vC (.str "10:1+1:1 -")) (vaCons (vC (.str "100:1+1:1 1")) (vaCons (vC (.str "10:1+1:0 0")) vaNil)))))))
  (vRet (vOp fIdx (vVar 1) (vOp fMod (vVar 0) (vCB fLen (vaCons (vVar 1) vaNil)))))))))))))))))

theorem w_law_odd : Meets 1 N_law_odd S_law_odd u_law_odd 0 := by
  rintro ds k x hl ⟨c, rfl, h1, hk⟩
  unfold u_law_odd
  walk_at "vl"
  · intro t ht
    refine ⟨t, rfl, hk t ?_⟩
    revert t
    rw [← List.all_eq_true]
    decide +kernel
  all_goals first | omega | decide | (simp only [List.length_append, List.length_cons, List.length_nil, sizeLine_eq]; omega)
theorem at_i {α : Type} {l : List α} {i : Int} (h0 : 0 ≤ i) (h1 : i < l.length) : ∃ c, atI l i = some c := by
  refine ⟨l[i.toNat]'(by omega), ?_⟩
  unfold atI ixN
  rw [if_pos h0, if_pos h1]
  exact List.getElem?_eq_getElem _
theorem okZ_of {z : Str} (h : z.length ≤ 500) : okZ (.str z) = true := decide_eq_true h
def S_law_given : VSp := fun ds k _ => ∃ (c : Int), ds = [.t (.int c)] ∧ (0 ≤ c) ∧ ((∀ z : Str, z.length ≤ 500 → k (.str z)))
theorem S_law_given.len : ∀ ds k x, S_law_given ds k x → ds.length = 1 := fun ds k x ⟨_, e, _⟩ => by rw [e]; rfl
theorem i_law_given {c : Int} {k : Tr → Prop} {x : VL.XK} (q : (∀ z : Str, z.length ≤ 500 → k (.str z))) (h1 : 0 ≤ c) : S_law_given [.t (.int c)] k x := ⟨c, rfl, h1, q⟩
local macro_rules | `(tactic| walk_at "vl call") => `(tactic| ((with_reducible apply i_law_given); intro _ _))
def u_law_given : VS :=
  (vSeq (vSet 1 (vOp fMod (vVar 0) (vC (.int 4))))
  (vSeq (vIfS (vtB (vOp fEqD (vVar 1) (vC (.int 0))))
  (vRet (vCall S_law_odd (vaCons (vOp fDiv (vVar 0) (vC (.int 4))) vaNil)))
  vNext)
  (vSeq (vSet 2 (vCall S_law_written (vaCons (vCall S_law_frame (vaCons (vCall S_law_mixed (vaCons (vVar 0) (vaCons (vC (.int 3)) vaNil))) (vaCons (vC (.int 6)) vaNil))) vaNil)))
  (vSeq (vSet 3 (vC (.str " !\"\\#$&'()*+,-./0123456789:;<=>?@ABCDEFGHIJKLMNOPQRSTUVWXYZ[]^_`abcdefghijklmnopqrstuvwxyz{|}~	
")))
  (vSeq (vIfS (vtB (vOp fGt (vOp fMod (vOp fDiv (vVar 0) (vC (.int 4))) (vC (.int 3))) (vC (.int 0))))
  (vSet 3 (vC (.str "0123456789 :+-")))
  vNext)
  (vSeq (vSet 4 (vOp fMod (vOp fDiv (vVar 0) (vC (.int 12))) (vOp fAdd (vCB fLen (vaCons (vVar 2) vaNil)) (vC (.int 1)))))
  (vSeq (vSet 5 (vOp fIdx (vVar 3) (vOp fMod (vOp fDiv (vVar 0) (vC (.int 12000))) (vCB fLen (vaCons (vVar 3) vaNil)))))
  (vSeq (vIfS (vtB (vOp fEqD (vVar 1) (vC (.int 1))))
  (vRet (vOp fAdd (vSl fSlc (vVar 2) voN (voS (vVar 4))) (vSl fSlc (vVar 2) (voS (vOp fAdd (vVar 4) (vC (.int 1)))) voN)))
  vNext)
  (vSeq (vRet (vOp fAdd (vOp fAdd (vSl fSlc (vVar 2) voN (voS (vVar 4))) (vVar 5)) (vSl fSlc (vVar 2) (voS (vOp fAdd (vVar 4) (vCB fInt (vaCons (vOp fEqD (vVar 1) (vC (.int 2))) vaNil)))) voN))) vNext)))))))))

theorem w_law_given : Meets 1 N_law_given S_law_given u_law_given 0 := by
  rintro ds k x hl ⟨c, rfl, h1, hk⟩
  unfold u_law_given
  have hc0 : 0 ≤ c / 4 := Int.ediv_nonneg h1 (by decide)
  have hc1 : 0 ≤ c / 12 := Int.ediv_nonneg h1 (by decide)
  have hc2 : 0 ≤ c / 12000 := Int.ediv_nonneg h1 (by decide)
  by_cases k0 : c % 4 = 0
  · walk_at "vl"
    · rename_i t ht
      obtain ⟨z, rfl, hz⟩ := okZ_some ht
      exact hk z hz
    all_goals first | assumption | omega | decide | exact cdw (by decide) (by decide)
  · walk_at "vl"
    · rename_i b ps ws hf
      have hz := wr_len hf
      generalize wr b ps ws = z at hz
      have hzl : z.length ≤ sizeLine := by rw [sizeLine_eq]; omega
      refine br_joinN (fun G m => ∃ sg : Str, 1 ≤ sg.length ∧ sg.length ≤ 400 ∧ G = [some (.t (.int c)), some (.t (.int (c % 4))), some (.t (.str z)), some (.t (.str sg)), none, none] ∧ m = []) ?_ ?_ ?_
      · rintro G' m' ⟨sg, s1, s2, rfl, rfl⟩
        have hsl : sg.length ≤ sizeLine := by rw [sizeLine_eq]; omega
        walk_at "vl"
        · obtain ⟨sc, hsc⟩ := at_i (l := sg.cps.toList) (i := c / 12000 % (sg.length : Int)) (Int.emod_nonneg _ (by omega)) (by have := Int.emod_lt_of_pos (c / 12000) (b := (sg.length : Int)) (by omega); rw [← TL.len_tl]; exact this)
          refine .inr (.inr (.inr (.inl ⟨_, _, sc, rfl, rfl, hsl, hsc, ?_⟩)))
          have l0 : ∀ l u, (cutS z l u).length ≤ z.length := fun l u => cutS_length z l u
          have l1 : (⟨#[sc]⟩ : Str).length = 1 := rfl
          have app2 : ∀ l u l' u', (cutS z l u ++ cutS z l' u').length ≤ 500 := fun l u l' u' => by rw [app_len]; have := l0 l u; have := l0 l' u'; omega
          have app3 : ∀ l u l' u', (cutS z l u ++ (⟨#[sc]⟩ : Str) ++ cutS z l' u').length ≤ 500 := fun l u l' u' => by rw [app_len, app_len, l1]; have := l0 l u; have := l0 l' u'; omega
          by_cases k1 : c % 4 = 1
          · walk_at "vl"
            · exact hk _ (app2 _ _ _ _)
            all_goals first | exact hzl | (rw [sizeLine_eq]; have := l0 none (some (c / 12 % (z.length + 1))); have := l0 (some (c / 12 % (z.length + 1) + 1)) none; omega)
          · walk_at "vl"
            · exact hk _ (app3 _ _ _ _)
            all_goals first | exact hzl | (rw [app_len, l1, sizeLine_eq]; have := l0 none (some (c / 12 % (z.length + 1))); have := l0 (some (c / 12 % (↑z.length + 1) + if decide (c % 4 = 2) = true then 1 else 0)) none; omega) | (rw [l1, sizeLine_eq]; have := l0 none (some (c / 12 % (z.length + 1))); omega)
        all_goals first | exact hzl | exact hsl | assumption | omega | decide | exact cdw (by decide) (by decide)
      · intro hr hc
        walk_at "vl1"
        exact hr _ _ ⟨_, by decide +kernel, by decide +kernel, rfl, rfl⟩
      · intro hc
        exact ⟨_, by decide +kernel, by decide +kernel, rfl, rfl⟩
    all_goals first | assumption | omega | decide | exact cdw (by decide) (by decide)
-- CUT
def txtR : Tr := .lst [.bl true, .str "text"]
def frmR : Tr := .lst [.bl true, .str "frame"]
def S_law_asked : VSp := fun ds k _ => ∃ (a : Int) (t : Tr), ds = [.t (.int a), .t t] ∧
  ((a = 0 ∧ ∃ z, t = .str z ∧ z.length ≤ 590 ∧ (∀ b ps ws, OkF b ps ws → z = wr b ps ws → k (.lst [.bl false, frT b ps ws])) ∧ (¬ RdP z → k txtR)) ∨ (a = 0 ∧ isS t = false ∧ dt t = true ∧ k txtR) ∨
   (a = 1 ∧ dt t = true ∧ szs t ∧ (∀ b ps ws, t = frT b ps ws → OkF b ps ws → k (.lst [.bl false, .str (wr b ps ws)])) ∧ (isF t = false → k frmR)))
theorem S_law_asked.len : ∀ ds k x, S_law_asked ds k x → ds.length = 2 := fun ds k x ⟨_, _, e, _⟩ => by rw [e]; rfl
theorem i_asked0 {z : Str} {k : Tr → Prop} {x : VL.XK} (q : ∀ b ps ws, OkF b ps ws → z = wr b ps ws → k (.lst [.bl false, frT b ps ws])) (q2 : ¬ RdP z → k txtR) (h1 : z.length ≤ 590) : S_law_asked [.t (.int 0), .t (.str z)] k x := ⟨0, _, rfl, .inl ⟨rfl, z, rfl, h1, q, q2⟩⟩
theorem i_asked1 {t : Tr} {k : Tr → Prop} {x : VL.XK} (q : k txtR) (h1 : isS t = false) (h2 : dt t = true) : S_law_asked [.t (.int 0), .t t] k x := ⟨0, t, rfl, .inr (.inl ⟨rfl, h1, h2, q⟩)⟩
theorem i_asked2 {t : Tr} {k : Tr → Prop} {x : VL.XK} (q : ∀ b ps ws, t = frT b ps ws → OkF b ps ws → k (.lst [.bl false, .str (wr b ps ws)])) (q2 : isF t = false → k frmR) (h1 : dt t = true) (h2 : szs t) : S_law_asked [.t (.int 1), .t t] k x := ⟨1, t, rfl, .inr (.inr ⟨rfl, h1, h2, q, q2⟩)⟩
local macro_rules | `(tactic| walk_at "vl call") => `(tactic| first | with_reducible apply i_asked0 | with_reducible apply i_asked1 | with_reducible apply i_asked2)
def u_law_asked : VS :=
  (vSeq (vNewL 2 0 (vaCons (vC (.bl false)) (vaCons (vC .non) vaNil)))
  (vSeq (vTry (fun nm => xnames.contains nm) 3
  (vIfS (vtB (vOp fEqD (vVar 0) (vC (.int 0))))
  (vSetI (vVar 2) (vC (.int 1)) (vCall S_read_frame (vaCons (vVar 1) vaNil)))
  (vSetI (vVar 2) (vC (.int 1)) (vCall S_show_frame (vaCons (vVar 1) vaNil))))
  (vSeq (vSet 4 (vLst (vaCons (vCB (fIsX xnames xclasses) (vaCons (vVar 3) (vaCons (vC (.cls "NoText")) vaNil))) (vaCons (vCB (fIsX xnames xclasses) (vaCons (vVar 3) (vaCons (vC (.cls "NoFrame")) vaNil))) (vaCons (vCB (fIsV xnames) (vaCons (vVar 3) (vaCons (vC (.ty "ValueError")) vaNil))) vaNil)))))
  (vSeq (vSet 5 (vCB (fIsXT xnames xclasses) (vaCons (vVar 3) (vaCons (vTup (vaCons (vC (.cls "NoEven")) (vaCons (vC (.cls "NoFrames")) (vaCons (vC (.cls "NoMiss")) (vaCons (vC (.cls "NoName")) (vaCons (vC (.cls "NoNumber")) vaNil)))))) vaNil))))
  (vSeq (vSet 5 (vOr (vVar 5) (vCB (fIsXT xnames xclasses) (vaCons (vVar 3) (vaCons (vTup (vaCons (vC (.cls "NoPart")) (vaCons (vC (.cls "NoRow")) (vaCons (vC (.cls "NoSum")) vaNil)))) vaNil)))))
  (vSeq (vNewL 2 0 (vaCons (vC (.bl true)) (vaCons (vC (.str "other")) vaNil)))
  (vIfS (vtAnd (vtB (vOp fIdx (vVar 4) (vC (.int 2)))) (vtAnd (vtNot (vtB (vVar 5))) (vtB (vOp fNeD (vOp fIdx (vVar 4) (vC (.int 0))) (vOp fIdx (vVar 4) (vC (.int 1)))))))
  (vNewL 2 0 (vaCons (vC (.bl true)) (vaCons (vOp fIdx (vLst (vaCons (vC (.str "text")) (vaCons (vC (.str "frame")) vaNil))) (vCB fInt (vaCons (vOp fIdx (vVar 4) (vC (.int 1))) vaNil))) vaNil)))
  vNext))))))
  (vFrz 0 (vRet (vVar 2)))))

theorem w_law_asked : Meets 2 N_law_asked S_law_asked u_law_asked 1 := by
  rintro ds k x hl ⟨a, t, rfl, ⟨rfl, z, rfl, hz, hk, hx⟩ | ⟨rfl, ht, hd, hx⟩ | ⟨rfl, hd, hs, hk, hx⟩⟩
  · unfold u_law_asked
    walk_at "vl"
    · intro b ps ws hf e
      walk_at "vl"
      exact hk b ps ws hf e
    · intro hn
      walk_at "vl"
      refine ⟨fun hc => absurd hc (by decide +kernel), fun _ => ?_⟩
      walk_at "vl"
      refine ⟨fun hc => absurd hc (by decide +kernel), fun _ => ?_⟩
      walk_at "vl"
      refine ⟨Nat.le_of_ble_eq_true rfl, rfl, ?_⟩
      walk_at "vl"
      exact hx hn
    · omega
  · unfold u_law_asked
    walk_at "vl"
    · refine ⟨fun hc => absurd hc (by decide +kernel), fun _ => ?_⟩
      walk_at "vl"
      refine ⟨fun hc => absurd hc (by decide +kernel), fun _ => ?_⟩
      walk_at "vl"
      refine ⟨Nat.le_of_ble_eq_true rfl, rfl, ?_⟩
      walk_at "vl"
      exact hx
    · exact ht
    · exact hd
  · unfold u_law_asked
    walk_at "vl"
    · intro b ps ws e hf
      walk_at "vl"
      exact hk b ps ws e hf
    · intro hn
      walk_at "vl"
      refine ⟨fun hc => absurd hc (by decide +kernel), fun _ => ?_⟩
      walk_at "vl"
      refine ⟨fun hc => absurd hc (by decide +kernel), fun _ => ?_⟩
      walk_at "vl"
      refine ⟨Nat.le_of_ble_eq_true rfl, rfl, ?_⟩
      walk_at "vl"
      exact hx hn
    · exact hd
    · exact hs
-- CUT
/-! ### data that may be told by repr: small things, lists of them, frames of these -/
def Fn (n k : Nat) (t : Tr) : Prop := dt t = true ∧ szs t ∧ Sh n k t
abbrev F0 : Tr → Prop := Fn 60 3
abbrev F1 : Tr → Prop := Fn 3300 5
abbrev F2 : Tr → Prop := Fn 20000 7
theorem Fn.mono {n m k l : Nat} {t : Tr} (h : Fn n k t) (a : n ≤ m := by omega) (b : k ≤ l := by omega) : Fn m l t := ⟨h.1, h.2.1, h.2.2.mono a b⟩
theorem F0.up {t : Tr} (h : F0 t) : F1 t := h.mono
theorem F1.up {t : Tr} (h : F1 t) : F2 t := h.mono
theorem f0_non : F0 .non := ⟨rfl, trivial, sh_non.mono⟩
theorem f0_bl (b : Bool) : F0 (.bl b) := ⟨rfl, trivial, (sh_bl b).mono⟩
theorem f0_int {i : Int} (h1 : -(10 ^ 50) < i) (h2 : i < 10 ^ 50) : F0 (.int i) := ⟨rfl, trivial, (sh_int 50 (by omega)).mono⟩
theorem f0_str {x : Str} (h : (reprText x).length ≤ 60) : F0 (.str x) := ⟨rfl, trivial, (sh_str h).mono⟩
theorem f0_dic : F0 (.dic []) := ⟨rfl, trivial, sh_dic0.mono⟩
theorem szs_mem {ts : List Tr} (h : ∀ t ∈ ts, szs t) : ∀ t ∈ ts, ∀ us, t = .lst us → us.length ≤ 1000 := fun t ht us e => by
  have := h t ht
  subst e
  exact this
theorem f0_lst1 {t : Tr} (h : Fn 50 2 t) : F0 (.lst [t]) := ⟨by rw [dt]; exact dts_iff.mpr (by simpa using h.1), Nat.le_of_ble_eq_true rfl, (sh_lst (shl_cons h.2.2 (shl_nil.mono (m := 0) (l := 2)))).mono⟩
theorem f0_tup1 {t : Tr} (h : Fn 50 2 t) : F0 (.tup [t]) := by
  refine ⟨by rw [dt]; exact dts_iff.mpr (by simpa using h.1), szs_mem fun x hx => ?_, (sh_tup (shl_cons h.2.2 (shl_nil.mono (m := 0) (l := 2)))).mono⟩
  have : x = t := by simpa using hx
  subst this
  exact h.2.1
theorem fe_int {i : Int} (h1 : -(10 ^ 30) < i) (h2 : i < 10 ^ 30) : Fn 50 2 (.int i) := ⟨rfl, trivial, (sh_int 30 (by omega)).mono⟩
/-- a list of small things -/
theorem f1_lst {ts : List Tr} (h : ∀ t ∈ ts, F0 t) (hz : ts.length ≤ 50) : F1 (.lst ts) := ⟨by rw [dt]; exact dts_iff.mpr fun t ht => (h t ht).1, Nat.le_trans hz (by decide), (sh_lst (shl_all fun t ht => (h t ht).2.2)).mono (by have := Nat.mul_le_mul_right 62 hz; omega) (by omega)⟩
theorem f1_tup {ts : List Tr} (h : ∀ t ∈ ts, F0 t) (hz : ts.length ≤ 50) : F1 (.tup ts) := ⟨by rw [dt]; exact dts_iff.mpr fun t ht => (h t ht).1, szs_mem fun t ht => (h t ht).2.1, (sh_tup (shl_all fun t ht => (h t ht).2.2)).mono (by have := Nat.mul_le_mul_right 62 hz; omega) (by omega)⟩
theorem f1_one {ts : List Tr} (h : ∀ t ∈ ts, F0 t) (hz : ts.length ≤ 50) : F1 (.lst [.lst ts]) := by
  have q : Sh 3103 4 (.lst ts) := (sh_lst (shl_all fun t ht => (h t ht).2.2)).mono (by have := Nat.mul_le_mul_right 62 hz; omega) (by omega)
  have d : dts ts = true := dts_iff.mpr fun t ht => (h t ht).1
  exact ⟨by simp [dt, dts, d], Nat.le_of_ble_eq_true rfl, (sh_lst (shl_cons q (shl_nil.mono (m := 0) (l := 4)))).mono⟩
theorem f2_tup {ts : List Tr} (h : ∀ t ∈ ts, F1 t) (hz : ts.length ≤ 5) : F2 (.tup ts) := ⟨by rw [dt]; exact dts_iff.mpr fun t ht => (h t ht).1, szs_mem fun t ht => (h t ht).2.1, (sh_tup (shl_all fun t ht => (h t ht).2.2)).mono (by have := Nat.mul_le_mul_right 3302 hz; omega) (by omega)⟩
theorem f2_lst {ts : List Tr} (h : ∀ t ∈ ts, F1 t) (hz : ts.length ≤ 5) : F2 (.lst ts) := ⟨by rw [dt]; exact dts_iff.mpr fun t ht => (h t ht).1, Nat.le_trans hz (by decide), (sh_lst (shl_all fun t ht => (h t ht).2.2)).mono (by have := Nat.mul_le_mul_right 3302 hz; omega) (by omega)⟩
theorem f0_ints {ns : List Int} (h : ∀ n ∈ ns, -(10 ^ 50) < n ∧ n < 10 ^ 50) : ∀ t ∈ ns.map Tr.int, F0 t := fun t ht => by
  obtain ⟨n, hn, rfl⟩ := List.mem_map.mp ht
  exact f0_int (h n hn).1 (h n hn).2
theorem f1_ints {ns : List Int} (h : ∀ n ∈ ns, -(10 ^ 50) < n ∧ n < 10 ^ 50) (hz : ns.length ≤ 50) : F1 (.lst (ns.map .int)) := f1_lst (f0_ints h) (by rw [List.length_map]; exact hz)
theorem OkF.pb {b : Int} {ps ws : List Int} (h : OkF b ps ws) : ∀ n ∈ ps, -(10 ^ 50) < n ∧ n < 10 ^ 50 := fun n hn => by have := h.p3 n hn; omega
theorem OkF.wb {b : Int} {ps ws : List Int} (h : OkF b ps ws) : ∀ n ∈ ws, -(10 ^ 50) < n ∧ n < 10 ^ 50 := fun n hn => by have := h.w2 n hn; omega
theorem OkF.wl {b : Int} {ps ws : List Int} (h : OkF b ps ws) : ws.length ≤ 24 := by have := h.sum; have := h.w1; omega
theorem f2_fr {b : Int} {ps ws : List Int} (h : OkF b ps ws) : F2 (frT b ps ws) := f2_tup (fun t ht => by
  simp only [List.mem_cons, List.not_mem_nil, or_false] at ht
  have := h.b1
  have := h.b2
  rcases ht with rfl | rfl | rfl
  · exact (f0_int (by omega) (by omega)).up
  · exact f1_ints h.pb (by have := h.p2; omega)
  · exact f1_ints h.wb (by have := h.wl; omega)) (by simp)
/-- three things, one of them otherwise -/
theorem f2_3 {a b c : Tr} (ha : F1 a) (hb : F1 b) (hc : F1 c) : F2 (.tup [a, b, c]) := f2_tup (fun t ht => by
  simp only [List.mem_cons, List.not_mem_nil, or_false] at ht
  rcases ht with rfl | rfl | rfl <;> assumption) (by simp)
theorem cutG_mem {α : Type} {ts : List α} {l u : Option Int} {t : α} (h : t ∈ cutG ts l u) : t ∈ ts := by
  unfold cutG at h
  first | exact List.mem_of_mem_drop (List.mem_of_mem_take h) | exact List.mem_of_mem_take (List.mem_of_mem_drop h)
theorem cutG_len {ts : List Tr} {l u : Option Int} : (cutG ts l u).length ≤ ts.length := by
  unfold cutG
  simp only [List.length_take, List.length_drop]
  omega
-- CUT
theorem bent_ok {row : List Tr} {odd : Tr} (h : ∀ t ∈ row, F0 t) (ho : F0 odd) {ts : List Tr} (hm : ∀ t ∈ ts, t ∈ row ∨ t = odd) (hz : ts.length ≤ 50) : F1 (.lst ts) := f1_lst (fun t ht => by
  rcases hm t ht with q | q
  · exact h t q
  · rw [q]; exact ho) hz
theorem mo_app {row : List Tr} {odd : Tr} {a b : List Tr} (ha : ∀ t ∈ a, t ∈ row ∨ t = odd) (hb : ∀ t ∈ b, t ∈ row ∨ t = odd) : ∀ t ∈ a ++ b, t ∈ row ∨ t = odd := fun t ht => (List.mem_append.mp ht).elim (ha t) (hb t)
theorem mo_cut {row : List Tr} {odd : Tr} {l u : Option Int} : ∀ t ∈ cutG row l u, t ∈ row ∨ t = odd := fun t ht => .inl (cutG_mem ht)
theorem mo_rev {row : List Tr} {odd : Tr} {a : List Tr} (ha : ∀ t ∈ a, t ∈ row ∨ t = odd) : ∀ t ∈ a.reverse, t ∈ row ∨ t = odd := fun t ht => ha t (List.mem_reverse.mp ht)
theorem mo_row {row : List Tr} {odd : Tr} : ∀ t ∈ row, t ∈ row ∨ t = odd := fun t ht => .inl ht
theorem mo_odd {row : List Tr} {odd : Tr} : ∀ t ∈ [odd], t ∈ row ∨ t = odd := fun t ht => .inr (by simpa using ht)
theorem mo_nil {row : List Tr} {odd : Tr} : ∀ t ∈ ([] : List Tr), t ∈ row ∨ t = odd := fun t ht => by cases ht
theorem cl_app {a b : List Tr} {n m : Nat} (ha : a.length ≤ n) (hb : b.length ≤ m) : (a ++ b).length ≤ n + m := by rw [List.length_append]; omega
theorem cl_cut {row : List Tr} {l u : Option Int} {n : Nat} (h : row.length ≤ n) : (cutG row l u).length ≤ n := Nat.le_trans cutG_len h
theorem cut2_len {α : Type} {row : List α} {i : Int} (h : 0 ≤ i) : (cutG row none (some i)).length + (cutG row (some i) none).length = row.length := by
  rw [cut_to row h, cut_from row h, ← List.length_append, List.take_append_drop]
theorem cutG_len' {α : Type} {ts : List α} {l u : Option Int} : (cutG ts l u).length ≤ ts.length := by
  unfold cutG
  simp only [List.length_take, List.length_drop]
  omega
theorem cut3_len {α : Type} {row : List α} {i : Int} (h : 0 ≤ i) (j : Int) (hj : 0 ≤ j) : (cutG row (some i) (some (i + j))).length ≤ j.toNat := by
  unfold cutG
  obtain ⟨a, rfl⟩ := Int.eq_ofNat_of_zero_le h
  obtain ⟨b, rfl⟩ := Int.eq_ofNat_of_zero_le hj
  rw [show ((a : Int) + (b : Int)) = ((a + b : Nat) : Int) by omega, HT.sIx_nat, HT.sIx_nat, List.length_take, List.length_drop]
  simp only [Int.toNat_natCast]
  omega
theorem cut4_len {α : Type} {row : List α} {i : Int} (h : 0 ≤ i) (j : Int) (hj : 0 ≤ j) : (cutG row none (some i)).length + (cutG row (some (i + j)) none).length ≤ row.length := by
  rw [cut_to row h, cut_from row (by omega), List.length_take, List.length_drop]
  omega
-- CUT
theorem f2_2 {a b : Tr} (ha : F1 a) (hb : F1 b) : F2 (.tup [a, b]) := f2_tup (fun t ht => by
  simp only [List.mem_cons, List.not_mem_nil, or_false] at ht
  rcases ht with rfl | rfl <;> assumption) (by simp)
theorem f2_4 {a b c d : Tr} (ha : F1 a) (hb : F1 b) (hc : F1 c) (hd : F1 d) : F2 (.tup [a, b, c, d]) := f2_tup (fun t ht => by
  simp only [List.mem_cons, List.not_mem_nil, or_false] at ht
  rcases ht with rfl | rfl | rfl | rfl <;> assumption) (by simp)
theorem f2_l3 {a b c : Tr} (ha : F1 a) (hb : F1 b) (hc : F1 c) : F2 (.lst [a, b, c]) := f2_lst (fun t ht => by
  simp only [List.mem_cons, List.not_mem_nil, or_false] at ht
  rcases ht with rfl | rfl | rfl <;> assumption) (by simp)
theorem f0_p25 : F0 (.int (10 ^ Int.toNat 25)) := f0_int (by decide +kernel) (by decide +kernel)
theorem f0_one1 : F0 (.lst [.int 1]) := f0_lst1 (fe_int (by decide) (by decide))
theorem f0_one2 : F0 (.tup [.int 1]) := f0_tup1 (fe_int (by decide) (by decide))
theorem f0_s1 : F0 (.str "1") := f0_str (by decide +kernel)
theorem f0_s10 : F0 (.str "10") := f0_str (by decide +kernel)
theorem f0_s0 : F0 (.str "") := f0_str (by decide +kernel)
theorem f0_i {i : Int} (h1 : -1000 < i) (h2 : i < 1000) : F0 (.int i) := f0_int (by omega) (by omega)
theorem f2_0 : F2 (.tup []) := f2_tup (fun t ht => by cases ht) (by simp)
theorem rep_mem {x : Tr} {n : Nat} {t : Tr} (h : t ∈ (List.replicate n [x]).flatten) : t = x := by
  obtain ⟨l, hl, ht⟩ := List.mem_flatten.mp h
  rw [List.eq_of_mem_replicate hl] at ht
  simpa using ht
theorem sum_le {lo hi : Int} {ps : List Int} (h : ∀ p ∈ ps, lo ≤ p ∧ p ≤ hi) (h0 : lo ≤ 0) (h1 : 0 ≤ hi) {n : Nat} (hz : ps.length ≤ n) : lo * n ≤ ps.sum ∧ ps.sum ≤ hi * n := by
  obtain ⟨a, b⟩ := sum_bounds h
  constructor
  · refine Int.le_trans ?_ a
    exact Int.mul_le_mul_of_nonpos_left h0 (by omega)
  · refine Int.le_trans b ?_
    exact Int.mul_le_mul_of_nonneg_left (by omega) h1
theorem fit_ok {ps : List Int} {l to : Int} (h : ∀ p ∈ ps, 1 ≤ p ∧ p ≤ 6) (hz : ps.length ≤ 4) (l1 : -1 ≤ l) (l2 : l ≤ 26) (ht : 0 ≤ to) :
    (∀ n ∈ cutG ps none (some to) ++ [l] ++ cutG ps (some (to + 1)) none, -(10 ^ 50) < n ∧ n < 10 ^ 50) ∧ (cutG ps none (some to) ++ [l] ++ cutG ps (some (to + 1)) none).length ≤ 50 ∧
    -1 ≤ (cutG ps none (some to) ++ [l] ++ cutG ps (some (to + 1)) none).sum ∧ (cutG ps none (some to) ++ [l] ++ cutG ps (some (to + 1)) none).sum ≤ 50 := by
  have e := cut4_len (row := ps) ht 1 (by decide)
  have a := sum_bounds (lo := 0) (hi := 6) (ps := cutG ps none (some to)) fun p hp => by have := h p (cutG_mem hp); omega
  have b := sum_bounds (lo := 0) (hi := 6) (ps := cutG ps (some (to + 1)) none) fun p hp => by have := h p (cutG_mem hp); omega
  refine ⟨fun n hn => ?_, ?_, ?_, ?_⟩
  · rw [List.mem_append, List.mem_append] at hn
    rcases hn with (q | q) | q
    · have := h n (cutG_mem q); omega
    · have : n = l := by simpa using q
      omega
    · have := h n (cutG_mem q); omega
  · simp only [List.length_append, List.length_cons, List.length_nil]; omega
  · simp only [List.sum_append, List.sum_cons, List.sum_nil]; omega
  · simp only [List.sum_append, List.sum_cons, List.sum_nil]; omega
-- CUT
theorem sum_nonneg : ∀ {xs : List Int}, (∀ x ∈ xs, 0 ≤ x) → 0 ≤ xs.sum
  | [], _ => by simp
  | x :: xs, h => by
    have h1 := h x List.mem_cons_self
    have h2 := sum_nonneg (xs := xs) fun y hy => h y (List.mem_cons_of_mem _ hy)
    rw [List.sum_cons]; omega
/-! ### what is no frame -/
theorem areP_mem {ts : List Tr} {o : Tr} (h : o ∈ ts) (ho : isP o = false) : areP (.lst ts) = false := by
  have : ts.all isP = false := by
    rw [Bool.eq_false_iff]
    intro z
    have := List.all_eq_true.mp z o h
    rw [ho] at this; cases this
  show (_ && ts.all isP) = false
  rw [this, Bool.and_false]
theorem noF_w {a p o : Tr} {ws : List Tr} (h : o ∈ ws) (ho : isW o = false) : isF (.tup [a, p, .lst ws]) = false := by
  cases a with
  | int i =>
    have : ws.all isW = false := by
      rw [Bool.eq_false_iff]
      intro z
      have := List.all_eq_true.mp z o h
      rw [ho] at this; cases this
    show (_ && (_ && (_ && ws.all isW))) = false
    rw [this, Bool.and_false, Bool.and_false, Bool.and_false]
  | _ => rfl
theorem noF_sum {a : Tr} {qs : List Int} {ws : List Tr} (h : (ws.length : Int) ≠ qs.sum) : isF (.tup [a, .lst (qs.map .int), .lst ws]) = false := by
  cases a with
  | int i =>
    show (_ && (_ && (decide ((ws.length : Int) = sumT (.lst (qs.map .int))) && _))) = false
    rw [sumT_ints, decide_eq_false h, Bool.false_and, Bool.and_false, Bool.and_false]
  | _ => rfl
def isB : Tr → Bool
  | .int i => decide (2 ≤ i ∧ i ≤ 16)
  | _ => false
theorem noF_b {a b c : Tr} (h : isB a = false) : isF (.tup [a, b, c]) = false := by
  cases a with
  | int i => exact isF_no2 (.inl (of_decide_eq_false h))
  | _ => rfl
theorem noF_p {i : Int} {b c : Tr} (h : areP b = false) : isF (.tup [.int i, b, c]) = false := isF_no2 (.inr h)
theorem noF_l {a b c : Tr} (h : ∀ ws, c ≠ .lst ws) : isF (.tup [a, b, c]) = false := by
  cases a with
  | int i =>
    cases c with
    | lst ws => exact absurd rfl (h ws)
    | _ => rfl
  | _ => rfl
theorem bent_mem {α : Type} {a b : List α} {o : α} : o ∈ a ++ [o] ++ b := List.mem_append_left _ (List.mem_append_right _ (List.mem_singleton.mpr rfl))
theorem drop1_sum {ps : List Int} (h : 1 ≤ ps.length) : ps.sum = ps.headD 0 + (cutG ps (some 1) none).sum := by
  cases ps with
  | nil => simp at h
  | cons p r =>
    have e : cutG (p :: r) (some 1) none = r := by
      unfold cutG
      simp [HT.sIx]
    rw [e, List.sum_cons]; rfl
theorem drop1_len {α : Type} {ps : List α} (h : 1 ≤ ps.length) : (cutG ps (some 1) none).length + 1 = ps.length := by
  cases ps with
  | nil => simp at h
  | cons p r =>
    have e : cutG (p :: r) (some 1) none = r := by
      unfold cutG
      simp [HT.sIx]
    rw [e, List.length_cons]
theorem head_mem {ps : List Int} (h : 1 ≤ ps.length) : ps.headD 0 ∈ ps := by
  cases ps with
  | nil => simp at h
  | cons p r => exact List.mem_cons_self
theorem rep_memG {xs : List Tr} {n : Nat} {t : Tr} (h : t ∈ (List.replicate n xs).flatten) : t ∈ xs := by
  obtain ⟨l, hl, ht⟩ := List.mem_flatten.mp h
  rw [List.eq_of_mem_replicate hl] at ht
  exact ht
theorem cutto_len {α : Type} {ts : List α} {n : Int} (h : 0 ≤ n) : (cutG ts none (some n)).length ≤ n.toNat := by
  rw [cut_to ts h, List.length_take]
  omega
/-- small things, as ints -/
theorem f1_bI {ps : List Int} {o : Int} (h : ∀ p ∈ ps, -(10 ^ 50) < p ∧ p < 10 ^ 50) (ho : -(10 ^ 50) < o ∧ o < 10 ^ 50) {qs : List Int} (hm : ∀ q ∈ qs, q ∈ ps ∨ q = o) (hz : qs.length ≤ 50) : F1 (.lst (qs.map .int)) := f1_ints (fun n hn => (hm n hn).elim (h n) fun e => by rw [e]; exact ho) hz
theorem mo_cutI {ps : List Int} {odd : Tr} {l u : Option Int} : ∀ t ∈ (cutG ps l u).map Tr.int, t ∈ ps.map Tr.int ∨ t = odd := fun t ht => by
  obtain ⟨p, hp, rfl⟩ := List.mem_map.mp ht
  exact .inl (List.mem_map.mpr ⟨p, cutG_mem hp, rfl⟩)
theorem f1_bent {ps : List Int} {i : Int} {od : Tr} (h : ∀ p ∈ ps, -(10 ^ 50) < p ∧ p < 10 ^ 50) (hz : ps.length ≤ 24) (h0 : 0 ≤ i) (ho : F0 od) : F1 (.lst ((cutG ps none (some i)).map .int ++ [od] ++ (cutG ps (some (i + 1)) none).map .int)) :=
  bent_ok (f0_ints h) ho (mo_app (mo_app mo_cutI mo_odd) mo_cutI) (by
    have := cut4_len (row := ps) h0 1 (by decide)
    simp only [List.length_append, List.length_map, List.length_cons, List.length_nil]
    omega)
theorem f1_cut {ps : List Int} (h : ∀ p ∈ ps, -(10 ^ 50) < p ∧ p < 10 ^ 50) (hz : ps.length ≤ 50) {l u : Option Int} : F1 (.lst ((cutG ps l u).map .int)) := f1_ints (fun n hn => h n (cutG_mem hn)) (Nat.le_trans cutG_len' hz)
theorem f1_more {ps : List Int} (h : ∀ p ∈ ps, -(10 ^ 50) < p ∧ p < 10 ^ 50) (hz : ps.length ≤ 24) : F1 (.lst ((ps ++ [1]).map .int)) := f1_ints (fun n hn => by
  rcases List.mem_append.mp hn with q | q
  · exact h n q
  · have : n = 1 := by simpa using q
    omega) (by rw [List.length_append]; simp; omega)
theorem f0_lst0 : F0 (.lst []) := ⟨rfl, Nat.le_of_ble_eq_true rfl, (sh_lst (shl_nil.mono (m := 0) (l := 2))).mono⟩
theorem memI {a b : List Int} {o : Int} : Tr.int o ∈ (a ++ [o] ++ b).map Tr.int := List.mem_map.mpr ⟨o, bent_mem, rfl⟩
theorem f1_bent1 {ps : List Int} {i o : Int} (h : ∀ p ∈ ps, -(10 ^ 50) < p ∧ p < 10 ^ 50) (hz : ps.length ≤ 24) (h0 : 0 ≤ i) (ho : -(10 ^ 50) < o ∧ o < 10 ^ 50) : F1 (.lst ((cutG ps none (some i) ++ [o] ++ cutG ps (some (i + 1)) none).map .int)) :=
  f1_bI h ho (fun q hq => by
    rw [List.mem_append, List.mem_append] at hq
    rcases hq with (z | z) | z
    · exact .inl (cutG_mem z)
    · exact .inr (by simpa using z)
    · exact .inl (cutG_mem z)) (by
    have := cut4_len (row := ps) h0 1 (by decide)
    simp only [List.length_append, List.length_cons, List.length_nil]
    omega)
theorem f1_bent0 {ps : List Int} {i o : Int} (h : ∀ p ∈ ps, -(10 ^ 50) < p ∧ p < 10 ^ 50) (hz : ps.length ≤ 24) (h0 : 0 ≤ i) (ho : -(10 ^ 50) < o ∧ o < 10 ^ 50) : F1 (.lst ((cutG ps none (some i) ++ [o] ++ cutG ps (some i) none).map .int)) :=
  f1_bI h ho (fun q hq => by
    rw [List.mem_append, List.mem_append] at hq
    rcases hq with (z | z) | z
    · exact .inl (cutG_mem z)
    · exact .inr (by simpa using z)
    · exact .inl (cutG_mem z)) (by
    have := cut2_len (row := ps) h0
    simp only [List.length_append, List.length_cons, List.length_nil]
    omega)
theorem f1_six {ps ws : List Int} {to l : Int} (hw : ∀ p ∈ ws, -(10 ^ 50) < p ∧ p < 10 ^ 50) (h : ∀ p ∈ ps, 1 ≤ p ∧ p ≤ 6) (hz : ps.length ≤ 4) (h0 : 0 ≤ to) (l1 : 0 ≤ l) (l2 : l ≤ 26) {n : Nat} :
    F1 (.lst (cutG (List.replicate n (ws.map Tr.int)).flatten none (some (cutG ps none (some to) ++ [l] ++ cutG ps (some (to + 1)) none).sum))) := by
  obtain ⟨_, _, e3, e4⟩ := fit_ok h hz (by omega) l2 h0
  have e5 : 0 ≤ (cutG ps none (some to) ++ [l] ++ cutG ps (some (to + 1)) none).sum := by
    refine sum_nonneg fun z hz => ?_
    rw [List.mem_append, List.mem_append] at hz
    rcases hz with (q | q) | q
    · have := h z (cutG_mem q); omega
    · have : z = l := by simpa using q
      omega
    · have := h z (cutG_mem q); omega
  refine f1_lst (fun t ht => ?_) (Nat.le_trans (cutto_len e5) (by omega))
  obtain ⟨p, hp, rfl⟩ := List.mem_map.mp (rep_memG (cutG_mem ht))
  exact f0_int (hw p hp).1 (hw p hp).2
theorem f1_5 : F1 (.lst ((List.replicate (Int.toNat 5) (1 : Int)).map .int)) := f1_ints (fun n hn => by rw [List.eq_of_mem_replicate hn]; decide) (by decide)
theorem gd0 {ps : List Int} (h : ∀ p ∈ ps, 1 ≤ p ∧ p ≤ 6) (hl : 1 ≤ ps.length) : 1 ≤ ps.getD (Int.toNat 0) 0 ∧ ps.getD (Int.toNat 0) 0 ≤ 6 := by
  cases ps with
  | nil => simp at hl
  | cons p r => exact h p List.mem_cons_self
theorem f1_8 {ps : List Int} (h : ∀ p ∈ ps, 1 ≤ p ∧ p ≤ 6) (hl : 1 ≤ ps.length) (hz : ps.length ≤ 4) : F1 (.lst ([.int (-1), .int (ps.getD (Int.toNat 0) 0 + 1)] ++ (cutG ps (some 1) none).map .int)) := by
  have hg := gd0 h hl
  refine f1_lst (fun t ht => ?_) ?_
  · rw [List.mem_append] at ht
    rcases ht with q | q
    · simp only [List.mem_cons, List.not_mem_nil, or_false] at q
      rcases q with rfl | rfl
      · exact f0_i (by decide) (by decide)
      · exact f0_i (by omega) (by omega)
    · obtain ⟨p, hp, rfl⟩ := List.mem_map.mp q
      have := h p (cutG_mem hp)
      exact f0_i (by omega) (by omega)
  · have := cutG_len' (ts := ps) (l := some 1) (u := none)
    simp only [List.length_append, List.length_cons, List.length_nil, List.length_map]
    omega
-- CUT
local macro_rules | `(tactic| walk_at "vl nrm") => `(tactic| first
  | (dsimp only [outM, putS, wipeM, reachD, reach, flatR, renT, renI, seeL, seeP, drG, startG, blank, List.getD, List.set, List.foldl, List.map, List.replicate, List.length, Option.bind, List.nil_append, List.cons_append, List.getElem?_cons_succ, List.getElem?_cons_zero, Option.getD, Option.map, List.getD_cons_zero, List.getD_cons_succ]; done)
  | exact rfl)
local macro_rules | `(tactic| walk_at "vl") => `(tactic| (repeat (first | ((with_reducible apply st_seqN); (case hG => walk_at "vl nrm"); (case hm => walk_at "vl nrm")) | walk_at "vl step")))
theorem st_cat2 {m : Sto} {d e : Dv} {xs ys : List Tr} {A : List Tr → List Tr → Prop} (h1 : view m d = some (.lst xs)) (h2 : view m e = some (.lst ys)) (q : A xs ys) (c : xs.length + ys.length ≤ sizeLine) : ∃ xs ys, view m d = some (.lst xs) ∧ view m e = some (.lst ys) ∧ xs.length + ys.length ≤ sizeLine ∧ A xs ys := ⟨xs, ys, h1, h2, c, q⟩
local macro_rules | `(tactic| walk_at "vl more") => `(tactic| ((with_reducible apply st_cat2); rfl; rfl))
theorem f1_ones {n : Nat} (h : n ≤ 50) : F1 (.lst ((List.replicate n (1 : Int)).map .int)) := f1_ints (fun n hn => by rw [List.eq_of_mem_replicate hn]; decide) (by rw [List.length_replicate]; exact h)
theorem rt_nK : ∀ k : Fin 26, (reprText (Str.ofString (toString (nK k)))).length ≤ 60 := by decide +kernel
def S_law_bad : VSp := fun ds k _ => ∃ (b : Int) (ps ws : List Int) (c : Int), ds = [.t (frT b ps ws), .t (.int c)] ∧ (OkF b ps ws) ∧ ((∀ t, (F2 t ∧ isF t = false) → k (t)))
theorem S_law_bad.len : ∀ ds k x, S_law_bad ds k x → ds.length = 2 := fun ds k x ⟨_, _, _, _, e, _⟩ => by rw [e]; rfl
theorem i_law_bad {b : Int} {ps ws : List Int} {c : Int} {k : Tr → Prop} {x : VL.XK} (q : (∀ t, (F2 t ∧ isF t = false) → k (t))) (h1 : OkF b ps ws) : S_law_bad [.t (frT b ps ws), .t (.int c)] k x := ⟨b, ps, ws, c, rfl, h1, q⟩
local macro_rules | `(tactic| walk_at "vl call") => `(tactic| ((with_reducible apply i_law_bad); intro _ _))
def u_law_bad : VS :=
  (vSeq (vAsg (vVar 0) (vgTup 3 (vgCons (vgName 2) (vgCons (vgName 3) (vgCons (vgName 4) vgNil)))))
  (vSeq (vNewL 5 0 (vaCons (vC .non) (vaCons (vVar 2) (vaCons (vTup (vaCons (vVar 2) (vaCons (vVar 3) vaNil))) (vaCons (vLst (vaCons (vVar 2) (vaCons (vVar 3) (vaCons (vVar 4) vaNil)))) vaNil)))))
  (vSeq (vSet 5 (vOp fAdd (vVar 5) (vLst (vaCons (vTup (vaCons (vVar 2) (vaCons (vVar 3) (vaCons (vVar 4) (vaCons (vC (.int 0)) vaNil))))) (vaCons (vTup (vaCons (vC (.int 1)) (vaCons (vVar 3) (vaCons (vVar 4) vaNil)))) vaNil)))))
  (vSeq (vSet 5 (vOp fAdd (vVar 5) (vLst (vaCons (vTup (vaCons (vC (.int 17)) (vaCons (vVar 3) (vaCons (vVar 4) vaNil)))) (vaCons (vTup (vaCons (vC (.bl true)) (vaCons (vVar 3) (vaCons (vVar 4) vaNil)))) vaNil)))))
  (vSeq (vSet 5 (vOp fAdd (vVar 5) (vLst (vaCons (vTup (vaCons (vCB fStrI (vaCons (vVar 2) vaNil)) (vaCons (vVar 3) (vaCons (vVar 4) vaNil)))) (vaCons (vTup (vaCons (vC .non) (vaCons (vVar 3) (vaCons (vVar 4) vaNil)))) vaNil)))))
  (vSeq (vSet 5 (vOp fAdd (vVar 5) (vLst (vaCons (vTup (vaCons (vVar 2) (vaCons (vCB fTuple (vaCons (vVar 3) vaNil)) (vaCons (vVar 4) vaNil)))) (vaCons (vTup (vaCons (vVar 2) (vaCons (vC .non) (vaCons (vVar 4) vaNil)))) vaNil)))))
  (vSeq (vSetM (some 5) 5 (vmCat 0 (some 5) (vVar 5) (vLst (vaCons (vTup (vaCons (vVar 2) (vaCons (vVar 3) (vaCons (vCB fTuple (vaCons (vVar 4) vaNil)) vaNil)))) (vaCons (vTup (vaCons (vVar 2) (vaCons (vVar 3) (vaCons (vC .non) vaNil)))) vaNil)))))
  (vSeq (vApp (vVar 5) (vTup (vaCons (vVar 2) (vaCons (vLst vaNil) (vaCons (vLst vaNil) vaNil)))))
  (vSeq (vSet 5 (vOp fAdd (vVar 5) (vLst (vaCons (vTup (vaCons (vVar 2) (vaCons (vLst (vaCons (vC (.int 1)) vaNil)) (vaCons (vLst (vaCons (vC (.int 1)) vaNil)) vaNil)))) (vaCons (vTup (vaCons (vVar 2) (vaCons (vOp fMul (vLst (vaCons (vC (.int 1)) vaNil)) (vC (.int 5))) (vaCons (vOp fMul (vLst (vaCons (vC (.int 1)) vaNil)) (vC (.int 5))) vaNil)))) vaNil)))))
  (vSeq (vSet 5 (vOp fAdd (vVar 5) (vLst (vaCons (vTup (vaCons (vVar 2) (vaCons (vVar 3) (vaCons (vOp fAdd (vVar 4) (vLst (vaCons (vC (.int 1)) vaNil))) vaNil)))) (vaCons (vTup (vaCons (vVar 2) (vaCons (vVar 3) (vaCons (vSl fSlc (vVar 4) (voS (vC (.int 1))) voN) vaNil)))) vaNil)))))
  (vSeq (vSetM (some 5) 5 (vmCat 0 (some 5) (vVar 5) (vLst (vaCons (vTup (vaCons (vVar 2) (vaCons (vOp fAdd (vVar 3) (vLst (vaCons (vC (.int 0)) vaNil))) (vaCons (vVar 4) vaNil)))) (vaCons (vTup (vaCons (vVar 2) (vaCons (vLst (vaCons (vC (.int 7)) (vaCons (vC (.int 1)) vaNil))) (vaCons (vOp fMul (vLst (vaCons (vC (.int 1)) vaNil)) (vC (.int 8))) vaNil)))) vaNil)))))
  (vSeq (vApp (vVar 5) (vTup (vaCons (vVar 2) (vaCons (vOp fAdd (vLst (vaCons (vC (.int 7)) vaNil)) (vSl fSlc (vVar 3) (voS (vC (.int 1))) voN)) (vaCons (vOp fMul (vLst (vaCons (vC (.int 1)) vaNil)) (vOp fAdd (vC (.int 7)) (vCB fSum (vaCons (vSl fSlc (vVar 3) (voS (vC (.int 1))) voN) vaNil)))) vaNil)))))
  (vSeq (vApp (vVar 5) (vTup (vaCons (vVar 2) (vaCons (vOp fAdd (vSl fSlc (vVar 3) (voS (vC (.int 1))) voN) (vLst (vaCons (vC (.int 0)) vaNil))) (vaCons (vSl fSlc (vVar 4) (voS (vOp fIdx (vVar 3) (vC (.int 0)))) voN) vaNil)))))
  (vSeq (vSet 6 (vOp fMod (vOp fDiv (vVar 1) (vC (.int 100))) (vCB fLen (vaCons (vVar 3) vaNil))))
  (vSeq (vFor (viL (vLst (vaCons (vC (.int 0)) (vaCons (vNeg (vC (.int 1))) (vaCons (vC (.int 7)) (vaCons (vC (.bl true)) (vaCons (vC .non) (vaCons (vC (.str "1")) (vaCons (vLst (vaCons (vC (.int 1)) vaNil)) vaNil))))))))) (vgName 7)
  (vApp (vVar 5) (vTup (vaCons (vVar 2) (vaCons (vOp fAdd (vOp fAdd (vSl fSlc (vVar 3) voN (voS (vVar 6))) (vLst (vaCons (vVar 7) vaNil))) (vSl fSlc (vVar 3) (voS (vOp fAdd (vVar 6) (vC (.int 1)))) voN)) (vaCons (vVar 4) vaNil))))))
  (vSeq (vSet 6 (vOp fMod (vOp fDiv (vVar 1) (vC (.int 100))) (vCB fLen (vaCons (vVar 4) vaNil))))
  (vSeq (vFor (viL (vLst (vaCons (vC (.int 10)) (vaCons (vNeg (vC (.int 10))) (vaCons (vC (.bl true)) (vaCons (vC .non) (vaCons (vC (.str "1")) (vaCons (vLst (vaCons (vC (.int 1)) vaNil)) (vaCons (vOp fPow (vC (.int 10)) (vC (.int 25))) vaNil))))))))) (vgName 7)
  (vApp (vVar 5) (vTup (vaCons (vVar 2) (vaCons (vVar 3) (vaCons (vOp fAdd (vOp fAdd (vSl fSlc (vVar 4) voN (voS (vVar 6))) (vLst (vaCons (vVar 7) vaNil))) (vSl fSlc (vVar 4) (voS (vOp fAdd (vVar 6) (vC (.int 1)))) voN)) vaNil))))))
  (vRet (vOp fIdx (vVar 5) (vOp fMod (vVar 1) (vCB fLen (vaCons (vVar 5) vaNil))))))))))))))))))))))

theorem w_law_bad : Meets 2 N_law_bad S_law_bad u_law_bad 1 := by
  rintro ds k x hl ⟨b, ps, ws, c, rfl, h1, hk⟩
  unfold u_law_bad
  have hb1 := h1.b1
  have hb2 := h1.b2
  have hp1 := h1.p1
  have hp2 := h1.p2
  have hwl := h1.wl
  have hb : F0 (.int b) := f0_int (by omega) (by omega)
  have hp : F1 (.lst (ps.map .int)) := f1_ints h1.pb (by omega)
  have hw : F1 (.lst (ws.map .int)) := f1_ints h1.wb (by omega)
  have hz1 : ∀ l u, (cutG ps l u).length ≤ ps.length := fun l u => cutG_len'
  have hB : ∀ o, F0 o → isB o = false → F2 (.tup [o, .lst (ps.map .int), .lst (ws.map .int)]) ∧ isF (.tup [o, .lst (ps.map .int), .lst (ws.map .int)]) = false := fun o q1 q2 => ⟨f2_3 q1.up hp hw, noF_b q2⟩
  have hbs : F0 (.str (Str.ofString (toString b))) := f0_str (by
    obtain ⟨k, rfl⟩ := nK_of (n := b) (by omega) (by omega)
    exact rt_nK k)
  have hs := h1.sum
  have hw1 := h1.w1
  have hz2 := hz1 (some 1) none
  have hsum := drop1_sum (ps := ps) (by omega)
  have hhd : 1 ≤ ps.headD 0 ∧ ps.headD 0 ≤ 6 := h1.p3 _ (head_mem (by omega))
  have p0b : ∀ n ∈ ps ++ [0], -(10 ^ 50) < n ∧ n < 10 ^ 50 := fun n hn => by
    rcases List.mem_append.mp hn with q | q
    · exact h1.pb n q
    · have : n = 0 := by simpa using q
      omega
  have p1b : ∀ n ∈ cutG ps (some 1) none ++ [0], -(10 ^ 50) < n ∧ n < 10 ^ 50 := fun n hn => by
    rcases List.mem_append.mp hn with q | q
    · exact h1.pb n (cutG_mem q)
    · have : n = 0 := by simpa using q
      omega
  have f7 : F1 (.lst (Tr.int 7 :: List.map Tr.int (cutG ps (some 1) none))) := f1_ints (ns := 7 :: cutG ps (some 1) none) (fun n hn => by
    rcases List.mem_cons.mp hn with q | q
    · omega
    · exact h1.pb n (cutG_mem q)) (by rw [List.length_cons]; omega)
  walk_at "vl"
  · refine an_lt (by simp only [List.length_append, List.length_cons, List.length_nil, sizeLine_eq]; omega) ?_
    walk_at "vl"
    · refine an_lt (by simp only [List.length_append, List.length_cons, List.length_nil, sizeLine_eq]; omega) ?_
      walk_at "vl"
      · refine an_lt (by simp only [List.length_append, List.length_cons, List.length_nil, sizeLine_eq]; omega) ?_
        walk_at "vl"
        · have ha0 : 0 ≤ c / 100 % ((ps.map Tr.int).length : Int) := Int.emod_nonneg _ (by rw [List.length_map]; omega)
          refine fr_inv (fun i G m => ∃ (L : List Tr) (o : Option Dv), (∀ t ∈ L, F2 t ∧ isF t = false) ∧ L.length = 23 + i ∧ G = [some (.t (frT b ps ws)), some (.t (.int c)), some (.t (.int b)), some (.t (.lst (ps.map .int))), some (.t (.lst (ws.map .int))), some (.loc 0), some (.t (.int (c / 100 % ((ps.map Tr.int).length : Int)))), o] ∧ m = [some (.lst L)]) ⟨_, none, ?_, by rfl, rfl, rfl⟩ ?_ ?_
          · intro t ht
            simp only [List.mem_append, List.mem_cons, List.not_mem_nil, or_false, or_assoc] at ht
            rcases ht with rfl | rfl | rfl | rfl | rfl | rfl | rfl | rfl | rfl | rfl | rfl | rfl | rfl | rfl | rfl | rfl | rfl | rfl | rfl | rfl | rfl | rfl | rfl
            all_goals first
              | exact ⟨f0_non.up.up, rfl⟩ | exact ⟨hb.up.up, rfl⟩ | exact ⟨f2_2 hb.up hp, isF_len (by simp)⟩ | exact ⟨f2_l3 hb.up hp hw, rfl⟩
              | exact ⟨f2_4 hb.up hp hw (f0_i (by decide) (by decide)).up, isF_len (by simp)⟩
              | exact hB _ (f0_i (by decide) (by decide)) (by decide)
              | exact hB _ (f0_bl _) rfl | exact hB _ f0_non rfl
              | exact hB _ hbs rfl
              | exact ⟨f2_3 hb.up (f1_tup (f0_ints h1.pb) (by rw [List.length_map]; omega)) hw, noF_p rfl⟩
              | exact ⟨f2_3 hb.up f0_non.up hw, noF_p rfl⟩
              | exact ⟨f2_3 hb.up hp (f1_tup (f0_ints h1.wb) (by rw [List.length_map]; omega)), noF_l fun _ z => (nomatch z)⟩
              | exact ⟨f2_3 hb.up hp f0_non.up, noF_l fun _ z => (nomatch z)⟩
              | exact ⟨f2_3 hb.up f0_lst0.up f0_lst0.up, noF_p rfl⟩
              | exact ⟨f2_3 hb.up f0_one1.up f0_one1.up, noF_p rfl⟩
              | exact ⟨f2_3 hb.up f1_5 f1_5, noF_p rfl⟩
              | exact ⟨f2_3 hb.up hp (f1_more h1.wb (by omega)), noF_sum (by rw [List.length_map, List.length_append]; simp; omega)⟩
              | exact ⟨f2_3 hb.up hp (f1_cut h1.wb (by omega)), noF_sum (by rw [List.length_map]; have := drop1_len (ps := ws) (by omega); omega)⟩
              | exact ⟨f2_3 hb.up (f1_ints (ns := ps ++ [0]) p0b (by rw [List.length_append]; simp; omega)) hw, noF_p (areP_mem (o := .int 0) (by simp) rfl)⟩
              | exact ⟨f2_3 hb.up (f1_ints (ns := [7, 1]) (by decide) (by decide)) (f1_ones (n := Int.toNat 8) (by decide)), noF_p rfl⟩
              | exact ⟨f2_3 hb.up f7 (f1_ones (by omega)), noF_p (areP_mem (o := .int 7) List.mem_cons_self rfl)⟩
              | exact ⟨f2_3 hb.up (f1_ints (ns := cutG ps (some 1) none ++ [0]) p1b (by rw [List.length_append]; simp; omega)) (f1_cut h1.wb (by omega)), noF_p (areP_mem (o := .int 0) (by simp) rfl)⟩
          · rintro i t G' m' e ⟨L, o, hL, hlL, rfl, rfl⟩
            have hi := (List.getElem?_eq_some_iff.mp e).1
            simp only [List.length_cons, List.length_nil] at hi
            have ho : F0 t ∧ isP t = false := by
              have hm := mem_at e
              simp only [List.mem_cons, List.not_mem_nil, or_false] at hm
              rcases hm with rfl | rfl | rfl | rfl | rfl | rfl | rfl
              all_goals first | exact ⟨f0_i (by decide) (by decide), by decide⟩ | exact ⟨f0_bl _, rfl⟩ | exact ⟨f0_non, rfl⟩ | exact ⟨f0_s1, rfl⟩ | exact ⟨f0_one1, rfl⟩
            clear e
            walk_at "vl"
            · refine an_lt (by rw [hlL, sizeLine_eq]; omega) ?_
              refine ⟨L ++ [_], _, fun t' ht' => ?_, by rw [List.length_append, hlL]; rfl, rfl, rfl⟩
              rcases List.mem_append.mp ht' with q | q
              · exact hL t' q
              · have q : t' = _ := List.mem_singleton.mp q
                rw [q]
                exact ⟨f2_3 hb.up (f1_bent h1.pb (by omega) ha0 ho.1) hw, noF_p (areP_mem bent_mem ho.2)⟩
            all_goals (have := hz1 none (some (c / 100 % ((ps.map Tr.int).length : Int))); have := hz1 (some (c / 100 % ((ps.map Tr.int).length : Int) + 1)) none; simp only [List.length_append, List.length_cons, List.length_nil, List.length_map, sizeLine_eq] at *; omega)
          · rintro G' m' ⟨L, o, hL, hlL, rfl, rfl⟩
            simp only [List.length_cons, List.length_nil] at hlL
            walk_at "vl"
            · have hw0 : 0 ≤ c / 100 % ((ws.map Tr.int).length : Int) := Int.emod_nonneg _ (by rw [List.length_map]; omega)
              refine fr_inv (fun i G m => ∃ (L : List Tr) (o : Option Dv), (∀ t ∈ L, F2 t ∧ isF t = false) ∧ L.length = 30 + i ∧ G = [some (.t (frT b ps ws)), some (.t (.int c)), some (.t (.int b)), some (.t (.lst (ps.map .int))), some (.t (.lst (ws.map .int))), some (.loc 0), some (.t (.int (c / 100 % ((ws.map Tr.int).length : Int)))), o] ∧ m = [some (.lst L)]) ⟨L, o, hL, by rw [hlL], rfl, rfl⟩ ?_ ?_
              · rintro i t G' m' e ⟨L, o, hL, hlL, rfl, rfl⟩
                have hi := (List.getElem?_eq_some_iff.mp e).1
                simp only [List.length_cons, List.length_nil] at hi
                have ho : F0 t ∧ isW t = false := by
                  have hm := mem_at e
                  simp only [List.mem_cons, List.not_mem_nil, or_false] at hm
                  rcases hm with rfl | rfl | rfl | rfl | rfl | rfl | rfl
                  all_goals first | exact ⟨f0_i (by decide) (by decide), by decide⟩ | exact ⟨f0_bl _, rfl⟩ | exact ⟨f0_non, rfl⟩ | exact ⟨f0_s1, rfl⟩ | exact ⟨f0_one1, rfl⟩ | exact ⟨f0_p25, by decide +kernel⟩
                clear e
                walk_at "vl"
                · refine an_lt (by rw [hlL, sizeLine_eq]; omega) ?_
                  refine ⟨L ++ [_], _, fun t' ht' => ?_, by rw [List.length_append, hlL]; rfl, rfl, rfl⟩
                  rcases List.mem_append.mp ht' with q | q
                  · exact hL t' q
                  · have q : t' = _ := List.mem_singleton.mp q
                    rw [q]
                    exact ⟨f2_3 hb.up hp (f1_bent h1.wb (by omega) hw0 ho.1), noF_w bent_mem ho.2⟩
                all_goals (have hz3 : ∀ l u, (cutG ws l u).length ≤ ws.length := fun l u => cutG_len'
                           have := hz3 none (some (c / 100 % ((ws.map Tr.int).length : Int))); have := hz3 (some (c / 100 % ((ws.map Tr.int).length : Int) + 1)) none; simp only [List.length_append, List.length_cons, List.length_nil, List.length_map, sizeLine_eq] at *; omega)
              · rintro G' m' ⟨L, o, hL, hlL, rfl, rfl⟩
                simp only [List.length_cons, List.length_nil] at hlL
                walk_at "vl"
                · intro t ht
                  exact ⟨t, rfl, hk t (hL t ht)⟩
                all_goals first | omega | (rw [hlL]; omega) | skip
            all_goals first | decide | exact cdw (by decide) (by decide) | (rw [List.length_map]; omega) | skip
        all_goals first | omega | decide | (simp only [List.length_append, List.length_cons, List.length_nil, List.length_map, sizeLine_eq]; omega) | exact log_ok (by omega) | exact cdw (by decide) (by decide) | exact Nat.le_trans (hz1 _ _) (by omega) | skip
      all_goals first | omega | decide | (simp only [List.length_append, List.length_cons, List.length_nil, List.length_map, sizeLine_eq]; omega) | exact log_ok (by omega) | exact cdw (by decide) (by decide) | exact Nat.le_trans (hz1 _ _) (by omega) | skip
    all_goals first | omega | decide | (simp only [List.length_append, List.length_cons, List.length_nil, List.length_map, sizeLine_eq]; omega) | exact log_ok (by omega) | exact cdw (by decide) (by decide) | exact Nat.le_trans (hz1 _ _) (by omega) | skip
  all_goals first | omega | decide | (simp only [List.length_append, List.length_cons, List.length_nil, List.length_map, sizeLine_eq]; omega) | exact log_ok (by omega) | exact cdw (by decide) (by decide) | exact Nat.le_trans (hz1 _ _) (by omega) | skip
-- CUT
theorem lay_fr {b : Int} {ps ws : List Int} : lay 60 (frT b ps ws) = true := by
  unfold frT
  simp [lay, lays, lays_ints]
theorem sp_neX {m : Sto} {k : DK} {d e : Dv} {t u : Tr} (h1 : viewD m d = some t) (h2 : viewD m e = some u) (e1 : t = u) (q : k (.t (.bl false))) (hl : lay 60 t = true) : fNeD m d e k := by
  subst e1
  exact sp_neR h1 h2 q hl
theorem sp_eqX {m : Sto} {k : DK} {d e : Dv} {t u : Tr} (h1 : viewD m d = some t) (h2 : viewD m e = some u) (e1 : t = u) (q : k (.t (.bl true))) (hl : lay 60 t = true) : fEqD m d e k := by
  subst e1
  exact sp_eqR h1 h2 q hl
theorem wr_ok {b : Int} {ps ws : List Int} (h : OkF b ps ws) : PyData.strOk (wr b ps ws) = true := by
  unfold PyData.strOk
  rw [Array.all_eq_true']
  intro c hc
  refine decide_eq_true ?_
  refine Nat.lt_of_not_le fun hle => ?_
  have hb : -9 ≤ b ∧ b ≤ 16 := by have := h.b1; have := h.b2; omega
  have hs : c ≠ 45 ∧ (c < 48 ∨ 57 < c) := by omega
  have hm : c ∈ TL.tl (wr b ps ws) := Array.mem_toList_iff.mpr hc
  unfold wr at hm
  simp only [TL.tl_append, List.mem_append] at hm
  rcases hm with (((q | q) | q) | q) | q
  · exact free_ts hs hb q
  · rw [lits.1] at q; simp at q; omega
  · refine free_join (by rw [lits.2.1]; simp; omega) (fun y hy => ?_) q
    obtain ⟨n, hn, rfl⟩ := List.mem_map.mp hy
    exact free_ts hs (okF_ps h n hn)
  · rw [lits.1] at q; simp at q; omega
  · refine free_join (by rw [lits.2.2]; simp; omega) (fun y hy => ?_) q
    obtain ⟨n, hn, rfl⟩ := List.mem_map.mp hy
    exact free_ts hs (okF_ws h n hn)
def u_law : VS :=
  (vSeq (vFor (viR1 (vCB fMax (vaCons (vC (.int 16)) (vaCons (vCB fMin (vaCons (vCB fLen (vaCons (vVar 0) vaNil)) (vaCons (vC (.int 63)) vaNil))) vaNil)))) (vgName 1)
  (vSeq (vSet 2 (vCB fAbs (vaCons (vCall S_law_cell (vaCons (vVar 0) (vaCons (vVar 1) vaNil))) vaNil)))
  (vSeq (vSet 3 (vCall S_law_given (vaCons (vVar 2) vaNil)))
  (vSeq (vSet 4 (vCall S_law_asked (vaCons (vC (.int 0)) (vaCons (vVar 3) vaNil))))
  (vSeq (vIfS (vtB (vCall S_law_writes (vaCons (vVar 3) vaNil)))
  (vIfS (vtOr (vtB (vOp fIdx (vVar 4) (vC (.int 0)))) (vtB (vOp fNeD (vCall S_law_asked (vaCons (vC (.int 1)) (vaCons (vOp fIdx (vVar 4) (vC (.int 1))) vaNil))) (vLst (vaCons (vC (.bl false)) (vaCons (vVar 3) vaNil))))))
  (vRet (vC (.bl false)))
  vNext)
  (vIfS (vtB (vOp fNeD (vVar 4) (vLst (vaCons (vC (.bl true)) (vaCons (vC (.str "text")) vaNil)))))
  (vRet (vC (.bl false)))
  vNext))
  (vSeq (vSet 5 (vCall S_law_bad (vaCons (vCall S_law_frame (vaCons (vCall S_law_mixed (vaCons (vVar 2) (vaCons (vC (.int 5)) vaNil))) (vaCons (vC (.int 6)) vaNil))) (vaCons (vCall S_law_mixed (vaCons (vVar 2) (vaCons (vC (.int 6)) vaNil))) vaNil))))
  (vSeq (vSet 6 (vCB fRepr (vaCons (vVar 5) vaNil)))
  (vIfS (vtOr (vtB (vOp fNeD (vCall S_law_asked (vaCons (vC (.int 1)) (vaCons (vVar 5) vaNil))) (vLst (vaCons (vC (.bl true)) (vaCons (vC (.str "frame")) vaNil))))) (vtB (vOp fNeZ (vCB fRepr (vaCons (vVar 5) vaNil)) (vVar 6))))
  (vRet (vC (.bl false)))
  vNext))))))))
  (vSeq (vFor (viL (vLst (vaCons (vC .non) (vaCons (vC (.int 0)) (vaCons (vLst (vaCons (vC (.str "10:1+1:1 1")) vaNil)) (vaCons (vTup (vaCons (vC (.int 10)) (vaCons (vLst (vaCons (vC (.int 1)) (vaCons (vC (.int 1)) vaNil))) (vaCons (vLst (vaCons (vC (.int 1)) (vaCons (vC (.int 1)) vaNil))) vaNil)))) (vaCons (vC (.bl true)) (vaCons (vC (.dic [])) (vaCons (vLst (vaCons (vC (.int 1)) vaNil)) vaNil))))))))) (vgName 7)
  (vIfS (vtB (vOp fNeD (vCall S_law_asked (vaCons (vC (.int 0)) (vaCons (vVar 7) vaNil))) (vLst (vaCons (vC (.bl true)) (vaCons (vC (.str "text")) vaNil)))))
  (vRet (vC (.bl false)))
  vNext))
  (vRet (vC (.bl true)))))

theorem w_law : Meets 1 N_law S_law u_law 0 := by
  rintro ds k x hl ⟨ns, rfl, hn, hk⟩
  unfold u_law
  walk_at "vl"
  · walk_at "vl"
    refine fr_inv (fun i G m => ∃ (o1 o2 o3 o4 o5 o6 o7 : Option Dv), G = [some (.t (.scr ns)), o1, o2, o3, o4, o5, o6, o7] ∧ m = []) ⟨_, _, _, _, _, _, _, rfl, rfl⟩ ?_ ?_
    · rintro i t G' m' e ⟨o1, o2, o3, o4, o5, o6, o7, rfl, rfl⟩
      obtain ⟨hi, rfl⟩ := rng_get e
      walk_at "vl"
      · rename_i z hzl
        intro b ps ws hf ez
        walk_at "vl"
        · intro c hc1 hc2
          cases c with
          | false => exact absurd ⟨b, ps, ws, hf, ez⟩ (hc2 rfl)
          | true =>
            walk_at "vl"
            · intro b' ps' ws' e' hf'
              obtain ⟨rfl, rfl, rfl⟩ := fr_inj3 e'
              walk_at "vl"
              refine sp_neX (t := .lst [.bl false, .str (wr b ps ws)]) (u := .lst [.bl false, .str z]) rfl rfl (by rw [ez]) ?_ (by simp [lay, lays, wr_ok hf])
              walk_at "vl"
              · rename_i hb
                exact hb.1.2.2.mono (by rw [sizeLine_eq]; decide) (by decide)
              · rename_i hb
                walk_at "vl"
                · intro b' ps' ws' e' hf'
                  rw [e', isF_ok hf'] at hb; cases hb.2
                · intro _
                  walk_at "vl"
                  walk_at "vl"
                  refine sp_neX (t := frmR) (u := frmR) rfl rfl rfl ?_ (by decide +kernel)
                  walk_at "vl"
                  · exact hb.1.2.2.mono (by rw [sizeLine_eq]; decide) (by decide)
                  · walk_at "vl"
                    exact ⟨_, _, _, _, _, _, _, rfl, rfl⟩
                · exact hb.1.1
                · exact hb.1.2.1
              all_goals first | assumption | omega | decide | skip
            · intro q; rw [isF_ok hf] at q; cases q
            · exact dt_fr _ _ _
            · have := okF_len hf; have := hf.p2; exact szs_frI (by omega) (by omega)
        · omega
      · rename_i z hzl
        intro hno
        walk_at "vl"
        · intro c hc1 hc2
          cases c with
          | true => exact absurd (hc1 rfl) hno
          | false =>
            walk_at "vl"
            walk_at "vl"
            refine sp_neX (t := txtR) (u := txtR) rfl rfl rfl ?_ (by decide +kernel)
            walk_at "vl"
            · rename_i hb
              exact hb.1.2.2.mono (by rw [sizeLine_eq]; decide) (by decide)
            · rename_i hb
              walk_at "vl"
              · intro b' ps' ws' e' hf'
                rw [e', isF_ok hf'] at hb; cases hb.2
              · intro _
                walk_at "vl"
                walk_at "vl"
                refine sp_neX (t := frmR) (u := frmR) rfl rfl rfl ?_ (by decide +kernel)
                walk_at "vl"
                · exact hb.1.2.2.mono (by rw [sizeLine_eq]; decide) (by decide)
                · walk_at "vl"
                  exact ⟨_, _, _, _, _, _, _, rfl, rfl⟩
              · exact hb.1.1
              · exact hb.1.2.1
            all_goals first | assumption | omega | decide | skip
        · omega
      all_goals first | omega | skip
    · rintro G' m' ⟨o1, o2, o3, o4, o5, o6, o7, rfl, rfl⟩
      walk_at "vl"
      · refine fr_inv (fun i G m => ∃ (o1 o2 o3 o4 o5 o6 o7 : Option Dv), G = [some (.t (.scr ns)), o1, o2, o3, o4, o5, o6, o7] ∧ m = []) ⟨_, _, _, _, _, _, _, rfl, rfl⟩ ?_ ?_
        · rintro i t G' m' e ⟨o1, o2, o3, o4, o5, o6, o7, rfl, rfl⟩
          have hm := mem_at e
          simp only [List.mem_cons, List.not_mem_nil, or_false] at hm
          clear e
          rcases hm with rfl | rfl | rfl | rfl | rfl | rfl | rfl
          all_goals (walk_at "vl"
                     · walk_at "vl"
                       refine sp_neX (t := txtR) (u := txtR) rfl rfl rfl ?_ (by decide +kernel)
                       walk_at "vl"
                       exact ⟨_, _, _, _, _, _, _, rfl, rfl⟩
                     all_goals first | rfl | skip)
        · rintro G' m' ⟨o1, o2, o3, o4, o5, o6, o7, rfl, rfl⟩
          walk_at "vl"
          exact hk
      all_goals skip
  all_goals omega
def top (i : Nat) : Stmt := PySem.Challenge.pw_likehalves_k39_texts_that_write_no_frame.main.body.getD i (.Pass ⟨0, 0, 0, 0⟩)
abbrev st_is_whole : Stmt := top 19
theorem sc_is_whole : FnScope N_is_whole ["thing"] (defScope st_is_whole) := ⟨rfl, rfl, rfl, by decide +kernel, rfl, by decide +kernel, by decide +kernel⟩
abbrev st_is_weight : Stmt := top 20
theorem sc_is_weight : FnScope N_is_weight ["thing"] (defScope st_is_weight) := ⟨rfl, rfl, rfl, by decide +kernel, rfl, by decide +kernel, by decide +kernel⟩
abbrev st_are_parts : Stmt := top 21
theorem sc_are_parts : FnScope N_are_parts ["thing"] (defScope st_are_parts) := ⟨rfl, rfl, rfl, by decide +kernel, rfl, by decide +kernel, by decide +kernel⟩
abbrev st_is_frame : Stmt := top 22
theorem sc_is_frame : FnScope N_is_frame ["thing"] (defScope st_is_frame) := ⟨rfl, rfl, rfl, by decide +kernel, rfl, by decide +kernel, by decide +kernel⟩
abbrev st_show_frame : Stmt := top 25
theorem sc_show_frame : FnScope N_show_frame ["frame"] (defScope st_show_frame) := ⟨rfl, rfl, rfl, by decide +kernel, rfl, by decide +kernel, by decide +kernel⟩
abbrev st_read_word : Stmt := top 26
theorem sc_read_word : FnScope N_read_word ["word"] (defScope st_read_word) := ⟨rfl, rfl, rfl, by decide +kernel, rfl, by decide +kernel, by decide +kernel⟩
abbrev st_read_frame : Stmt := top 27
theorem sc_read_frame : FnScope N_read_frame ["text"] (defScope st_read_frame) := ⟨rfl, rfl, rfl, by decide +kernel, rfl, by decide +kernel, by decide +kernel⟩
abbrev st_law_cell : Stmt := top 29
theorem sc_law_cell : FnScope N_law_cell ["script", "k"] (defScope st_law_cell) := ⟨rfl, rfl, rfl, by decide +kernel, rfl, by decide +kernel, by decide +kernel⟩
abbrev st_law_mixed : Stmt := top 30
theorem sc_law_mixed : FnScope N_law_mixed ["cell", "k"] (defScope st_law_mixed) := ⟨rfl, rfl, rfl, by decide +kernel, rfl, by decide +kernel, by decide +kernel⟩
abbrev st_law_frame : Stmt := top 31
theorem sc_law_frame : FnScope N_law_frame ["cell", "most"] (defScope st_law_frame) := ⟨rfl, rfl, rfl, by decide +kernel, rfl, by decide +kernel, by decide +kernel⟩
abbrev st_law_written : Stmt := top 32
theorem sc_law_written : FnScope N_law_written ["frame"] (defScope st_law_written) := ⟨rfl, rfl, rfl, by decide +kernel, rfl, by decide +kernel, by decide +kernel⟩
abbrev st_law_number : Stmt := top 33
theorem sc_law_number : FnScope N_law_number ["word"] (defScope st_law_number) := ⟨rfl, rfl, rfl, by decide +kernel, rfl, by decide +kernel, by decide +kernel⟩
abbrev st_law_writes : Stmt := top 34
theorem sc_law_writes : FnScope N_law_writes ["text"] (defScope st_law_writes) := ⟨rfl, rfl, rfl, by decide +kernel, rfl, by decide +kernel, by decide +kernel⟩
abbrev st_law_odd : Stmt := top 35
theorem sc_law_odd : FnScope N_law_odd ["cell"] (defScope st_law_odd) := ⟨rfl, rfl, rfl, by decide +kernel, rfl, by decide +kernel, by decide +kernel⟩
abbrev st_law_given : Stmt := top 36
theorem sc_law_given : FnScope N_law_given ["cell"] (defScope st_law_given) := ⟨rfl, rfl, rfl, by decide +kernel, rfl, by decide +kernel, by decide +kernel⟩
abbrev st_law_asked : Stmt := top 37
theorem sc_law_asked : FnScope N_law_asked ["ask", "thing"] (defScope st_law_asked) := ⟨rfl, rfl, rfl, by decide +kernel, rfl, by decide +kernel, by decide +kernel⟩
abbrev st_law_bad : Stmt := top 38
theorem sc_law_bad : FnScope N_law_bad ["frame", "cell"] (defScope st_law_bad) := ⟨rfl, rfl, rfl, by decide +kernel, rfl, by decide +kernel, by decide +kernel⟩
abbrev st_law : Stmt := top 39
theorem sc_law : FnScope N_law ["script"] (defScope st_law) := ⟨rfl, rfl, rfl, by decide +kernel, rfl, by decide +kernel, by decide +kernel⟩

structure Txt (mg : Str → Option Value) : Prop where
  b_isinstance : mg "isinstance" = none
  b_int : mg "int" = none
  b_bool : mg "bool" = none
  b_abs : mg "abs" = none
  b_list : mg "list" = none
  b_len : mg "len" = none
  b_tuple : mg "tuple" = none
  b_sum : mg "sum" = none
  b_str : mg "str" = none
  b_range : mg "range" = none
  b_min : mg "min" = none
  b_max : mg "max" = none
  b_ValueError : mg "ValueError" = none
  b_repr : mg "repr" = none
  c_GREATEST_WEIGHT : ∃ t, mg "GREATEST_WEIGHT" = some (.int 9 t)
  c_FEWEST_PARTS : ∃ t, mg "FEWEST_PARTS" = some (.int 2 t)
  c_MOST_PARTS : ∃ t, mg "MOST_PARTS" = some (.int 4 t)
  c_LONGEST_PART : ∃ t, mg "LONGEST_PART" = some (.int 6 t)
  c_LEAST_BASE : ∃ t, mg "LEAST_BASE" = some (.int 2 t)
  c_MOST_BASE : ∃ t, mg "MOST_BASE" = some (.int 16 t)
  c_FIGURES : ∃ t, mg "FIGURES" = some (.str "0123456789" t)
section
variable {P : Program} {w : World} {K : PySem.W.Frag} {mg : Str → Option Value} {base : Heap}
theorem ok_is_whole {f : Addr} {fd : FuncData} (Z : Rsc) (hz : Z.n0 = 0) (T : Txt mg) (F : Fun K "is_whole" "is_whole" st_is_whole f fd) (TX : ExT K mg xnames xclasses) : FnOk P w K mg base CX0 1 f fd ["thing"] (liftS K mg Z 1 S_is_whole) :=
  fun_S Z hz 0 F sc_is_whole (fun cdv A outer s H E hr =>
  (vs_one (vs_ret (v_and (v_isi "int" rfl T.b_isinstance (va_cons (v_var 0) (va_cons (v_ty rfl T.b_int (by decide +kernel)) va_nil))) (v_one (v_not (v_isi "bool" rfl T.b_isinstance (va_cons (v_var 0) (va_cons (v_ty rfl T.b_bool (by decide +kernel)) va_nil))))))))) w_is_whole
theorem ok_is_weight {f : Addr} {fd : FuncData} (Z : Rsc) (hz : Z.n0 = 0) (T : Txt mg) (F : Fun K "is_weight" "is_weight" st_is_weight f fd) (TX : ExT K mg xnames xclasses) (D_is_whole : ∀ Z : Rsc, Z.n0 = 0 → Df P w K mg base CX0 1 "is_whole" ["thing"] Z S_is_whole) : FnOk P w K mg base CX0 2 f fd ["thing"] (liftS K mg Z 1 S_is_weight) :=
  fun_S Z hz 0 F sc_is_weight (fun cdv A outer s H E hr =>
  (vs_one (vs_ret (v_and (v_callD (D_is_whole Z hz) rfl hz S_is_whole.len (hr.mono (by decide)) rfl pas0 (va_cons (v_var 0) va_nil)) (v_one (v_le (v_abs rfl T.b_abs (va_cons (v_var 0) va_nil)) (v_globI rfl T.c_GREATEST_WEIGHT))))))) w_is_weight
theorem ok_are_parts {f : Addr} {fd : FuncData} (Z : Rsc) (hz : Z.n0 = 0) (T : Txt mg) (F : Fun K "are_parts" "are_parts" st_are_parts f fd) (TX : ExT K mg xnames xclasses) (D_is_whole : ∀ Z : Rsc, Z.n0 = 0 → Df P w K mg base CX0 1 "is_whole" ["thing"] Z S_is_whole) : FnOk P w K mg base CX0 2 f fd ["thing"] (liftS K mg Z 1 S_are_parts) :=
  fun_S Z hz 0 F sc_are_parts (fun cdv A outer s H E hr =>
  (vs_cons (vs_if (PW.pt (vw_or (vt_not (vt_val (v_isi "list" rfl T.b_isinstance (va_cons (v_var 0) (va_cons (v_ty rfl T.b_list (by decide +kernel)) va_nil))))) (vw_or1 (vt_not (vt_chLL (v_globI rfl T.c_FEWEST_PARTS) (v_len rfl T.b_len (va_cons (v_var 0) va_nil)) (v_globI rfl T.c_MOST_PARTS))))))
  (vs_one (vs_ret v_bl))
  vs_nil)
  (vs_cons (vs_ret (v_eqN hr (v_lc (W' := W0) rfl sc_are_parts.nd (vi_list (v_var 0)) (blkOk_by (own := [("one", 1)]) (N := N_are_parts) (sc := defScope st_are_parts) (by decide +kernel)) (fun _ _ _ _ _ => (vg_name (i := 1) (o := (some [1])) rfl sc_are_parts.nd rfl (by first | exact Or.inl rfl | exact Or.inr rfl))) (fun _ _ _ _ _ => vts_one (PW.pt (vw_or (vt_not (vt_val (v_callD (D_is_whole Z hz) rfl hz S_is_whole.len (hr.mono (by decide)) rfl pas0 (va_cons (v_var 1) va_nil)))) (vw_or1 (vt_not (vt_chLL v_int (v_var 1) (v_globI rfl T.c_LONGEST_PART))))))) (fun _ _ _ _ _ => (v_var 1))) (v_lst va_nil))) vs_nil))) w_are_parts
theorem ok_is_frame {f : Addr} {fd : FuncData} (Z : Rsc) (hz : Z.n0 = 0) (T : Txt mg) (F : Fun K "is_frame" "is_frame" st_is_frame f fd) (TX : ExT K mg xnames xclasses) (D_is_whole : ∀ Z : Rsc, Z.n0 = 0 → Df P w K mg base CX0 1 "is_whole" ["thing"] Z S_is_whole) (D_are_parts : ∀ Z : Rsc, Z.n0 = 0 → Df P w K mg base CX0 2 "are_parts" ["thing"] Z S_are_parts) (D_is_weight : ∀ Z : Rsc, Z.n0 = 0 → Df P w K mg base CX0 2 "is_weight" ["thing"] Z S_is_weight) : FnOk P w K mg base CX0 3 f fd ["thing"] (liftS K mg Z 1 S_is_frame) :=
  fun_S Z hz 0 F sc_is_frame (fun cdv A outer s H E hr =>
  (vs_cons (vs_if (PW.pt (vw_or (vt_not (vt_val (v_isi "tuple" rfl T.b_isinstance (va_cons (v_var 0) (va_cons (v_ty rfl T.b_tuple (by decide +kernel)) va_nil))))) (vw_or1 (vt_ne hr (v_len rfl T.b_len (va_cons (v_var 0) va_nil)) v_int))))
  (vs_one (vs_ret v_bl))
  vs_nil)
  (vs_cons (vs_asg (v_var 0) (vg_tup (n := 3) rfl (vgs_cons (vg_name (i := 1) (o := none) rfl sc_is_frame.nd rfl (by first | exact Or.inl rfl | exact Or.inr rfl)) (vgs_cons (vg_name (i := 2) (o := none) rfl sc_is_frame.nd rfl (by first | exact Or.inl rfl | exact Or.inr rfl)) (vgs_cons (vg_name (i := 3) (o := none) rfl sc_is_frame.nd rfl (by first | exact Or.inl rfl | exact Or.inr rfl)) vgs_nil)))))
  (vs_cons (vs_if (PW.pt (vw_or (vt_not (vt_val (v_callD (D_is_whole Z hz) rfl hz S_is_whole.len (hr.mono (by decide)) rfl pas0 (va_cons (v_var 1) va_nil)))) (vw_or (vt_not (vt_chLL (v_globI rfl T.c_LEAST_BASE) (v_var 1) (v_globI rfl T.c_MOST_BASE))) (vw_or1 (vt_not (vt_val (v_callD (D_are_parts Z hz) rfl hz S_are_parts.len (hr.mono (by decide)) rfl pas0 (va_cons (v_var 2) va_nil))))))))
  (vs_one (vs_ret v_bl))
  vs_nil)
  (vs_cons (vs_if (PW.pt (vw_or (vt_not (vt_val (v_isi "list" rfl T.b_isinstance (va_cons (v_var 3) (va_cons (v_ty rfl T.b_list (by decide +kernel)) va_nil))))) (vw_or1 (vt_ne hr (v_len rfl T.b_len (va_cons (v_var 3) va_nil)) (v_sum rfl rfl T.b_sum (va_cons (v_var 2) va_nil))))))
  (vs_one (vs_ret v_bl))
  vs_nil)
  (vs_cons (vs_ret (v_eqN hr (v_lc (W' := W0) rfl sc_is_frame.nd (vi_list (v_var 3)) (blkOk_by (own := [("one", 4)]) (N := N_is_frame) (sc := defScope st_is_frame) (by decide +kernel)) (fun _ _ _ _ _ => (vg_name (i := 4) (o := (some [4])) rfl sc_is_frame.nd rfl (by first | exact Or.inl rfl | exact Or.inr rfl))) (fun _ _ _ _ _ => vts_one (vt_not (vt_val (v_callD (D_is_weight Z hz) rfl hz S_is_weight.len (hr.mono (by decide)) rfl pas0 (va_cons (v_var 4) va_nil))))) (fun _ _ _ _ _ => (v_var 4))) (v_lst va_nil))) vs_nil)))))) w_is_frame
theorem ok_show_frame {f : Addr} {fd : FuncData} (Z : Rsc) (hz : Z.n0 = 0) (T : Txt mg) (F : Fun K "show_frame" "show_frame" st_show_frame f fd) (TX : ExT K mg xnames xclasses) (D_is_frame : ∀ Z : Rsc, Z.n0 = 0 → Df P w K mg base CX0 3 "is_frame" ["thing"] Z S_is_frame) : FnOk P w K mg base (L2.CX P w) 4 f fd ["frame"] (liftS K mg Z 1 S_show_frame) :=
  fun_X Z hz 0 F sc_show_frame (fun cdv A outer s H E hr =>
  (vs_cons (vs_if (vt_not (vt_val (v_callD (D_is_frame Z hz) rfl hz S_is_frame.len (hr.mono (by decide)) rfl pas0 (va_cons (v_var 0) va_nil))))
  (vs_one (vs_raiseT TX (takes_of rfl rfl rfl rfl) rfl))
  vs_nil)
  (vs_cons (vs_set (i := 1) sc_show_frame.nd rfl (by first | exact Or.inl rfl | exact Or.inr rfl) (v_join v_str (v_lc (W' := W0) rfl sc_show_frame.nd (vi_list (v_idx hr (v_var 0) v_int)) (blkOk_by (own := [("part", 2)]) (N := N_show_frame) (sc := defScope st_show_frame) (by decide +kernel)) (fun _ _ _ _ _ => (vg_name (i := 2) (o := (some [2])) rfl sc_show_frame.nd rfl (by first | exact Or.inl rfl | exact Or.inr rfl))) (fun _ _ _ _ _ => vts_nil) (fun _ _ _ _ _ => (v_strc rfl T.b_str (va_cons (v_var 2) va_nil))))))
  (vs_one (vs_ret (v_add (v_add (v_add (v_add (v_strc rfl T.b_str (va_cons (v_idx hr (v_var 0) v_int) va_nil)) v_str) (v_var 1)) v_str) (v_join v_str (v_lc (W' := W0) rfl sc_show_frame.nd (vi_list (v_idx hr (v_var 0) v_int)) (blkOk_by (own := [("weight", 3)]) (N := N_show_frame) (sc := defScope st_show_frame) (by decide +kernel)) (fun _ _ _ _ _ => (vg_name (i := 3) (o := (some [3])) rfl sc_show_frame.nd rfl (by first | exact Or.inl rfl | exact Or.inr rfl))) (fun _ _ _ _ _ => vts_nil) (fun _ _ _ _ _ => (v_strc rfl T.b_str (va_cons (v_var 3) va_nil))))))))))) w_show_frame
theorem ok_read_word {f : Addr} {fd : FuncData} (Z : Rsc) (hz : Z.n0 = 0) (T : Txt mg) (F : Fun K "read_word" "read_word" st_read_word f fd) (TX : ExT K mg xnames xclasses) : FnOk P w K mg base (L2.CX P w) 1 f fd ["word"] (liftS K mg Z 1 S_read_word) :=
  fun_X Z hz 0 F sc_read_word (fun cdv A outer s H E hr =>
  (vs_cons (vs_set (i := 1) sc_read_word.nd rfl (by first | exact Or.inl rfl | exact Or.inr rfl) (v_var 0))
  (vs_cons (vs_if (vt_eqZ (v_slc (v_var 0) vo_none (vo_some v_int)) v_str)
  (vs_one (vs_set (i := 1) sc_read_word.nd rfl (by first | exact Or.inl rfl | exact Or.inr rfl) (v_slc (v_var 0) (vo_some v_int) vo_none)))
  vs_nil)
  (vs_cons (vs_if (PW.pt (vw_or (vt_not (vt_chLL v_int (v_len rfl T.b_len (va_cons (v_var 1) va_nil)) v_int)) (vw_or1 (vt_neN hr (v_lc (W' := W0) rfl sc_read_word.nd (vi_str (v_var 1)) (blkOk_by (own := [("sign", 2)]) (N := N_read_word) (sc := defScope st_read_word) (by decide +kernel)) (fun _ _ _ _ _ => (vg_name (i := 2) (o := (some [2])) rfl sc_read_word.nd rfl (by first | exact Or.inl rfl | exact Or.inr rfl))) (fun _ _ _ _ _ => vts_one (vt_notin hr (v_var 2) (v_globS rfl T.c_FIGURES))) (fun _ _ _ _ _ => (v_var 2))) (v_lst va_nil)))))
  (vs_one (vs_raiseT TX (takes_of rfl rfl rfl rfl) rfl))
  vs_nil)
  (vs_cons (vs_if (PW.pt (vw_or (vt_eqZ (v_var 0) v_str) (vw_or1 (PW.pt (vw_and (vt_gt (v_len rfl T.b_len (va_cons (v_var 1) va_nil)) v_int) (vw_and1 (vt_eqZ (v_idx hr (v_var 1) v_int) v_str)))))))
  (vs_one (vs_raiseT TX (takes_of rfl rfl rfl rfl) rfl))
  vs_nil)
  (vs_cons (vs_ret (v_intS rfl T.b_int (va_cons (v_var 0) va_nil))) vs_nil)))))) w_read_word
theorem ok_read_frame {f : Addr} {fd : FuncData} (Z : Rsc) (hz : Z.n0 = 0) (T : Txt mg) (F : Fun K "read_frame" "read_frame" st_read_frame f fd) (TX : ExT K mg xnames xclasses) (D_read_word : ∀ Z : Rsc, Z.n0 = 0 → Df P w K mg base (L2.CX P w) 1 "read_word" ["word"] Z S_read_word) (D_is_frame : ∀ Z : Rsc, Z.n0 = 0 → Df P w K mg base CX0 3 "is_frame" ["thing"] Z S_is_frame) : FnOk P w K mg base (L2.CX P w) 4 f fd ["text"] (liftS K mg Z 1 S_read_frame) :=
  fun_X Z hz 0 F sc_read_frame (fun cdv A outer s H E hr =>
  (vs_cons (vs_if (vt_not (vt_val (v_isi "str" rfl T.b_isinstance (va_cons (v_var 0) (va_cons (v_ty rfl T.b_str (by decide +kernel)) va_nil)))))
  (vs_one (vs_raiseT TX (takes_of rfl rfl rfl rfl) rfl))
  vs_nil)
  (vs_cons (vs_set (i := 1) sc_read_frame.nd rfl (by first | exact Or.inl rfl | exact Or.inr rfl) (v_split (v_var 0) v_str))
  (vs_cons (vs_if (vt_ne hr (v_len rfl T.b_len (va_cons (v_var 1) va_nil)) v_int)
  (vs_one (vs_raiseT TX (takes_of rfl rfl rfl rfl) rfl))
  vs_nil)
  (vs_cons (vs_set (i := 2) sc_read_frame.nd rfl (by first | exact Or.inl rfl | exact Or.inr rfl) (v_callD (D_read_word Z hz) rfl hz S_read_word.len (hr.mono (by decide)) rfl (pasX (takes_of rfl rfl rfl rfl)) (va_cons (v_idx hr (v_var 1) v_int) va_nil)))
  (vs_cons (vs_setLcx (W' := W0) (i := 3) (takes_of rfl rfl rfl rfl) rfl rfl rfl sc_read_frame.nd rfl rfl (sw_true rfl rfl rfl (by decide +kernel)) (vi_list (v_split (v_idx hr (v_var 1) v_int) v_str)) (blkOk_by (own := [("word", 5)]) (N := N_read_frame) (sc := defScope st_read_frame) (by decide +kernel)) (fun _ _ _ _ _ => (vg_name (i := 5) (o := (some [5])) rfl sc_read_frame.nd rfl (by first | exact Or.inl rfl | exact Or.inr rfl))) (fun _ _ _ _ _ => vts_nil) (fun _ _ _ _ _ _ pf => (v_callD (D_read_word Z hz) rfl hz S_read_word.len (hr.mono (by decide)) rfl pf (va_cons (v_var 5) va_nil))))
  (vs_cons (vs_setLcx (W' := W0) (i := 4) (takes_of rfl rfl rfl rfl) rfl rfl rfl sc_read_frame.nd rfl rfl (sw_true rfl rfl rfl (by decide +kernel)) (vi_list (v_split (v_idx hr (v_var 1) v_int) v_str)) (blkOk_by (own := [("word", 5)]) (N := N_read_frame) (sc := defScope st_read_frame) (by decide +kernel)) (fun _ _ _ _ _ => (vg_name (i := 5) (o := (some [5])) rfl sc_read_frame.nd rfl (by first | exact Or.inl rfl | exact Or.inr rfl))) (fun _ _ _ _ _ => vts_nil) (fun _ _ _ _ _ _ pf => (v_callD (D_read_word Z hz) rfl hz S_read_word.len (hr.mono (by decide)) rfl pf (va_cons (v_var 5) va_nil))))
  (vs_cons (vs_if (vt_not (vt_val (v_callD (D_is_frame Z hz) rfl hz S_is_frame.len (hr.mono (by decide)) rfl pas0 (va_cons (v_tup (va_cons (v_var 2) (va_cons (v_var 3) (va_cons (v_var 4) va_nil)))) va_nil))))
  (vs_one (vs_raiseT TX (takes_of rfl rfl rfl rfl) rfl))
  vs_nil)
  (vs_cons (vs_ret (v_tup (va_cons (v_var 2) (va_cons (v_var 3) (va_cons (v_var 4) va_nil))))) vs_nil))))))))) w_read_frame
theorem ok_law_cell {f : Addr} {fd : FuncData} (Z : Rsc) (hz : Z.n0 = 0) (T : Txt mg) (F : Fun K "_law_cell" "_law_cell" st_law_cell f fd) (TX : ExT K mg xnames xclasses) : FnOk P w K mg base CX0 1 f fd ["script", "k"] (liftS K mg Z 2 S_law_cell) :=
  fun_S Z hz 0 F sc_law_cell (fun cdv A outer s H E hr =>
  (vs_cons (vs_if (vt_lt (v_var 1) (v_len rfl T.b_len (va_cons (v_var 0) va_nil)))
  (vs_one (vs_ret (v_idx hr (v_var 0) (v_var 1))))
  vs_nil)
  (vs_cons (vs_ret (v_add (v_add (v_mul (v_mul v_int (v_var 1)) (v_var 1)) (v_mul v_int (v_var 1))) v_int)) vs_nil))) w_law_cell
theorem ok_law_mixed {f : Addr} {fd : FuncData} (Z : Rsc) (hz : Z.n0 = 0) (T : Txt mg) (F : Fun K "_law_mixed" "_law_mixed" st_law_mixed f fd) (TX : ExT K mg xnames xclasses) : FnOk P w K mg base CX0 1 f fd ["cell", "k"] (liftS K mg Z 2 S_law_mixed) :=
  fun_S Z hz 0 F sc_law_mixed (fun cdv A outer s H E hr =>
  (vs_cons (vs_set (i := 2) sc_law_mixed.nd rfl (by first | exact Or.inl rfl | exact Or.inr rfl) (v_mod (v_add (v_add (v_add (v_mul (v_var 0) v_int) (v_mul (v_mul v_int (v_var 1)) (v_var 1))) (v_mul v_int (v_var 1))) v_int) v_int))
  (vs_cons (vs_set (i := 3) sc_law_mixed.nd rfl (by first | exact Or.inl rfl | exact Or.inr rfl) (v_lst (va_cons v_int (va_cons v_int (va_cons v_int (va_cons v_int (va_cons v_int (va_cons v_int (va_cons v_int va_nil)))))))))
  (vs_cons (vs_set (i := 2) sc_law_mixed.nd rfl (by first | exact Or.inl rfl | exact Or.inr rfl) (v_mod (v_mul (v_var 2) (v_var 2)) (v_idx hr (v_var 3) (v_mod (v_var 1) v_int))))
  (vs_one (vs_ret (v_div (v_add (v_mul (v_var 2) v_int) (v_mod (v_var 0) v_int)) v_int))))))) w_law_mixed
theorem ok_law_frame {f : Addr} {fd : FuncData} (Z : Rsc) (hz : Z.n0 = 0) (T : Txt mg) (F : Fun K "_law_frame" "_law_frame" st_law_frame f fd) (TX : ExT K mg xnames xclasses) (D_law_mixed : ∀ Z : Rsc, Z.n0 = 0 → Df P w K mg base CX0 1 "_law_mixed" ["cell", "k"] Z S_law_mixed) : FnOk P w K mg base CX0 2 f fd ["cell", "most"] (liftS K mg Z 2 S_law_frame) :=
  fun_S Z hz 1 F sc_law_frame (fun cdv A outer s H E hr =>
  (vs_cons (vs_set (i := 2) sc_law_frame.nd rfl (by first | exact Or.inl rfl | exact Or.inr rfl) (v_add v_int (v_mod (v_var 0) v_int)))
  (vs_cons (vs_setLc (W' := W0) (i := 3) rfl sc_law_frame.nd rfl rfl (sw_true rfl rfl rfl (by decide +kernel)) (vi_range1 rfl T.b_range (v_add v_int (v_mod (v_div (v_var 0) v_int) v_int))) (blkOk_by (own := [("k", 6)]) (N := N_law_frame) (sc := defScope st_law_frame) (by decide +kernel)) (fun _ _ _ _ _ => (vg_name (i := 6) (o := (some [6])) rfl sc_law_frame.nd rfl (by first | exact Or.inl rfl | exact Or.inr rfl))) (fun _ _ _ _ _ => vts_nil) (fun _ _ _ _ _ => (v_add v_int (v_mod (v_callD (D_law_mixed Z hz) rfl hz S_law_mixed.len (hr.mono (by decide)) rfl pas0 (va_cons (v_var 0) (va_cons (v_var 6) va_nil))) (v_var 1)))))
  (vs_cons (vs_if (vt_eq hr (v_mod (v_div (v_var 0) v_int) v_int) v_int)
  (vs_one (vs_set (i := 3) sc_law_frame.nd rfl (by first | exact Or.inl rfl | exact Or.inr rfl) (v_mul (v_lst (va_cons (v_idx hr (v_var 3) v_int) va_nil)) (v_len rfl T.b_len (va_cons (v_var 3) va_nil)))))
  vs_nil)
  (vs_cons (vs_set (i := 4) sc_law_frame.nd rfl (by first | exact Or.inl rfl | exact Or.inr rfl) (v_mod (v_div (v_var 0) v_int) v_int))
  (vs_cons (vs_newL (i := 5) (j := 0) (n0_le hz) sc_law_frame.nd rfl (by first | exact Or.inl rfl | exact Or.inr rfl) va_nil)
  (vs_cons (vs_for PassesOwn.never rfl (vi_range1 rfl T.b_range (v_sum rfl rfl T.b_sum (va_cons (v_var 3) va_nil))) (vg_name (i := 6) (o := none) rfl sc_law_frame.nd rfl (by first | exact Or.inl rfl | exact Or.inr rfl))
  (vs_cons (vs_set (i := 7) sc_law_frame.nd rfl (by first | exact Or.inl rfl | exact Or.inr rfl) (v_callD (D_law_mixed Z hz) rfl hz S_law_mixed.len (hr.mono (by decide)) rfl pas0 (va_cons (v_var 0) (va_cons (v_add v_int (v_var 6)) va_nil))))
  (vs_one (vs_append (fun a b => pe_bm PySem.F.plainAttrs_list PySem.F.slot_list_append PySem.F.type_list_append mt_append a (pa_cons b pa_nil)) (v_var 5) (v_idx hr (v_lst (va_cons v_int (va_cons (v_mod (v_var 7) v_int) (va_cons (v_sub (v_mod (v_var 7) v_int) v_int) (va_cons (v_mul (v_mod (v_var 7) v_int) v_int) (va_cons (v_idx hr (v_lst (va_cons v_int (va_cons (v_neg v_int) va_nil))) (v_mod (v_var 7) v_int)) va_nil)))))) (v_var 4))))))
  (vs_frz (j := 0) (n0_le hz) (vs_one (vs_ret (v_tup (va_cons (v_var 2) (va_cons (v_var 3) (va_cons (v_var 5) va_nil)))))))))))))) w_law_frame
theorem ok_law_written {f : Addr} {fd : FuncData} (Z : Rsc) (hz : Z.n0 = 0) (T : Txt mg) (F : Fun K "_law_written" "_law_written" st_law_written f fd) (TX : ExT K mg xnames xclasses) : FnOk P w K mg base CX0 1 f fd ["frame"] (liftS K mg Z 1 S_law_written) :=
  fun_S Z hz 0 F sc_law_written (fun cdv A outer s H E hr =>
  (vs_cons (vs_set (i := 1) sc_law_written.nd rfl (by first | exact Or.inl rfl | exact Or.inr rfl) (v_join v_str (v_lc (W' := W0) rfl sc_law_written.nd (vi_list (v_idx hr (v_var 0) v_int)) (blkOk_by (own := [("part", 2)]) (N := N_law_written) (sc := defScope st_law_written) (by decide +kernel)) (fun _ _ _ _ _ => (vg_name (i := 2) (o := (some [2])) rfl sc_law_written.nd rfl (by first | exact Or.inl rfl | exact Or.inr rfl))) (fun _ _ _ _ _ => vts_nil) (fun _ _ _ _ _ => (v_strc rfl T.b_str (va_cons (v_var 2) va_nil))))))
  (vs_one (vs_ret (v_add (v_add (v_add (v_add (v_strc rfl T.b_str (va_cons (v_idx hr (v_var 0) v_int) va_nil)) v_str) (v_var 1)) v_str) (v_join v_str (v_lc (W' := W0) rfl sc_law_written.nd (vi_list (v_idx hr (v_var 0) v_int)) (blkOk_by (own := [("weight", 3)]) (N := N_law_written) (sc := defScope st_law_written) (by decide +kernel)) (fun _ _ _ _ _ => (vg_name (i := 3) (o := (some [3])) rfl sc_law_written.nd rfl (by first | exact Or.inl rfl | exact Or.inr rfl))) (fun _ _ _ _ _ => vts_nil) (fun _ _ _ _ _ => (v_strc rfl T.b_str (va_cons (v_var 3) va_nil)))))))))) w_law_written
theorem ok_law_number {f : Addr} {fd : FuncData} (Z : Rsc) (hz : Z.n0 = 0) (T : Txt mg) (F : Fun K "_law_number" "_law_number" st_law_number f fd) (TX : ExT K mg xnames xclasses) : FnOk P w K mg base CX0 1 f fd ["word"] (liftS K mg Z 1 S_law_number) :=
  fun_S Z hz 0 F sc_law_number (fun cdv A outer s H E hr =>
  (vs_cons (vs_set (i := 1) sc_law_number.nd rfl (by first | exact Or.inl rfl | exact Or.inr rfl) (v_slc (v_var 0) (vo_some (v_intc rfl T.b_int (va_cons (v_eqZ (v_slc (v_var 0) vo_none (vo_some v_int)) v_str) va_nil))) vo_none))
  (vs_cons (vs_if (PW.pt (vw_or (vt_eqZ (v_var 1) v_str) (vw_or (vt_neZ (v_strip (v_add v_str (v_var 1)) v_str) v_str) (vw_or1 (vt_eqZ (v_var 0) v_str)))))
  (vs_one (vs_ret v_non))
  vs_nil)
  (vs_cons (vs_if (PW.pt (vw_and (vt_gt (v_len rfl T.b_len (va_cons (v_var 1) va_nil)) v_int) (vw_and1 (vt_eqZ (v_idx hr (v_var 1) v_int) v_str))))
  (vs_one (vs_ret v_non))
  vs_nil)
  (vs_cons (vs_ret (v_intS rfl T.b_int (va_cons (v_var 0) va_nil))) vs_nil))))) w_law_number
theorem ok_law_writes {f : Addr} {fd : FuncData} (Z : Rsc) (hz : Z.n0 = 0) (T : Txt mg) (F : Fun K "_law_writes" "_law_writes" st_law_writes f fd) (TX : ExT K mg xnames xclasses) (D_law_number : ∀ Z : Rsc, Z.n0 = 0 → Df P w K mg base CX0 1 "_law_number" ["word"] Z S_law_number) : FnOk P w K mg base CX0 2 f fd ["text"] (liftS K mg Z 1 S_law_writes) :=
  fun_S Z hz 0 F sc_law_writes (fun cdv A outer s H E hr =>
  (vs_cons (vs_set (i := 1) sc_law_writes.nd rfl (by first | exact Or.inl rfl | exact Or.inr rfl) (v_split (v_var 0) v_str))
  (vs_cons (vs_if (vt_ne hr (v_len rfl T.b_len (va_cons (v_var 1) va_nil)) v_int)
  (vs_one (vs_ret v_bl))
  vs_nil)
  (vs_cons (vs_set (i := 2) sc_law_writes.nd rfl (by first | exact Or.inl rfl | exact Or.inr rfl) (v_callD (D_law_number Z hz) rfl hz S_law_number.len (hr.mono (by decide)) rfl pas0 (va_cons (v_idx hr (v_var 1) v_int) va_nil)))
  (vs_cons (vs_setLc (W' := W0) (i := 3) rfl sc_law_writes.nd rfl rfl (sw_true rfl rfl rfl (by decide +kernel)) (vi_list (v_split (v_idx hr (v_var 1) v_int) v_str)) (blkOk_by (own := [("word", 5)]) (N := N_law_writes) (sc := defScope st_law_writes) (by decide +kernel)) (fun _ _ _ _ _ => (vg_name (i := 5) (o := (some [5])) rfl sc_law_writes.nd rfl (by first | exact Or.inl rfl | exact Or.inr rfl))) (fun _ _ _ _ _ => vts_nil) (fun _ _ _ _ _ => (v_callD (D_law_number Z hz) rfl hz S_law_number.len (hr.mono (by decide)) rfl pas0 (va_cons (v_var 5) va_nil))))
  (vs_cons (vs_setLc (W' := W0) (i := 4) rfl sc_law_writes.nd rfl rfl (sw_true rfl rfl rfl (by decide +kernel)) (vi_list (v_split (v_idx hr (v_var 1) v_int) v_str)) (blkOk_by (own := [("word", 5)]) (N := N_law_writes) (sc := defScope st_law_writes) (by decide +kernel)) (fun _ _ _ _ _ => (vg_name (i := 5) (o := (some [5])) rfl sc_law_writes.nd rfl (by first | exact Or.inl rfl | exact Or.inr rfl))) (fun _ _ _ _ _ => vts_nil) (fun _ _ _ _ _ => (v_callD (D_law_number Z hz) rfl hz S_law_number.len (hr.mono (by decide)) rfl pas0 (va_cons (v_var 5) va_nil))))
  (vs_cons (vs_if (PW.pt (vw_or (vt_is (v_var 2) v_non) (vw_or (vt_in hr v_non (v_var 3)) (vw_or1 (vt_in hr v_non (v_var 4))))))
  (vs_one (vs_ret v_bl))
  vs_nil)
  (vs_cons (vs_if (PW.pt (vw_or (vt_not (vt_chLL v_int (v_var 2) v_int)) (vw_or1 (vt_not (vt_chLL v_int (v_len rfl T.b_len (va_cons (v_var 3) va_nil)) v_int)))))
  (vs_one (vs_ret v_bl))
  vs_nil)
  (vs_cons (vs_if (PW.pt (vw_or (vt_lt (v_min rfl rfl T.b_min (va_cons (v_var 3) va_nil)) v_int) (vw_or (vt_gt (v_max rfl rfl T.b_max (va_cons (v_var 3) va_nil)) v_int) (vw_or1 (vt_ne hr (v_len rfl T.b_len (va_cons (v_var 4) va_nil)) (v_sum rfl rfl T.b_sum (va_cons (v_var 3) va_nil)))))))
  (vs_one (vs_ret v_bl))
  vs_nil)
  (vs_cons (vs_ret (v_and (v_ge (v_min rfl rfl T.b_min (va_cons (v_var 4) va_nil)) (v_neg v_int)) (v_one (v_le (v_max rfl rfl T.b_max (va_cons (v_var 4) va_nil)) v_int)))) vs_nil)))))))))) w_law_writes
theorem ok_law_odd {f : Addr} {fd : FuncData} (Z : Rsc) (hz : Z.n0 = 0) (T : Txt mg) (F : Fun K "_law_odd" "_law_odd" st_law_odd f fd) (TX : ExT K mg xnames xclasses) : FnOk P w K mg base CX0 1 f fd ["cell"] (liftS K mg Z 1 S_law_odd) :=
  fun_S Z hz 0 F sc_law_odd (fun cdv A outer s H E hr =>
  (vs_cons (vs_set (i := 1) sc_law_odd.nd rfl (by first | exact Or.inl rfl | exact Or.inr rfl) (v_lst (va_cons v_str (va_cons v_str (va_cons v_str (va_cons v_str (va_cons v_str (va_cons v_str va_nil))))))))
  (vs_cons (vs_set (i := 1) sc_law_odd.nd rfl (by first | exact Or.inl rfl | exact Or.inr rfl) (v_add (v_var 1) (v_lst (va_cons v_str (va_cons v_str (va_cons v_str (va_cons v_str (va_cons v_str va_nil))))))))
  (vs_cons (vs_set (i := 1) sc_law_odd.nd rfl (by first | exact Or.inl rfl | exact Or.inr rfl) (v_add (v_var 1) (v_lst (va_cons v_str (va_cons v_str (va_cons v_str (va_cons v_str (va_cons v_str va_nil))))))))
  (vs_cons (vs_set (i := 1) sc_law_odd.nd rfl (by first | exact Or.inl rfl | exact Or.inr rfl) (v_add (v_var 1) (v_lst (va_cons v_str (va_cons v_str (va_cons v_str (va_cons v_str va_nil)))))))
  (vs_cons (vs_set (i := 1) sc_law_odd.nd rfl (by first | exact Or.inl rfl | exact Or.inr rfl) (v_add (v_var 1) (v_lst (va_cons v_str (va_cons v_str (va_cons v_str (va_cons v_str va_nil)))))))
  (vs_cons (vs_set (i := 1) sc_law_odd.nd rfl (by first | exact Or.inl rfl | exact Or.inr rfl) (v_add (v_var 1) (v_lst (va_cons v_str (va_cons v_str (va_cons v_str va_nil))))))
  (vs_cons (vs_set (i := 1) sc_law_odd.nd rfl (by first | exact Or.inl rfl | exact Or.inr rfl) (v_add (v_var 1) (v_lst (va_cons v_str (va_cons v_str (va_cons v_str (va_cons v_str (va_cons v_str va_nil))))))))
  (vs_cons (vs_set (i := 1) sc_law_odd.nd rfl (by first | exact Or.inl rfl | exact Or.inr rfl) (v_add (v_var 1) (v_lst (va_cons v_str (va_cons v_str (va_cons v_str (va_cons v_str va_nil)))))))
  (vs_cons (vs_set (i := 1) sc_law_odd.nd rfl (by first | exact Or.inl rfl | exact Or.inr rfl) (v_add (v_var 1) (v_lst (va_cons v_str (va_cons v_str (va_cons v_str (va_cons v_str (va_cons v_str va_nil))))))))
  (vs_cons (vs_set (i := 1) sc_law_odd.nd rfl (by first | exact Or.inl rfl | exact Or.inr rfl) (v_add (v_var 1) (v_lst (va_cons v_str (va_cons v_str (va_cons v_str (va_cons v_str va_nil)))))))
  (vs_cons (vs_set (i := 1) sc_law_odd.nd rfl (by first | exact Or.inl rfl | exact Or.inr rfl) (v_add (v_var 1) (v_lst (va_cons v_str (va_cons v_str (va_cons v_str (va_cons v_str (va_cons v_str va_nil))))))))
  (vs_cons (vs_set (i := 1) sc_law_odd.nd rfl (by first | exact Or.inl rfl | exact Or.inr rfl) (v_add (v_var 1) (v_lst (va_cons v_str (va_cons v_str (va_cons v_str (va_cons v_str va_nil)))))))
  (vs_one (vs_ret (v_idx hr (v_var 1) (v_mod (v_var 0) (v_len rfl T.b_len (va_cons (v_var 1) va_nil))))))))))))))))))) w_law_odd
theorem ok_law_given {f : Addr} {fd : FuncData} (Z : Rsc) (hz : Z.n0 = 0) (T : Txt mg) (F : Fun K "_law_given" "_law_given" st_law_given f fd) (TX : ExT K mg xnames xclasses) (D_law_odd : ∀ Z : Rsc, Z.n0 = 0 → Df P w K mg base CX0 1 "_law_odd" ["cell"] Z S_law_odd) (D_law_mixed : ∀ Z : Rsc, Z.n0 = 0 → Df P w K mg base CX0 1 "_law_mixed" ["cell", "k"] Z S_law_mixed) (D_law_frame : ∀ Z : Rsc, Z.n0 = 0 → Df P w K mg base CX0 2 "_law_frame" ["cell", "most"] Z S_law_frame) (D_law_written : ∀ Z : Rsc, Z.n0 = 0 → Df P w K mg base CX0 1 "_law_written" ["frame"] Z S_law_written) : FnOk P w K mg base CX0 3 f fd ["cell"] (liftS K mg Z 1 S_law_given) :=
  fun_S Z hz 0 F sc_law_given (fun cdv A outer s H E hr =>
  (vs_cons (vs_set (i := 1) sc_law_given.nd rfl (by first | exact Or.inl rfl | exact Or.inr rfl) (v_mod (v_var 0) v_int))
  (vs_cons (vs_if (vt_eq hr (v_var 1) v_int)
  (vs_one (vs_ret (v_callD (D_law_odd Z hz) rfl hz S_law_odd.len (hr.mono (by decide)) rfl pas0 (va_cons (v_div (v_var 0) v_int) va_nil))))
  vs_nil)
  (vs_cons (vs_set (i := 2) sc_law_given.nd rfl (by first | exact Or.inl rfl | exact Or.inr rfl) (v_callD (D_law_written Z hz) rfl hz S_law_written.len (hr.mono (by decide)) rfl pas0 (va_cons (v_callD (D_law_frame Z hz) rfl hz S_law_frame.len (hr.mono (by decide)) rfl pas0 (va_cons (v_callD (D_law_mixed Z hz) rfl hz S_law_mixed.len (hr.mono (by decide)) rfl pas0 (va_cons (v_var 0) (va_cons v_int va_nil))) (va_cons v_int va_nil))) va_nil)))
  (vs_cons (vs_set (i := 3) sc_law_given.nd rfl (by first | exact Or.inl rfl | exact Or.inr rfl) v_str)
  (vs_cons (vs_if (vt_gt (v_mod (v_div (v_var 0) v_int) v_int) v_int)
  (vs_one (vs_set (i := 3) sc_law_given.nd rfl (by first | exact Or.inl rfl | exact Or.inr rfl) v_str))
  vs_nil)
  (vs_cons (vs_set (i := 4) sc_law_given.nd rfl (by first | exact Or.inl rfl | exact Or.inr rfl) (v_mod (v_div (v_var 0) v_int) (v_add (v_len rfl T.b_len (va_cons (v_var 2) va_nil)) v_int)))
  (vs_cons (vs_set (i := 5) sc_law_given.nd rfl (by first | exact Or.inl rfl | exact Or.inr rfl) (v_idx hr (v_var 3) (v_mod (v_div (v_var 0) v_int) (v_len rfl T.b_len (va_cons (v_var 3) va_nil)))))
  (vs_cons (vs_if (vt_eq hr (v_var 1) v_int)
  (vs_one (vs_ret (v_add (v_slc (v_var 2) vo_none (vo_some (v_var 4))) (v_slc (v_var 2) (vo_some (v_add (v_var 4) v_int)) vo_none))))
  vs_nil)
  (vs_cons (vs_ret (v_add (v_add (v_slc (v_var 2) vo_none (vo_some (v_var 4))) (v_var 5)) (v_slc (v_var 2) (vo_some (v_add (v_var 4) (v_intc rfl T.b_int (va_cons (v_eq hr (v_var 1) v_int) va_nil)))) vo_none))) vs_nil)))))))))) w_law_given
theorem ok_law_asked {f : Addr} {fd : FuncData} (Z : Rsc) (hz : Z.n0 = 0) (T : Txt mg) (F : Fun K "_law_asked" "_law_asked" st_law_asked f fd) (TX : ExT K mg xnames xclasses) (D_read_frame : ∀ Z : Rsc, Z.n0 = 0 → Df P w K mg base (L2.CX P w) 4 "read_frame" ["text"] Z S_read_frame) (D_show_frame : ∀ Z : Rsc, Z.n0 = 0 → Df P w K mg base (L2.CX P w) 4 "show_frame" ["frame"] Z S_show_frame) : FnOk P w K mg base CX0 5 f fd ["ask", "thing"] (liftS K mg Z 2 S_law_asked) :=
  fun_S Z hz 1 F sc_law_asked (fun cdv A outer s H E hr =>
  (vs_cons (vs_newL (i := 2) (j := 0) (n0_le hz) sc_law_asked.nd rfl (by first | exact Or.inl rfl | exact Or.inr rfl) (va_cons v_bl (va_cons v_non va_nil)))
  (vs_cons (vs_tryT (i := 3) TX rfl rfl rfl sc_law_asked.nd rfl (by rfl) rfl (fun W pn xe tk pw =>
  (vs_one (vs_if (vt_eq hr (v_var 0) v_int)
  (vs_one (vs_setI (hu_of hr) (v_var 2) v_int (v_callD (D_read_frame Z hz) rfl hz S_read_frame.len (hr.mono (by decide)) rfl (pasX tk) (va_cons (v_var 1) va_nil)) (fun g => ps_asg (v_callD (D_read_frame Z hz) rfl hz S_read_frame.len (hr.mono (by decide)) rfl (pasX tk) (va_cons (v_var 1) va_nil)) g)))
  (vs_one (vs_setI (hu_of hr) (v_var 2) v_int (v_callD (D_show_frame Z hz) rfl hz S_show_frame.len (hr.mono (by decide)) rfl (pasX tk) (va_cons (v_var 1) va_nil)) (fun g => ps_asg (v_callD (D_show_frame Z hz) rfl hz S_show_frame.len (hr.mono (by decide)) rfl (pasX tk) (va_cons (v_var 1) va_nil)) g)))))) (fun a pn =>
  (vs_cons (vs_set (i := 4) sc_law_asked.nd rfl (by first | exact Or.inl rfl | exact Or.inr rfl) (v_lst (va_cons (v_isX TX rfl T.b_isinstance (va_cons (v_var 3) (va_cons (v_cls TX rfl rfl) va_nil))) (va_cons (v_isX TX rfl T.b_isinstance (va_cons (v_var 3) (va_cons (v_cls TX rfl rfl) va_nil))) (va_cons (v_isV TX rfl T.b_isinstance (va_cons (v_var 3) (va_cons (v_ty rfl T.b_ValueError (by decide +kernel)) va_nil))) va_nil)))))
  (vs_cons (vs_set (i := 5) sc_law_asked.nd rfl (by first | exact Or.inl rfl | exact Or.inr rfl) (v_isXT TX rfl T.b_isinstance (va_cons (v_var 3) (va_cons (v_tup (va_cons (v_cls TX rfl rfl) (va_cons (v_cls TX rfl rfl) (va_cons (v_cls TX rfl rfl) (va_cons (v_cls TX rfl rfl) (va_cons (v_cls TX rfl rfl) va_nil)))))) va_nil))))
  (vs_cons (vs_set (i := 5) sc_law_asked.nd rfl (by first | exact Or.inl rfl | exact Or.inr rfl) (v_or (v_var 5) (v_one (v_isXT TX rfl T.b_isinstance (va_cons (v_var 3) (va_cons (v_tup (va_cons (v_cls TX rfl rfl) (va_cons (v_cls TX rfl rfl) (va_cons (v_cls TX rfl rfl) va_nil)))) va_nil))))))
  (vs_cons (vs_newL (i := 2) (j := 0) (n0_le hz) sc_law_asked.nd rfl (by first | exact Or.inl rfl | exact Or.inr rfl) (va_cons v_bl (va_cons v_str va_nil)))
  (vs_one (vs_if (PW.pt (vw_and (vt_val (v_idxU hr.units (v_var 4) v_int)) (vw_and (vt_not (vt_val (v_var 5))) (vw_and1 (vt_neU hr.units (v_idxU hr.units (v_var 4) v_int) (v_idxU hr.units (v_var 4) v_int))))))
  (vs_one (vs_newL (i := 2) (j := 0) (n0_le hz) sc_law_asked.nd rfl (by first | exact Or.inl rfl | exact Or.inr rfl) (va_cons v_bl (va_cons (v_idxU hr.units (v_lst (va_cons v_str (va_cons v_str va_nil))) (v_intc rfl T.b_int (va_cons (v_idxU hr.units (v_var 4) v_int) va_nil))) va_nil))))
  vs_nil))))))))
  (vs_frz (j := 0) (n0_le hz) (vs_one (vs_ret (v_var 2))))))) w_law_asked
theorem ok_law_bad {f : Addr} {fd : FuncData} (Z : Rsc) (hz : Z.n0 = 0) (T : Txt mg) (F : Fun K "_law_bad" "_law_bad" st_law_bad f fd) (TX : ExT K mg xnames xclasses) : FnOk P w K mg base CX0 1 f fd ["frame", "cell"] (liftS K mg Z 2 S_law_bad) :=
  fun_S Z hz 1 F sc_law_bad (fun cdv A outer s H E hr =>
  (vs_cons (vs_asg (v_var 0) (vg_tup (n := 3) rfl (vgs_cons (vg_name (i := 2) (o := none) rfl sc_law_bad.nd rfl (by first | exact Or.inl rfl | exact Or.inr rfl)) (vgs_cons (vg_name (i := 3) (o := none) rfl sc_law_bad.nd rfl (by first | exact Or.inl rfl | exact Or.inr rfl)) (vgs_cons (vg_name (i := 4) (o := none) rfl sc_law_bad.nd rfl (by first | exact Or.inl rfl | exact Or.inr rfl)) vgs_nil)))))
  (vs_cons (vs_newL (i := 5) (j := 0) (n0_le hz) sc_law_bad.nd rfl (by first | exact Or.inl rfl | exact Or.inr rfl) (va_cons v_non (va_cons (v_var 2) (va_cons (v_tup (va_cons (v_var 2) (va_cons (v_var 3) va_nil))) (va_cons (v_lst (va_cons (v_var 2) (va_cons (v_var 3) (va_cons (v_var 4) va_nil)))) va_nil)))))
  (vs_cons (vs_set (i := 5) sc_law_bad.nd rfl (by first | exact Or.inl rfl | exact Or.inr rfl) (v_add (v_var 5) (v_lst (va_cons (v_tup (va_cons (v_var 2) (va_cons (v_var 3) (va_cons (v_var 4) (va_cons v_int va_nil))))) (va_cons (v_tup (va_cons v_int (va_cons (v_var 3) (va_cons (v_var 4) va_nil)))) va_nil)))))
  (vs_cons (vs_set (i := 5) sc_law_bad.nd rfl (by first | exact Or.inl rfl | exact Or.inr rfl) (v_add (v_var 5) (v_lst (va_cons (v_tup (va_cons v_int (va_cons (v_var 3) (va_cons (v_var 4) va_nil)))) (va_cons (v_tup (va_cons v_bl (va_cons (v_var 3) (va_cons (v_var 4) va_nil)))) va_nil)))))
  (vs_cons (vs_set (i := 5) sc_law_bad.nd rfl (by first | exact Or.inl rfl | exact Or.inr rfl) (v_add (v_var 5) (v_lst (va_cons (v_tup (va_cons (v_strc rfl T.b_str (va_cons (v_var 2) va_nil)) (va_cons (v_var 3) (va_cons (v_var 4) va_nil)))) (va_cons (v_tup (va_cons v_non (va_cons (v_var 3) (va_cons (v_var 4) va_nil)))) va_nil)))))
  (vs_cons (vs_set (i := 5) sc_law_bad.nd rfl (by first | exact Or.inl rfl | exact Or.inr rfl) (v_add (v_var 5) (v_lst (va_cons (v_tup (va_cons (v_var 2) (va_cons (v_tuplec rfl T.b_tuple (va_cons (v_var 3) va_nil)) (va_cons (v_var 4) va_nil)))) (va_cons (v_tup (va_cons (v_var 2) (va_cons v_non (va_cons (v_var 4) va_nil)))) va_nil)))))
  (vs_cons (vs_setM (i := 5) sc_law_bad.nd rfl (by first | exact Or.inl rfl | exact Or.inr rfl) (vm_cat (j := 0) (dr := (some 5)) (n0_le hz) (v_var 5) (v_lst (va_cons (v_tup (va_cons (v_var 2) (va_cons (v_var 3) (va_cons (v_tuplec rfl T.b_tuple (va_cons (v_var 4) va_nil)) va_nil)))) (va_cons (v_tup (va_cons (v_var 2) (va_cons (v_var 3) (va_cons v_non va_nil)))) va_nil)))))
  (vs_cons (vs_append (fun a b => pe_bm PySem.F.plainAttrs_list PySem.F.slot_list_append PySem.F.type_list_append mt_append a (pa_cons b pa_nil)) (v_var 5) (v_tup (va_cons (v_var 2) (va_cons (v_lst va_nil) (va_cons (v_lst va_nil) va_nil)))))
  (vs_cons (vs_set (i := 5) sc_law_bad.nd rfl (by first | exact Or.inl rfl | exact Or.inr rfl) (v_add (v_var 5) (v_lst (va_cons (v_tup (va_cons (v_var 2) (va_cons (v_lst (va_cons v_int va_nil)) (va_cons (v_lst (va_cons v_int va_nil)) va_nil)))) (va_cons (v_tup (va_cons (v_var 2) (va_cons (v_mul (v_lst (va_cons v_int va_nil)) v_int) (va_cons (v_mul (v_lst (va_cons v_int va_nil)) v_int) va_nil)))) va_nil)))))
  (vs_cons (vs_set (i := 5) sc_law_bad.nd rfl (by first | exact Or.inl rfl | exact Or.inr rfl) (v_add (v_var 5) (v_lst (va_cons (v_tup (va_cons (v_var 2) (va_cons (v_var 3) (va_cons (v_add (v_var 4) (v_lst (va_cons v_int va_nil))) va_nil)))) (va_cons (v_tup (va_cons (v_var 2) (va_cons (v_var 3) (va_cons (v_slc (v_var 4) (vo_some v_int) vo_none) va_nil)))) va_nil)))))
  (vs_cons (vs_setM (i := 5) sc_law_bad.nd rfl (by first | exact Or.inl rfl | exact Or.inr rfl) (vm_cat (j := 0) (dr := (some 5)) (n0_le hz) (v_var 5) (v_lst (va_cons (v_tup (va_cons (v_var 2) (va_cons (v_add (v_var 3) (v_lst (va_cons v_int va_nil))) (va_cons (v_var 4) va_nil)))) (va_cons (v_tup (va_cons (v_var 2) (va_cons (v_lst (va_cons v_int (va_cons v_int va_nil))) (va_cons (v_mul (v_lst (va_cons v_int va_nil)) v_int) va_nil)))) va_nil)))))
  (vs_cons (vs_append (fun a b => pe_bm PySem.F.plainAttrs_list PySem.F.slot_list_append PySem.F.type_list_append mt_append a (pa_cons b pa_nil)) (v_var 5) (v_tup (va_cons (v_var 2) (va_cons (v_add (v_lst (va_cons v_int va_nil)) (v_slc (v_var 3) (vo_some v_int) vo_none)) (va_cons (v_mul (v_lst (va_cons v_int va_nil)) (v_add v_int (v_sum rfl rfl T.b_sum (va_cons (v_slc (v_var 3) (vo_some v_int) vo_none) va_nil)))) va_nil)))))
  (vs_cons (vs_append (fun a b => pe_bm PySem.F.plainAttrs_list PySem.F.slot_list_append PySem.F.type_list_append mt_append a (pa_cons b pa_nil)) (v_var 5) (v_tup (va_cons (v_var 2) (va_cons (v_add (v_slc (v_var 3) (vo_some v_int) vo_none) (v_lst (va_cons v_int va_nil))) (va_cons (v_slc (v_var 4) (vo_some (v_idx hr (v_var 3) v_int)) vo_none) va_nil)))))
  (vs_cons (vs_set (i := 6) sc_law_bad.nd rfl (by first | exact Or.inl rfl | exact Or.inr rfl) (v_mod (v_div (v_var 1) v_int) (v_len rfl T.b_len (va_cons (v_var 3) va_nil))))
  (vs_cons (vs_for PassesOwn.never rfl (vi_list (v_lst (va_cons v_int (va_cons (v_neg v_int) (va_cons v_int (va_cons v_bl (va_cons v_non (va_cons v_str (va_cons (v_lst (va_cons v_int va_nil)) va_nil))))))))) (vg_name (i := 7) (o := none) rfl sc_law_bad.nd rfl (by first | exact Or.inl rfl | exact Or.inr rfl))
  (vs_one (vs_append (fun a b => pe_bm PySem.F.plainAttrs_list PySem.F.slot_list_append PySem.F.type_list_append mt_append a (pa_cons b pa_nil)) (v_var 5) (v_tup (va_cons (v_var 2) (va_cons (v_add (v_add (v_slc (v_var 3) vo_none (vo_some (v_var 6))) (v_lst (va_cons (v_var 7) va_nil))) (v_slc (v_var 3) (vo_some (v_add (v_var 6) v_int)) vo_none)) (va_cons (v_var 4) va_nil)))))))
  (vs_cons (vs_set (i := 6) sc_law_bad.nd rfl (by first | exact Or.inl rfl | exact Or.inr rfl) (v_mod (v_div (v_var 1) v_int) (v_len rfl T.b_len (va_cons (v_var 4) va_nil))))
  (vs_cons (vs_for PassesOwn.never rfl (vi_list (v_lst (va_cons v_int (va_cons (v_neg v_int) (va_cons v_bl (va_cons v_non (va_cons v_str (va_cons (v_lst (va_cons v_int va_nil)) (va_cons (v_pow v_int v_int) va_nil))))))))) (vg_name (i := 7) (o := none) rfl sc_law_bad.nd rfl (by first | exact Or.inl rfl | exact Or.inr rfl))
  (vs_one (vs_append (fun a b => pe_bm PySem.F.plainAttrs_list PySem.F.slot_list_append PySem.F.type_list_append mt_append a (pa_cons b pa_nil)) (v_var 5) (v_tup (va_cons (v_var 2) (va_cons (v_var 3) (va_cons (v_add (v_add (v_slc (v_var 4) vo_none (vo_some (v_var 6))) (v_lst (va_cons (v_var 7) va_nil))) (v_slc (v_var 4) (vo_some (v_add (v_var 6) v_int)) vo_none)) va_nil)))))))
  (vs_one (vs_ret (v_idx hr (v_var 5) (v_mod (v_var 1) (v_len rfl T.b_len (va_cons (v_var 5) va_nil)))))))))))))))))))))))) w_law_bad
theorem ok_law {f : Addr} {fd : FuncData} (T : Txt mg) (F : Fun K "law" "law" st_law f fd) (TX : ExT K mg xnames xclasses) (D_law_cell : ∀ Z : Rsc, Z.n0 = 0 → Df P w K mg base CX0 1 "_law_cell" ["script", "k"] Z S_law_cell) (D_law_given : ∀ Z : Rsc, Z.n0 = 0 → Df P w K mg base CX0 3 "_law_given" ["cell"] Z S_law_given) (D_law_asked : ∀ Z : Rsc, Z.n0 = 0 → Df P w K mg base CX0 5 "_law_asked" ["ask", "thing"] Z S_law_asked) (D_law_writes : ∀ Z : Rsc, Z.n0 = 0 → Df P w K mg base CX0 2 "_law_writes" ["text"] Z S_law_writes) (D_law_mixed : ∀ Z : Rsc, Z.n0 = 0 → Df P w K mg base CX0 1 "_law_mixed" ["cell", "k"] Z S_law_mixed) (D_law_frame : ∀ Z : Rsc, Z.n0 = 0 → Df P w K mg base CX0 2 "_law_frame" ["cell", "most"] Z S_law_frame) (D_law_bad : ∀ Z : Rsc, Z.n0 = 0 → Df P w K mg base CX0 1 "_law_bad" ["frame", "cell"] Z S_law_bad) : FnG P w K mg base CX0 6 f fd ["script"] (liftS K mg Z0 1 S_law) :=
  fun_SG Z0 rfl 0 F sc_law (fun cdv A outer s H E hA hr =>
  (vs_cons (vs_for PassesOwn.never rfl (vi_range1 rfl T.b_range (v_max rfl rfl T.b_max (va_cons v_int (va_cons (v_min rfl rfl T.b_min (va_cons (v_len rfl T.b_len (va_cons (v_var 0) va_nil)) (va_cons v_int va_nil))) va_nil)))) (vg_name (i := 1) (o := none) rfl sc_law.nd rfl (by first | exact Or.inl rfl | exact Or.inr rfl))
  (vs_cons (vs_set (i := 2) sc_law.nd rfl (by first | exact Or.inl rfl | exact Or.inr rfl) (v_abs rfl T.b_abs (va_cons (v_callD (D_law_cell Z0 rfl) rfl rfl S_law_cell.len (hr.mono (by decide)) rfl pas0 (va_cons (v_var 0) (va_cons (v_var 1) va_nil))) va_nil)))
  (vs_cons (vs_set (i := 3) sc_law.nd rfl (by first | exact Or.inl rfl | exact Or.inr rfl) (v_callD (D_law_given Z0 rfl) rfl rfl S_law_given.len (hr.mono (by decide)) rfl pas0 (va_cons (v_var 2) va_nil)))
  (vs_cons (vs_set (i := 4) sc_law.nd rfl (by first | exact Or.inl rfl | exact Or.inr rfl) (v_callD (D_law_asked Z0 rfl) rfl rfl S_law_asked.len (hr.mono (by decide)) rfl pas0 (va_cons v_int (va_cons (v_var 3) va_nil))))
  (vs_cons (vs_if (vt_val (v_callD (D_law_writes Z0 rfl) rfl rfl S_law_writes.len (hr.mono (by decide)) rfl pas0 (va_cons (v_var 3) va_nil)))
  (vs_one (vs_if (PW.pt (vw_or (vt_val (v_idx hr (v_var 4) v_int)) (vw_or1 (vt_ne hr (v_callD (D_law_asked Z0 rfl) rfl rfl S_law_asked.len (hr.mono (by decide)) rfl pas0 (va_cons v_int (va_cons (v_idx hr (v_var 4) v_int) va_nil))) (v_lst (va_cons v_bl (va_cons (v_var 3) va_nil)))))))
  (vs_one (vs_ret v_bl))
  vs_nil))
  (vs_one (vs_if (vt_ne hr (v_var 4) (v_lst (va_cons v_bl (va_cons v_str va_nil))))
  (vs_one (vs_ret v_bl))
  vs_nil)))
  (vs_cons (vs_set (i := 5) sc_law.nd rfl (by first | exact Or.inl rfl | exact Or.inr rfl) (v_callD (D_law_bad Z0 rfl) rfl rfl S_law_bad.len (hr.mono (by decide)) rfl pas0 (va_cons (v_callD (D_law_frame Z0 rfl) rfl rfl S_law_frame.len (hr.mono (by decide)) rfl pas0 (va_cons (v_callD (D_law_mixed Z0 rfl) rfl rfl S_law_mixed.len (hr.mono (by decide)) rfl pas0 (va_cons (v_var 2) (va_cons v_int va_nil))) (va_cons v_int va_nil))) (va_cons (v_callD (D_law_mixed Z0 rfl) rfl rfl S_law_mixed.len (hr.mono (by decide)) rfl pas0 (va_cons (v_var 2) (va_cons v_int va_nil))) va_nil))))
  (vs_cons (vs_set (i := 6) sc_law.nd rfl (by first | exact Or.inl rfl | exact Or.inr rfl) (v_repr hA hr.units rfl T.b_repr (va_cons (v_var 5) va_nil)))
  (vs_one (vs_if (PW.pt (vw_or (vt_ne hr (v_callD (D_law_asked Z0 rfl) rfl rfl S_law_asked.len (hr.mono (by decide)) rfl pas0 (va_cons v_int (va_cons (v_var 5) va_nil))) (v_lst (va_cons v_bl (va_cons v_str va_nil)))) (vw_or1 (vt_neZ (v_repr hA hr.units rfl T.b_repr (va_cons (v_var 5) va_nil)) (v_var 6)))))
  (vs_one (vs_ret v_bl))
  vs_nil)))))))))
  (vs_cons (vs_for PassesOwn.never rfl (vi_list (v_lst (va_cons v_non (va_cons v_int (va_cons (v_lst (va_cons v_str va_nil)) (va_cons (v_tup (va_cons v_int (va_cons (v_lst (va_cons v_int (va_cons v_int va_nil))) (va_cons (v_lst (va_cons v_int (va_cons v_int va_nil))) va_nil)))) (va_cons v_bl (va_cons v_dic0 (va_cons (v_lst (va_cons v_int va_nil)) va_nil))))))))) (vg_name (i := 7) (o := none) rfl sc_law.nd rfl (by first | exact Or.inl rfl | exact Or.inr rfl))
  (vs_one (vs_if (vt_ne hr (v_callD (D_law_asked Z0 rfl) rfl rfl S_law_asked.len (hr.mono (by decide)) rfl pas0 (va_cons v_int (va_cons (v_var 7) va_nil))) (v_lst (va_cons v_bl (va_cons v_str va_nil))))
  (vs_one (vs_ret v_bl))
  vs_nil)))
  (vs_one (vs_ret v_bl))))) w_law
end
theorem all_mk {l : PySem.W.OpenLaw} {w : World} {K : PySem.W.Frag} {h : Heap} {mg : Str → Option Value} {fa : Addr} (X : K.In h) (G : h.Ns mainGlobals mg) (hfa : mg "law" = some (.ref fa))
    {f0 : Addr} {od0 an0 : Option Addr} {sl0 : Array (Option Value)} {oc0 kV0 dc0 pm0 cd0 ct0 : Value}
    {f1 : Addr} {od1 an1 : Option Addr} {sl1 : Array (Option Value)} {oc1 kV1 dc1 pm1 cd1 ct1 : Value}
    {f2 : Addr} {od2 an2 : Option Addr} {sl2 : Array (Option Value)} {oc2 kV2 dc2 pm2 cd2 ct2 : Value}
    {f3 : Addr} {od3 an3 : Option Addr} {sl3 : Array (Option Value)} {oc3 kV3 dc3 pm3 cd3 ct3 : Value}
    {f4 : Addr} {od4 an4 : Option Addr} {sl4 : Array (Option Value)} {oc4 kV4 dc4 pm4 cd4 ct4 : Value}
    {f5 : Addr} {od5 an5 : Option Addr} {sl5 : Array (Option Value)} {oc5 kV5 dc5 pm5 cd5 ct5 : Value}
    {f6 : Addr} {od6 an6 : Option Addr} {sl6 : Array (Option Value)} {oc6 kV6 dc6 pm6 cd6 ct6 : Value}
    {f7 : Addr} {od7 an7 : Option Addr} {sl7 : Array (Option Value)} {oc7 kV7 dc7 pm7 cd7 ct7 : Value}
    {f8 : Addr} {od8 an8 : Option Addr} {sl8 : Array (Option Value)} {oc8 kV8 dc8 pm8 cd8 ct8 : Value}
    {f9 : Addr} {od9 an9 : Option Addr} {sl9 : Array (Option Value)} {oc9 kV9 dc9 pm9 cd9 ct9 : Value}
    {f10 : Addr} {od10 an10 : Option Addr} {sl10 : Array (Option Value)} {oc10 kV10 dc10 pm10 cd10 ct10 : Value}
    {f11 : Addr} {od11 an11 : Option Addr} {sl11 : Array (Option Value)} {oc11 kV11 dc11 pm11 cd11 ct11 : Value}
    {f12 : Addr} {od12 an12 : Option Addr} {sl12 : Array (Option Value)} {oc12 kV12 dc12 pm12 cd12 ct12 : Value}
    {f13 : Addr} {od13 an13 : Option Addr} {sl13 : Array (Option Value)} {oc13 kV13 dc13 pm13 cd13 ct13 : Value}
    {f14 : Addr} {od14 an14 : Option Addr} {sl14 : Array (Option Value)} {oc14 kV14 dc14 pm14 cd14 ct14 : Value}
    {f15 : Addr} {od15 an15 : Option Addr} {sl15 : Array (Option Value)} {oc15 kV15 dc15 pm15 cd15 ct15 : Value}
    {f16 : Addr} {od16 an16 : Option Addr} {sl16 : Array (Option Value)} {oc16 kV16 dc16 pm16 cd16 ct16 : Value}
    {f17 : Addr} {od17 an17 : Option Addr} {sl17 : Array (Option Value)} {oc17 kV17 dc17 pm17 cd17 ct17 : Value}
    {tk0 : Tok}
    {tk1 : Tok}
    {tk2 : Tok}
    {tk3 : Tok}
    {tk4 : Tok}
    {tk5 : Tok}
    {tk6 : Tok}
    {dxHalfError : Addr}
    {dxNoFrame : Addr}
    {dxNoText : Addr}
    {dxNoEven : Addr}
    {dxNoFrames : Addr}
    {dxNoMiss : Addr}
    {dxNoName : Addr}
    {dxNoNumber : Addr}
    {dxNoPart : Addr}
    {dxNoRow : Addr}
    {dxNoSum : Addr}
    (a0 : PySem.W.nsIn K mainGlobals "is_whole" = some (some (.ref f0))) (l0 : K.lookup f0 = some ⟨oc0, od0, .func (PySem.W.fnOf "is_whole" "is_whole" (defArgs st_is_whole) (defBody st_is_whole) (defScope st_is_whole) .none kV0 dc0 pm0 an0 cd0 ct0), sl0⟩) (c0 : PySem.W.codeIn K cd0 "is_whole" = true) (k0 : PySem.W.keepIn K (.ref f0) = true)
    (a1 : PySem.W.nsIn K mainGlobals "is_weight" = some (some (.ref f1))) (l1 : K.lookup f1 = some ⟨oc1, od1, .func (PySem.W.fnOf "is_weight" "is_weight" (defArgs st_is_weight) (defBody st_is_weight) (defScope st_is_weight) .none kV1 dc1 pm1 an1 cd1 ct1), sl1⟩) (c1 : PySem.W.codeIn K cd1 "is_weight" = true) (k1 : PySem.W.keepIn K (.ref f1) = true)
    (a2 : PySem.W.nsIn K mainGlobals "are_parts" = some (some (.ref f2))) (l2 : K.lookup f2 = some ⟨oc2, od2, .func (PySem.W.fnOf "are_parts" "are_parts" (defArgs st_are_parts) (defBody st_are_parts) (defScope st_are_parts) .none kV2 dc2 pm2 an2 cd2 ct2), sl2⟩) (c2 : PySem.W.codeIn K cd2 "are_parts" = true) (k2 : PySem.W.keepIn K (.ref f2) = true)
    (a3 : PySem.W.nsIn K mainGlobals "is_frame" = some (some (.ref f3))) (l3 : K.lookup f3 = some ⟨oc3, od3, .func (PySem.W.fnOf "is_frame" "is_frame" (defArgs st_is_frame) (defBody st_is_frame) (defScope st_is_frame) .none kV3 dc3 pm3 an3 cd3 ct3), sl3⟩) (c3 : PySem.W.codeIn K cd3 "is_frame" = true) (k3 : PySem.W.keepIn K (.ref f3) = true)
    (a4 : PySem.W.nsIn K mainGlobals "show_frame" = some (some (.ref f4))) (l4 : K.lookup f4 = some ⟨oc4, od4, .func (PySem.W.fnOf "show_frame" "show_frame" (defArgs st_show_frame) (defBody st_show_frame) (defScope st_show_frame) .none kV4 dc4 pm4 an4 cd4 ct4), sl4⟩) (c4 : PySem.W.codeIn K cd4 "show_frame" = true) (k4 : PySem.W.keepIn K (.ref f4) = true)
    (a5 : PySem.W.nsIn K mainGlobals "read_word" = some (some (.ref f5))) (l5 : K.lookup f5 = some ⟨oc5, od5, .func (PySem.W.fnOf "read_word" "read_word" (defArgs st_read_word) (defBody st_read_word) (defScope st_read_word) .none kV5 dc5 pm5 an5 cd5 ct5), sl5⟩) (c5 : PySem.W.codeIn K cd5 "read_word" = true) (k5 : PySem.W.keepIn K (.ref f5) = true)
    (a6 : PySem.W.nsIn K mainGlobals "read_frame" = some (some (.ref f6))) (l6 : K.lookup f6 = some ⟨oc6, od6, .func (PySem.W.fnOf "read_frame" "read_frame" (defArgs st_read_frame) (defBody st_read_frame) (defScope st_read_frame) .none kV6 dc6 pm6 an6 cd6 ct6), sl6⟩) (c6 : PySem.W.codeIn K cd6 "read_frame" = true) (k6 : PySem.W.keepIn K (.ref f6) = true)
    (a7 : PySem.W.nsIn K mainGlobals "_law_cell" = some (some (.ref f7))) (l7 : K.lookup f7 = some ⟨oc7, od7, .func (PySem.W.fnOf "_law_cell" "_law_cell" (defArgs st_law_cell) (defBody st_law_cell) (defScope st_law_cell) .none kV7 dc7 pm7 an7 cd7 ct7), sl7⟩) (c7 : PySem.W.codeIn K cd7 "_law_cell" = true) (k7 : PySem.W.keepIn K (.ref f7) = true)
    (a8 : PySem.W.nsIn K mainGlobals "_law_mixed" = some (some (.ref f8))) (l8 : K.lookup f8 = some ⟨oc8, od8, .func (PySem.W.fnOf "_law_mixed" "_law_mixed" (defArgs st_law_mixed) (defBody st_law_mixed) (defScope st_law_mixed) .none kV8 dc8 pm8 an8 cd8 ct8), sl8⟩) (c8 : PySem.W.codeIn K cd8 "_law_mixed" = true) (k8 : PySem.W.keepIn K (.ref f8) = true)
    (a9 : PySem.W.nsIn K mainGlobals "_law_frame" = some (some (.ref f9))) (l9 : K.lookup f9 = some ⟨oc9, od9, .func (PySem.W.fnOf "_law_frame" "_law_frame" (defArgs st_law_frame) (defBody st_law_frame) (defScope st_law_frame) .none kV9 dc9 pm9 an9 cd9 ct9), sl9⟩) (c9 : PySem.W.codeIn K cd9 "_law_frame" = true) (k9 : PySem.W.keepIn K (.ref f9) = true)
    (a10 : PySem.W.nsIn K mainGlobals "_law_written" = some (some (.ref f10))) (l10 : K.lookup f10 = some ⟨oc10, od10, .func (PySem.W.fnOf "_law_written" "_law_written" (defArgs st_law_written) (defBody st_law_written) (defScope st_law_written) .none kV10 dc10 pm10 an10 cd10 ct10), sl10⟩) (c10 : PySem.W.codeIn K cd10 "_law_written" = true) (k10 : PySem.W.keepIn K (.ref f10) = true)
    (a11 : PySem.W.nsIn K mainGlobals "_law_number" = some (some (.ref f11))) (l11 : K.lookup f11 = some ⟨oc11, od11, .func (PySem.W.fnOf "_law_number" "_law_number" (defArgs st_law_number) (defBody st_law_number) (defScope st_law_number) .none kV11 dc11 pm11 an11 cd11 ct11), sl11⟩) (c11 : PySem.W.codeIn K cd11 "_law_number" = true) (k11 : PySem.W.keepIn K (.ref f11) = true)
    (a12 : PySem.W.nsIn K mainGlobals "_law_writes" = some (some (.ref f12))) (l12 : K.lookup f12 = some ⟨oc12, od12, .func (PySem.W.fnOf "_law_writes" "_law_writes" (defArgs st_law_writes) (defBody st_law_writes) (defScope st_law_writes) .none kV12 dc12 pm12 an12 cd12 ct12), sl12⟩) (c12 : PySem.W.codeIn K cd12 "_law_writes" = true) (k12 : PySem.W.keepIn K (.ref f12) = true)
    (a13 : PySem.W.nsIn K mainGlobals "_law_odd" = some (some (.ref f13))) (l13 : K.lookup f13 = some ⟨oc13, od13, .func (PySem.W.fnOf "_law_odd" "_law_odd" (defArgs st_law_odd) (defBody st_law_odd) (defScope st_law_odd) .none kV13 dc13 pm13 an13 cd13 ct13), sl13⟩) (c13 : PySem.W.codeIn K cd13 "_law_odd" = true) (k13 : PySem.W.keepIn K (.ref f13) = true)
    (a14 : PySem.W.nsIn K mainGlobals "_law_given" = some (some (.ref f14))) (l14 : K.lookup f14 = some ⟨oc14, od14, .func (PySem.W.fnOf "_law_given" "_law_given" (defArgs st_law_given) (defBody st_law_given) (defScope st_law_given) .none kV14 dc14 pm14 an14 cd14 ct14), sl14⟩) (c14 : PySem.W.codeIn K cd14 "_law_given" = true) (k14 : PySem.W.keepIn K (.ref f14) = true)
    (a15 : PySem.W.nsIn K mainGlobals "_law_asked" = some (some (.ref f15))) (l15 : K.lookup f15 = some ⟨oc15, od15, .func (PySem.W.fnOf "_law_asked" "_law_asked" (defArgs st_law_asked) (defBody st_law_asked) (defScope st_law_asked) .none kV15 dc15 pm15 an15 cd15 ct15), sl15⟩) (c15 : PySem.W.codeIn K cd15 "_law_asked" = true) (k15 : PySem.W.keepIn K (.ref f15) = true)
    (a16 : PySem.W.nsIn K mainGlobals "_law_bad" = some (some (.ref f16))) (l16 : K.lookup f16 = some ⟨oc16, od16, .func (PySem.W.fnOf "_law_bad" "_law_bad" (defArgs st_law_bad) (defBody st_law_bad) (defScope st_law_bad) .none kV16 dc16 pm16 an16 cd16 ct16), sl16⟩) (c16 : PySem.W.codeIn K cd16 "_law_bad" = true) (k16 : PySem.W.keepIn K (.ref f16) = true)
    (a17 : PySem.W.nsIn K mainGlobals "law" = some (some (.ref f17))) (l17 : K.lookup f17 = some ⟨oc17, od17, .func (PySem.W.fnOf "law" "law" (defArgs st_law) (defBody st_law) (defScope st_law) .none kV17 dc17 pm17 an17 cd17 ct17), sl17⟩) (c17 : PySem.W.codeIn K cd17 "law" = true) (k17 : PySem.W.keepIn K (.ref f17) = true)
    (z0 : PySem.W.nsIn K mainGlobals "isinstance" = some none)
    (z1 : PySem.W.nsIn K mainGlobals "int" = some none)
    (z2 : PySem.W.nsIn K mainGlobals "bool" = some none)
    (z3 : PySem.W.nsIn K mainGlobals "abs" = some none)
    (z4 : PySem.W.nsIn K mainGlobals "list" = some none)
    (z5 : PySem.W.nsIn K mainGlobals "len" = some none)
    (z6 : PySem.W.nsIn K mainGlobals "tuple" = some none)
    (z7 : PySem.W.nsIn K mainGlobals "sum" = some none)
    (z8 : PySem.W.nsIn K mainGlobals "str" = some none)
    (z9 : PySem.W.nsIn K mainGlobals "range" = some none)
    (z10 : PySem.W.nsIn K mainGlobals "min" = some none)
    (z11 : PySem.W.nsIn K mainGlobals "max" = some none)
    (z12 : PySem.W.nsIn K mainGlobals "ValueError" = some none)
    (z13 : PySem.W.nsIn K mainGlobals "repr" = some none)
    (q0 : PySem.W.nsIn K mainGlobals "GREATEST_WEIGHT" = some (some (.int 9 tk0)))
    (q1 : PySem.W.nsIn K mainGlobals "FEWEST_PARTS" = some (some (.int 2 tk1)))
    (q2 : PySem.W.nsIn K mainGlobals "MOST_PARTS" = some (some (.int 4 tk2)))
    (q3 : PySem.W.nsIn K mainGlobals "LONGEST_PART" = some (some (.int 6 tk3)))
    (q4 : PySem.W.nsIn K mainGlobals "LEAST_BASE" = some (some (.int 2 tk4)))
    (q5 : PySem.W.nsIn K mainGlobals "MOST_BASE" = some (some (.int 16 tk5)))
    (q6 : PySem.W.nsIn K mainGlobals "FIGURES" = some (some (.str "0123456789" tk6)))
    (xaHalfError : PySem.W.nsIn K mainGlobals "HalfError" = some (some (.ref dxHalfError)))
    (xaNoFrame : PySem.W.nsIn K mainGlobals "NoFrame" = some (some (.ref dxNoFrame)))
    (xaNoText : PySem.W.nsIn K mainGlobals "NoText" = some (some (.ref dxNoText)))
    (xaNoEven : PySem.W.nsIn K mainGlobals "NoEven" = some (some (.ref dxNoEven)))
    (xaNoFrames : PySem.W.nsIn K mainGlobals "NoFrames" = some (some (.ref dxNoFrames)))
    (xaNoMiss : PySem.W.nsIn K mainGlobals "NoMiss" = some (some (.ref dxNoMiss)))
    (xaNoName : PySem.W.nsIn K mainGlobals "NoName" = some (some (.ref dxNoName)))
    (xaNoNumber : PySem.W.nsIn K mainGlobals "NoNumber" = some (some (.ref dxNoNumber)))
    (xaNoPart : PySem.W.nsIn K mainGlobals "NoPart" = some (some (.ref dxNoPart)))
    (xaNoRow : PySem.W.nsIn K mainGlobals "NoRow" = some (some (.ref dxNoRow)))
    (xaNoSum : PySem.W.nsIn K mainGlobals "NoSum" = some (some (.ref dxNoSum)))
    (xhs : PySem.W.subIn K (.ref dxHalfError) (.type "BaseException") = some true)
    (xhd : PySem.W.hasDictIn K dxHalfError = true)
    (xht : PySem.W.typeIn K (.ref dxHalfError) = some (.type "type"))
    (xhn : PySem.W.specialIn K (.builtin "object.__class__") "__get__" = some (some (.builtin "getset_descriptor.__get__")))
    (xhk : PySem.W.takesIn K (.builtin "object.__class__") = some true)
    (x0NoFrame : PySem.W.keepIn K (.ref dxNoFrame) = true)
    (x1NoFrame : PySem.W.excIn K dxNoFrame [.type "ValueError", .type "Exception", .type "BaseException", .type "object"] "ValueError.__new__" = true)
    (x2NoFrame : PySem.W.subIn K (.ref dxNoFrame) (.type "BaseException") = some true)
    (x3NoFrame : PySem.W.typeIn K (.ref dxNoFrame) = some (.type "type"))
    (x4NoFrame : PySem.W.findIn K (.ref dxNoFrame) "__getattribute__" = some (some (.builtin "BaseException.__getattribute__")))
    (x5NoFrame : PySem.W.findIn K (.ref dxNoFrame) "__getattr__" = some none)
    (x6NoFrame : PySem.W.hasDictIn K dxNoFrame = true)
    (x7NoFrame : PySem.W.findIn K (.ref dxNoFrame) "__class__" = some (some (.builtin "object.__class__")))
    (x8NoFrame : PySem.W.mroIn K dxNoFrame (.type "object") = some true)
    (x9NoFrame : PySem.W.subIn K (.ref dxNoFrame) (.ref dxHalfError) = some true)
    (x10NoFrame : PySem.W.kitOne K (.ref dxNoFrame) (.type "ValueError") = some true)
    (yNoFrameNoEven : PySem.W.kitOne K (.ref dxNoFrame) (.ref dxNoEven) = some false)
    (yNoFrameNoFrame : PySem.W.kitOne K (.ref dxNoFrame) (.ref dxNoFrame) = some true)
    (yNoFrameNoFrames : PySem.W.kitOne K (.ref dxNoFrame) (.ref dxNoFrames) = some false)
    (yNoFrameNoMiss : PySem.W.kitOne K (.ref dxNoFrame) (.ref dxNoMiss) = some false)
    (yNoFrameNoName : PySem.W.kitOne K (.ref dxNoFrame) (.ref dxNoName) = some false)
    (yNoFrameNoNumber : PySem.W.kitOne K (.ref dxNoFrame) (.ref dxNoNumber) = some false)
    (yNoFrameNoPart : PySem.W.kitOne K (.ref dxNoFrame) (.ref dxNoPart) = some false)
    (yNoFrameNoRow : PySem.W.kitOne K (.ref dxNoFrame) (.ref dxNoRow) = some false)
    (yNoFrameNoSum : PySem.W.kitOne K (.ref dxNoFrame) (.ref dxNoSum) = some false)
    (yNoFrameNoText : PySem.W.kitOne K (.ref dxNoFrame) (.ref dxNoText) = some false)
    (x0NoText : PySem.W.keepIn K (.ref dxNoText) = true)
    (x1NoText : PySem.W.excIn K dxNoText [.type "ValueError", .type "Exception", .type "BaseException", .type "object"] "ValueError.__new__" = true)
    (x2NoText : PySem.W.subIn K (.ref dxNoText) (.type "BaseException") = some true)
    (x3NoText : PySem.W.typeIn K (.ref dxNoText) = some (.type "type"))
    (x4NoText : PySem.W.findIn K (.ref dxNoText) "__getattribute__" = some (some (.builtin "BaseException.__getattribute__")))
    (x5NoText : PySem.W.findIn K (.ref dxNoText) "__getattr__" = some none)
    (x6NoText : PySem.W.hasDictIn K dxNoText = true)
    (x7NoText : PySem.W.findIn K (.ref dxNoText) "__class__" = some (some (.builtin "object.__class__")))
    (x8NoText : PySem.W.mroIn K dxNoText (.type "object") = some true)
    (x9NoText : PySem.W.subIn K (.ref dxNoText) (.ref dxHalfError) = some true)
    (x10NoText : PySem.W.kitOne K (.ref dxNoText) (.type "ValueError") = some true)
    (yNoTextNoEven : PySem.W.kitOne K (.ref dxNoText) (.ref dxNoEven) = some false)
    (yNoTextNoFrame : PySem.W.kitOne K (.ref dxNoText) (.ref dxNoFrame) = some false)
    (yNoTextNoFrames : PySem.W.kitOne K (.ref dxNoText) (.ref dxNoFrames) = some false)
    (yNoTextNoMiss : PySem.W.kitOne K (.ref dxNoText) (.ref dxNoMiss) = some false)
    (yNoTextNoName : PySem.W.kitOne K (.ref dxNoText) (.ref dxNoName) = some false)
    (yNoTextNoNumber : PySem.W.kitOne K (.ref dxNoText) (.ref dxNoNumber) = some false)
    (yNoTextNoPart : PySem.W.kitOne K (.ref dxNoText) (.ref dxNoPart) = some false)
    (yNoTextNoRow : PySem.W.kitOne K (.ref dxNoText) (.ref dxNoRow) = some false)
    (yNoTextNoSum : PySem.W.kitOne K (.ref dxNoText) (.ref dxNoSum) = some false)
    (yNoTextNoText : PySem.W.kitOne K (.ref dxNoText) (.ref dxNoText) = some true) :
    ∃ fd : FuncData, (∀ (s : Shared) (v : Value), BindsTo s fd ⟨[v], []⟩ [("script", v)]) ∧ ∀ base : Heap, K.In base → base.Ns mainGlobals mg → FnG l.prog w K mg base CX0 6 fa fd ["script"] (spLaw K) := by
  have e := hfa.symm.trans (PySem.W.mg_of X G a17)
  cases e
  have T : Txt mg := ⟨PySem.W.mg_none_of X G z0, PySem.W.mg_none_of X G z1, PySem.W.mg_none_of X G z2, PySem.W.mg_none_of X G z3, PySem.W.mg_none_of X G z4, PySem.W.mg_none_of X G z5, PySem.W.mg_none_of X G z6, PySem.W.mg_none_of X G z7, PySem.W.mg_none_of X G z8, PySem.W.mg_none_of X G z9, PySem.W.mg_none_of X G z10, PySem.W.mg_none_of X G z11, PySem.W.mg_none_of X G z12, PySem.W.mg_none_of X G z13, ⟨_, PySem.W.mg_of X G q0⟩, ⟨_, PySem.W.mg_of X G q1⟩, ⟨_, PySem.W.mg_of X G q2⟩, ⟨_, PySem.W.mg_of X G q3⟩, ⟨_, PySem.W.mg_of X G q4⟩, ⟨_, PySem.W.mg_of X G q5⟩, ⟨_, PySem.W.mg_of X G q6⟩⟩
  have TX : ExT K mg xnames xclasses := by
    refine ⟨⟨dxHalfError, PySem.W.mg_of X G xaHalfError, xhs, xhd, xht, mem_mk fun nm hm => ?_⟩, xhn, xhk, mem_mk fun c hc => ?_, fun nm c D C h1 h2 e1 e2 => ?_⟩
    · simp only [xnames, List.mem_cons, List.not_mem_nil, or_false] at hm
      rcases hm with rfl | rfl
      · exact ⟨dxNoFrame, PySem.W.mg_of X G xaNoFrame, x0NoFrame, x1NoFrame, x2NoFrame, x3NoFrame, x4NoFrame, x5NoFrame, x6NoFrame, x7NoFrame, x8NoFrame, x9NoFrame, x10NoFrame⟩
      · exact ⟨dxNoText, PySem.W.mg_of X G xaNoText, x0NoText, x1NoText, x2NoText, x3NoText, x4NoText, x5NoText, x6NoText, x7NoText, x8NoText, x9NoText, x10NoText⟩
    · simp only [xclasses, List.mem_cons, List.not_mem_nil, or_false] at hc
      rcases hc with rfl | rfl | rfl | rfl | rfl | rfl | rfl | rfl | rfl | rfl
      · exact ⟨_, PySem.W.mg_of X G xaNoEven⟩
      · exact ⟨_, PySem.W.mg_of X G xaNoFrame⟩
      · exact ⟨_, PySem.W.mg_of X G xaNoFrames⟩
      · exact ⟨_, PySem.W.mg_of X G xaNoMiss⟩
      · exact ⟨_, PySem.W.mg_of X G xaNoName⟩
      · exact ⟨_, PySem.W.mg_of X G xaNoNumber⟩
      · exact ⟨_, PySem.W.mg_of X G xaNoPart⟩
      · exact ⟨_, PySem.W.mg_of X G xaNoRow⟩
      · exact ⟨_, PySem.W.mg_of X G xaNoSum⟩
      · exact ⟨_, PySem.W.mg_of X G xaNoText⟩
    · have m1 : nm ∈ xnames := by simpa using h1
      have m2 : c ∈ xclasses := by simpa using h2
      clear h1 h2
      simp only [xnames, xclasses, List.mem_cons, List.not_mem_nil, or_false] at m1 m2
      rcases m1 with rfl | rfl
      · cases e1.symm.trans (PySem.W.mg_of X G xaNoFrame)
        rcases m2 with rfl | rfl | rfl | rfl | rfl | rfl | rfl | rfl | rfl | rfl
        · cases e2.symm.trans (PySem.W.mg_of X G xaNoEven); exact yNoFrameNoEven
        · cases e2.symm.trans (PySem.W.mg_of X G xaNoFrame); exact yNoFrameNoFrame
        · cases e2.symm.trans (PySem.W.mg_of X G xaNoFrames); exact yNoFrameNoFrames
        · cases e2.symm.trans (PySem.W.mg_of X G xaNoMiss); exact yNoFrameNoMiss
        · cases e2.symm.trans (PySem.W.mg_of X G xaNoName); exact yNoFrameNoName
        · cases e2.symm.trans (PySem.W.mg_of X G xaNoNumber); exact yNoFrameNoNumber
        · cases e2.symm.trans (PySem.W.mg_of X G xaNoPart); exact yNoFrameNoPart
        · cases e2.symm.trans (PySem.W.mg_of X G xaNoRow); exact yNoFrameNoRow
        · cases e2.symm.trans (PySem.W.mg_of X G xaNoSum); exact yNoFrameNoSum
        · cases e2.symm.trans (PySem.W.mg_of X G xaNoText); exact yNoFrameNoText
      · cases e1.symm.trans (PySem.W.mg_of X G xaNoText)
        rcases m2 with rfl | rfl | rfl | rfl | rfl | rfl | rfl | rfl | rfl | rfl
        · cases e2.symm.trans (PySem.W.mg_of X G xaNoEven); exact yNoTextNoEven
        · cases e2.symm.trans (PySem.W.mg_of X G xaNoFrame); exact yNoTextNoFrame
        · cases e2.symm.trans (PySem.W.mg_of X G xaNoFrames); exact yNoTextNoFrames
        · cases e2.symm.trans (PySem.W.mg_of X G xaNoMiss); exact yNoTextNoMiss
        · cases e2.symm.trans (PySem.W.mg_of X G xaNoName); exact yNoTextNoName
        · cases e2.symm.trans (PySem.W.mg_of X G xaNoNumber); exact yNoTextNoNumber
        · cases e2.symm.trans (PySem.W.mg_of X G xaNoPart); exact yNoTextNoPart
        · cases e2.symm.trans (PySem.W.mg_of X G xaNoRow); exact yNoTextNoRow
        · cases e2.symm.trans (PySem.W.mg_of X G xaNoSum); exact yNoTextNoSum
        · cases e2.symm.trans (PySem.W.mg_of X G xaNoText); exact yNoTextNoText
  refine ⟨PySem.W.fnOf "law" "law" (defArgs st_law) (defBody st_law) (defScope st_law) .none kV17 dc17 pm17 an17 cd17 ct17, fun s v => .of_eq rfl, fun base _ _ => ?_⟩
  have F0 := fun_mk (st := st_is_whole) l0 c0 k0
  have B0 := F0.binds (ps := ["thing"]) fun _ _ _ _ _ _ us hl => match us, hl with | [_], _ => rfl
  have D_is_whole : ∀ Z : Rsc, Z.n0 = 0 → Df l.prog w K mg base CX0 1 "is_whole" ["thing"] Z S_is_whole := fun Z hz => ⟨_, _, ok_is_whole Z hz T F0 TX, PySem.W.mg_of X G a0, k0, B0⟩
  have F1 := fun_mk (st := st_is_weight) l1 c1 k1
  have B1 := F1.binds (ps := ["thing"]) fun _ _ _ _ _ _ us hl => match us, hl with | [_], _ => rfl
  have D_is_weight : ∀ Z : Rsc, Z.n0 = 0 → Df l.prog w K mg base CX0 2 "is_weight" ["thing"] Z S_is_weight := fun Z hz => ⟨_, _, ok_is_weight Z hz T F1 TX D_is_whole, PySem.W.mg_of X G a1, k1, B1⟩
  have F2 := fun_mk (st := st_are_parts) l2 c2 k2
  have B2 := F2.binds (ps := ["thing"]) fun _ _ _ _ _ _ us hl => match us, hl with | [_], _ => rfl
  have D_are_parts : ∀ Z : Rsc, Z.n0 = 0 → Df l.prog w K mg base CX0 2 "are_parts" ["thing"] Z S_are_parts := fun Z hz => ⟨_, _, ok_are_parts Z hz T F2 TX D_is_whole, PySem.W.mg_of X G a2, k2, B2⟩
  have F3 := fun_mk (st := st_is_frame) l3 c3 k3
  have B3 := F3.binds (ps := ["thing"]) fun _ _ _ _ _ _ us hl => match us, hl with | [_], _ => rfl
  have D_is_frame : ∀ Z : Rsc, Z.n0 = 0 → Df l.prog w K mg base CX0 3 "is_frame" ["thing"] Z S_is_frame := fun Z hz => ⟨_, _, ok_is_frame Z hz T F3 TX D_is_whole D_are_parts D_is_weight, PySem.W.mg_of X G a3, k3, B3⟩
  have F4 := fun_mk (st := st_show_frame) l4 c4 k4
  have B4 := F4.binds (ps := ["frame"]) fun _ _ _ _ _ _ us hl => match us, hl with | [_], _ => rfl
  have D_show_frame : ∀ Z : Rsc, Z.n0 = 0 → Df l.prog w K mg base (L2.CX l.prog w) 4 "show_frame" ["frame"] Z S_show_frame := fun Z hz => ⟨_, _, ok_show_frame Z hz T F4 TX D_is_frame, PySem.W.mg_of X G a4, k4, B4⟩
  have F5 := fun_mk (st := st_read_word) l5 c5 k5
  have B5 := F5.binds (ps := ["word"]) fun _ _ _ _ _ _ us hl => match us, hl with | [_], _ => rfl
  have D_read_word : ∀ Z : Rsc, Z.n0 = 0 → Df l.prog w K mg base (L2.CX l.prog w) 1 "read_word" ["word"] Z S_read_word := fun Z hz => ⟨_, _, ok_read_word Z hz T F5 TX, PySem.W.mg_of X G a5, k5, B5⟩
  have F6 := fun_mk (st := st_read_frame) l6 c6 k6
  have B6 := F6.binds (ps := ["text"]) fun _ _ _ _ _ _ us hl => match us, hl with | [_], _ => rfl
  have D_read_frame : ∀ Z : Rsc, Z.n0 = 0 → Df l.prog w K mg base (L2.CX l.prog w) 4 "read_frame" ["text"] Z S_read_frame := fun Z hz => ⟨_, _, ok_read_frame Z hz T F6 TX D_read_word D_is_frame, PySem.W.mg_of X G a6, k6, B6⟩
  have F7 := fun_mk (st := st_law_cell) l7 c7 k7
  have B7 := F7.binds (ps := ["script", "k"]) fun _ _ _ _ _ _ us hl => match us, hl with | [_, _], _ => rfl
  have D_law_cell : ∀ Z : Rsc, Z.n0 = 0 → Df l.prog w K mg base CX0 1 "_law_cell" ["script", "k"] Z S_law_cell := fun Z hz => ⟨_, _, ok_law_cell Z hz T F7 TX, PySem.W.mg_of X G a7, k7, B7⟩
  have F8 := fun_mk (st := st_law_mixed) l8 c8 k8
  have B8 := F8.binds (ps := ["cell", "k"]) fun _ _ _ _ _ _ us hl => match us, hl with | [_, _], _ => rfl
  have D_law_mixed : ∀ Z : Rsc, Z.n0 = 0 → Df l.prog w K mg base CX0 1 "_law_mixed" ["cell", "k"] Z S_law_mixed := fun Z hz => ⟨_, _, ok_law_mixed Z hz T F8 TX, PySem.W.mg_of X G a8, k8, B8⟩
  have F9 := fun_mk (st := st_law_frame) l9 c9 k9
  have B9 := F9.binds (ps := ["cell", "most"]) fun _ _ _ _ _ _ us hl => match us, hl with | [_, _], _ => rfl
  have D_law_frame : ∀ Z : Rsc, Z.n0 = 0 → Df l.prog w K mg base CX0 2 "_law_frame" ["cell", "most"] Z S_law_frame := fun Z hz => ⟨_, _, ok_law_frame Z hz T F9 TX D_law_mixed, PySem.W.mg_of X G a9, k9, B9⟩
  have F10 := fun_mk (st := st_law_written) l10 c10 k10
  have B10 := F10.binds (ps := ["frame"]) fun _ _ _ _ _ _ us hl => match us, hl with | [_], _ => rfl
  have D_law_written : ∀ Z : Rsc, Z.n0 = 0 → Df l.prog w K mg base CX0 1 "_law_written" ["frame"] Z S_law_written := fun Z hz => ⟨_, _, ok_law_written Z hz T F10 TX, PySem.W.mg_of X G a10, k10, B10⟩
  have F11 := fun_mk (st := st_law_number) l11 c11 k11
  have B11 := F11.binds (ps := ["word"]) fun _ _ _ _ _ _ us hl => match us, hl with | [_], _ => rfl
  have D_law_number : ∀ Z : Rsc, Z.n0 = 0 → Df l.prog w K mg base CX0 1 "_law_number" ["word"] Z S_law_number := fun Z hz => ⟨_, _, ok_law_number Z hz T F11 TX, PySem.W.mg_of X G a11, k11, B11⟩
  have F12 := fun_mk (st := st_law_writes) l12 c12 k12
  have B12 := F12.binds (ps := ["text"]) fun _ _ _ _ _ _ us hl => match us, hl with | [_], _ => rfl
  have D_law_writes : ∀ Z : Rsc, Z.n0 = 0 → Df l.prog w K mg base CX0 2 "_law_writes" ["text"] Z S_law_writes := fun Z hz => ⟨_, _, ok_law_writes Z hz T F12 TX D_law_number, PySem.W.mg_of X G a12, k12, B12⟩
  have F13 := fun_mk (st := st_law_odd) l13 c13 k13
  have B13 := F13.binds (ps := ["cell"]) fun _ _ _ _ _ _ us hl => match us, hl with | [_], _ => rfl
  have D_law_odd : ∀ Z : Rsc, Z.n0 = 0 → Df l.prog w K mg base CX0 1 "_law_odd" ["cell"] Z S_law_odd := fun Z hz => ⟨_, _, ok_law_odd Z hz T F13 TX, PySem.W.mg_of X G a13, k13, B13⟩
  have F14 := fun_mk (st := st_law_given) l14 c14 k14
  have B14 := F14.binds (ps := ["cell"]) fun _ _ _ _ _ _ us hl => match us, hl with | [_], _ => rfl
  have D_law_given : ∀ Z : Rsc, Z.n0 = 0 → Df l.prog w K mg base CX0 3 "_law_given" ["cell"] Z S_law_given := fun Z hz => ⟨_, _, ok_law_given Z hz T F14 TX D_law_odd D_law_mixed D_law_frame D_law_written, PySem.W.mg_of X G a14, k14, B14⟩
  have F15 := fun_mk (st := st_law_asked) l15 c15 k15
  have B15 := F15.binds (ps := ["ask", "thing"]) fun _ _ _ _ _ _ us hl => match us, hl with | [_, _], _ => rfl
  have D_law_asked : ∀ Z : Rsc, Z.n0 = 0 → Df l.prog w K mg base CX0 5 "_law_asked" ["ask", "thing"] Z S_law_asked := fun Z hz => ⟨_, _, ok_law_asked Z hz T F15 TX D_read_frame D_show_frame, PySem.W.mg_of X G a15, k15, B15⟩
  have F16 := fun_mk (st := st_law_bad) l16 c16 k16
  have B16 := F16.binds (ps := ["frame", "cell"]) fun _ _ _ _ _ _ us hl => match us, hl with | [_, _], _ => rfl
  have D_law_bad : ∀ Z : Rsc, Z.n0 = 0 → Df l.prog w K mg base CX0 1 "_law_bad" ["frame", "cell"] Z S_law_bad := fun Z hz => ⟨_, _, ok_law_bad Z hz T F16 TX, PySem.W.mg_of X G a16, k16, B16⟩
  have F17 := fun_mk (st := st_law) l17 c17 k17
  exact (ok_law T F17 TX D_law_cell D_law_given D_law_asked D_law_writes D_law_mixed D_law_frame D_law_bad).imp law_lift
theorem walk {l : PySem.W.OpenLaw} {q : Program} {loose : List Str} {XP : (Str → Option Value) → Heap → Prop} {YP : World → Heap → Prop} {d : DefRec} {K : Params → PySem.W.Frag} (hn : l.most = some 63) (hdf : d.params.defaults = [])
    (hY : ∀ (w : World) (h : Heap), YP w h → (K w.params).In h)
    (F : ∀ (w : World) (mg : Str → Option Value) (fa : Addr) (h : Heap), (K w.params).In h → h.Ns mainGlobals mg → mg d.name = some (.ref fa) →
      ∃ fd : FuncData, (∀ (s : Shared) (u : Value), BindsTo s fd ⟨[u], []⟩ [("script", u)]) ∧ ∀ base : Heap, (K w.params).In base → base.Ns mainGlobals mg → FnG l.prog w (K w.params) mg base CX0 6 fa fd ["script"] (spLaw (K w.params))) :
    PySem.W.WalkO q loose XP YP l.row.toRowW d [] (fun f vs => PySem.call f vs) :=
  FnG.walk (n := 63) (k := 6) (x := "script") (cx := fun _ => CX0) (sp := fun w => spLaw (K w.params)) hn (by decide) hdf ⟨rfl, by decide, by decide⟩ hY F (fun _ _ a ns hl _ hS => ⟨a, ns, rfl, hS, hl, fun _ => rfl⟩) fun _ _ _ _ _ z => z
end LK

open PySem PySem.W PyProof.Rows in
set_option maxRecDepth 100000 in
set_option maxHeartbeats 0 in
theorem PySem.Challenge.cw_likehalves_k39_texts_that_write_no_frame_holds : PySem.Challenge.rw_likehalves_k39_texts_that_write_no_frame.Holds := by
  w_on; o_law; k_head; (case hw => w_witness2)
  k_fill
  refine LK.walk (l := PySem.Challenge.rw_likehalves_k39_texts_that_write_no_frame) rfl rfl (fun w h Y => PySem.W.kIn_of Y) ?F
  case F =>
    intro w mg fa h KX G hmg
    refine' LK.all_mk KX G hmg ?a0 ?l0 ?c0 ?k0 ?a1 ?l1 ?c1 ?k1 ?a2 ?l2 ?c2 ?k2 ?a3 ?l3 ?c3 ?k3 ?a4 ?l4 ?c4 ?k4 ?a5 ?l5 ?c5 ?k5 ?a6 ?l6 ?c6 ?k6 ?a7 ?l7 ?c7 ?k7 ?a8 ?l8 ?c8 ?k8 ?a9 ?l9 ?c9 ?k9 ?a10 ?l10 ?c10 ?k10 ?a11 ?l11 ?c11 ?k11 ?a12 ?l12 ?c12 ?k12 ?a13 ?l13 ?c13 ?k13 ?a14 ?l14 ?c14 ?k14 ?a15 ?l15 ?c15 ?k15 ?a16 ?l16 ?c16 ?k16 ?a17 ?l17 ?c17 ?k17 ?z0 ?z1 ?z2 ?z3 ?z4 ?z5 ?z6 ?z7 ?z8 ?z9 ?z10 ?z11 ?z12 ?z13 ?q0 ?q1 ?q2 ?q3 ?q4 ?q5 ?q6 ?xaHalfError ?xaNoFrame ?xaNoText ?xaNoEven ?xaNoFrames ?xaNoMiss ?xaNoName ?xaNoNumber ?xaNoPart ?xaNoRow ?xaNoSum ?xhs ?xhd ?xht ?xhn ?xhk ?x0NoFrame ?x1NoFrame ?x2NoFrame ?x3NoFrame ?x4NoFrame ?x5NoFrame ?x6NoFrame ?x7NoFrame ?x8NoFrame ?x9NoFrame ?x10NoFrame ?yNoFrameNoEven ?yNoFrameNoFrame ?yNoFrameNoFrames ?yNoFrameNoMiss ?yNoFrameNoName ?yNoFrameNoNumber ?yNoFrameNoPart ?yNoFrameNoRow ?yNoFrameNoSum ?yNoFrameNoText ?x0NoText ?x1NoText ?x2NoText ?x3NoText ?x4NoText ?x5NoText ?x6NoText ?x7NoText ?x8NoText ?x9NoText ?x10NoText ?yNoTextNoEven ?yNoTextNoFrame ?yNoTextNoFrames ?yNoTextNoMiss ?yNoTextNoName ?yNoTextNoNumber ?yNoTextNoPart ?yNoTextNoRow ?yNoTextNoSum ?yNoTextNoText
    (case a0 => k_is)
    (case l0 => k_is)
    (case c0 => k_is)
    (case k0 => k_is)
    (case a1 => k_is)
    (case l1 => k_is)
    (case c1 => k_is)
    (case k1 => k_is)
    (case a2 => k_is)
    (case l2 => k_is)
    (case c2 => k_is)
    (case k2 => k_is)
    (case a3 => k_is)
    (case l3 => k_is)
    (case c3 => k_is)
    (case k3 => k_is)
    (case a4 => k_is)
    (case l4 => k_is)
    (case c4 => k_is)
    (case k4 => k_is)
    (case a5 => k_is)
    (case l5 => k_is)
    (case c5 => k_is)
    (case k5 => k_is)
    (case a6 => k_is)
    (case l6 => k_is)
    (case c6 => k_is)
    (case k6 => k_is)
    (case a7 => k_is)
    (case l7 => k_is)
    (case c7 => k_is)
    (case k7 => k_is)
    (case a8 => k_is)
    (case l8 => k_is)
    (case c8 => k_is)
    (case k8 => k_is)
    (case a9 => k_is)
    (case l9 => k_is)
    (case c9 => k_is)
    (case k9 => k_is)
    (case a10 => k_is)
    (case l10 => k_is)
    (case c10 => k_is)
    (case k10 => k_is)
    (case a11 => k_is)
    (case l11 => k_is)
    (case c11 => k_is)
    (case k11 => k_is)
    (case a12 => k_is)
    (case l12 => k_is)
    (case c12 => k_is)
    (case k12 => k_is)
    (case a13 => k_is)
    (case l13 => k_is)
    (case c13 => k_is)
    (case k13 => k_is)
    (case a14 => k_is)
    (case l14 => k_is)
    (case c14 => k_is)
    (case k14 => k_is)
    (case a15 => k_is)
    (case l15 => k_is)
    (case c15 => k_is)
    (case k15 => k_is)
    (case a16 => k_is)
    (case l16 => k_is)
    (case c16 => k_is)
    (case k16 => k_is)
    (case a17 => k_is)
    (case l17 => k_is)
    (case c17 => k_is)
    (case k17 => k_is)
    (case z0 => k_is)
    (case z1 => k_is)
    (case z2 => k_is)
    (case z3 => k_is)
    (case z4 => k_is)
    (case z5 => k_is)
    (case z6 => k_is)
    (case z7 => k_is)
    (case z8 => k_is)
    (case z9 => k_is)
    (case z10 => k_is)
    (case z11 => k_is)
    (case z12 => k_is)
    (case z13 => k_is)
    (case q0 => k_is)
    (case q1 => k_is)
    (case q2 => k_is)
    (case q3 => k_is)
    (case q4 => k_is)
    (case q5 => k_is)
    (case q6 => k_is)
    (case xaHalfError => k_is)
    (case xaNoFrame => k_is)
    (case xaNoText => k_is)
    (case xaNoEven => k_is)
    (case xaNoFrames => k_is)
    (case xaNoMiss => k_is)
    (case xaNoName => k_is)
    (case xaNoNumber => k_is)
    (case xaNoPart => k_is)
    (case xaNoRow => k_is)
    (case xaNoSum => k_is)
    (case xhs => k_is)
    (case xhd => k_is)
    (case xht => k_is)
    (case xhn => k_is)
    (case xhk => k_is)
    (case x0NoFrame => k_is)
    (case x1NoFrame => k_exc)
    (case x2NoFrame => k_is)
    (case x3NoFrame => k_is)
    (case x4NoFrame => k_is)
    (case x5NoFrame => k_is)
    (case x6NoFrame => k_is)
    (case x7NoFrame => k_is)
    (case x8NoFrame => k_is)
    (case x9NoFrame => k_is)
    (case x10NoFrame => kit_is)
    (case yNoFrameNoEven => kit_is)
    (case yNoFrameNoFrame => kit_is)
    (case yNoFrameNoFrames => kit_is)
    (case yNoFrameNoMiss => kit_is)
    (case yNoFrameNoName => kit_is)
    (case yNoFrameNoNumber => kit_is)
    (case yNoFrameNoPart => kit_is)
    (case yNoFrameNoRow => kit_is)
    (case yNoFrameNoSum => kit_is)
    (case yNoFrameNoText => kit_is)
    (case x0NoText => k_is)
    (case x1NoText => k_exc)
    (case x2NoText => k_is)
    (case x3NoText => k_is)
    (case x4NoText => k_is)
    (case x5NoText => k_is)
    (case x6NoText => k_is)
    (case x7NoText => k_is)
    (case x8NoText => k_is)
    (case x9NoText => k_is)
    (case x10NoText => kit_is)
    (case yNoTextNoEven => kit_is)
    (case yNoTextNoFrame => kit_is)
    (case yNoTextNoFrames => kit_is)
    (case yNoTextNoMiss => kit_is)
    (case yNoTextNoName => kit_is)
    (case yNoTextNoNumber => kit_is)
    (case yNoTextNoPart => kit_is)
    (case yNoTextNoRow => kit_is)
    (case yNoTextNoSum => kit_is)
    (case yNoTextNoText => kit_is)

