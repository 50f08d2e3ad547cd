import PyProof.Rows.All
import Wide.All
import OpenK.AllK
import Wide.FinOn
import HandS.ForMost
import HandS.ForExc
import HandS.Star
import HandS.CallSlots
import HandS.Wide
import HandS.IsInst
import HandS.Style
import HandS.ExcOwn
import OpenK.KMake
import HandS.TryOnly
import HandS.Iter
import HandS.HotCalls
import PyProof.ReprLen
import PySem.Challenge.RW_onwardlines_k48_histories_of_nets
set_option Elab.async false
set_option autoImplicit false
set_option linter.all false
set_option maxHeartbeats 4000000
set_option maxRecDepth 100000
namespace DS
open PySem L2

/-- data by value; a mutable thing by its number in the store -/
inductive D where
  | non | bl (b : Bool) | int (i : Int) | str (x : Str)
  | lst (xs : List D) | tup (xs : List D)
  | scr (ns : List Int)
  | cell (n : Nat)
  | ins (c : Nat) (fs : List D)
  | exn (c : Nat) (fs : List D)

inductive O where
  | lst (xs : List D) | obj (c : Nat) (fs : List D) | dct (kvs : List (Int × D)) | gone

abbrev Store := List O
abbrev DEnv := List (Option D)

inductive Res (α : Type) where
  | ok (a : α) (st : Store) | exn (c : Nat) (fs : List D) (st : Store) | bad
abbrev M (α : Type) := Store → Res α
def Res.bind {α β : Type} (r : Res α) (f : α → Store → Res β) : Res β := match r with
  | .ok a st => f a st
  | .exn c fs st => .exn c fs st
  | .bad => .bad
def ret {α : Type} (a : α) : M α := fun st => .ok a st
def bad {α : Type} : M α := fun _ => .bad
def bindM {α β : Type} (m : M α) (f : α → M β) : M β := fun st => (m st).bind f

/-- what a text's classes are -/
structure Sig where
  K : PySem.W.Frag
  cls : Nat → Addr
  fld : Nat → List Str

structure Wd where
  G : Hp
  ι : List Addr

/-- an exception object of the class at C with the own dict d -/
def ExH (C : Addr) (d : Option Addr) (a : Addr) : HO := .ext fun h => ∃ (oe : Obj) (vs : Array Value), h.get? a = some oe ∧ oe.cls = .ref C ∧ oe.dict = d ∧ oe.data = .fields vs

mutual
def Rep (Γ : Sig) (w : Wd) : D → V → Prop
  | .non, v => v = .non
  | .bl b, v => v = .bl b
  | .int i, v => v = .int i
  | .str x, v => v = .str x
  | .lst ds, v => ∃ a vs, v = .ref a ∧ w.G a = some (.lst vs) ∧ RepL Γ w ds vs
  | .scr ns, v => ∃ a, v = .ref a ∧ SqL Γ.K w.G a (ns.map V.int)
  | .tup ds, v => ∃ a vs, v = .ref a ∧ SqT Γ.K w.G a vs ∧ RepL Γ w ds vs
  | .cell n, v => ∃ a, v = .ref a ∧ w.ι[n]? = some a
  | .ins c ds, v => ∃ a dx vs, v = .ref a ∧ w.G a = some (.ins (Γ.cls c) dx ((Γ.fld c).zip vs)) ∧ RepL Γ w ds vs ∧ ds.length = (Γ.fld c).length
  | .exn c ds, v => ∃ a, v = .ref a ∧ ((ds = [] ∧ w.G a = some (ExH (Γ.cls c) none a)) ∨ ∃ d vs, w.G a = some (ExH (Γ.cls c) (some d) a) ∧ w.G d = some (.xd ((Γ.fld c).zip vs)) ∧ RepL Γ w ds vs ∧ ds.length = (Γ.fld c).length)
def RepL (Γ : Sig) (w : Wd) : List D → List V → Prop
  | [], vs => vs = []
  | d :: ds, vs => ∃ v r, vs = v :: r ∧ Rep Γ w d v ∧ RepL Γ w ds r
end

structure Grow (w w' : Wd) : Prop where
  G : Same w.G w'.G
  ι : ∃ t, w'.ι = w.ι ++ t
theorem Grow.refl (w : Wd) : Grow w w := ⟨Same.refl _, [], (List.append_nil _).symm⟩
theorem Grow.trans {a b c : Wd} (x : Grow a b) (y : Grow b c) : Grow a c := by
  obtain ⟨g1, t1, e1⟩ := x
  obtain ⟨g2, t2, e2⟩ := y
  exact ⟨g1.trans g2, t1 ++ t2, by rw [e2, e1, List.append_assoc]⟩
theorem Same.tup {K : PySem.W.Frag} {H H' : Hp} {a : Addr} {xs : List V} (e : Same H H') (h : SqT K H a xs) : SqT K H' a xs := by
  rcases h with (h | ⟨o, h⟩) | h
  · exact .inl (.inl (e _ _ h))
  · exact .inl (.inr ⟨o, e _ _ h⟩)
  · exact .inr h
theorem Grow.at {w w' : Wd} (g : Grow w w') {n : Nat} {a : Addr} (h : w.ι[n]? = some a) : w'.ι[n]? = some a := by
  obtain ⟨_, t, e⟩ := g
  rw [e, List.getElem?_append_left (List.getElem?_eq_some_iff.mp h).1]
  exact h
mutual
theorem Rep.mono {Γ : Sig} {w w' : Wd} (g : Grow w w') : ∀ {d : D} {v : V}, Rep Γ w d v → Rep Γ w' d v
  | .non, _, h => by unfold Rep at h ⊢; exact h
  | .bl _, _, h => by unfold Rep at h ⊢; exact h
  | .int _, _, h => by unfold Rep at h ⊢; exact h
  | .str _, _, h => by unfold Rep at h ⊢; exact h
  | .lst ds, _, h => by
    unfold Rep at h ⊢
    obtain ⟨a, vs, e, s, r⟩ := h
    exact ⟨a, vs, e, g.G _ _ s, RepL.mono g r⟩
  | .scr ns, _, h => by
    unfold Rep at h ⊢
    obtain ⟨a, e, s⟩ := h
    exact ⟨a, e, g.G.seq s⟩
  | .tup ds, _, h => by
    unfold Rep at h ⊢
    obtain ⟨a, vs, e, s, r⟩ := h
    exact ⟨a, vs, e, Same.tup g.G s, RepL.mono g r⟩
  | .cell n, _, h => by
    unfold Rep at h ⊢
    obtain ⟨a, e, s⟩ := h
    exact ⟨a, e, g.at s⟩
  | .ins c ds, _, h => by
    unfold Rep at h ⊢
    obtain ⟨a, dx, vs, e, s, r, l⟩ := h
    exact ⟨a, dx, vs, e, g.G _ _ s, RepL.mono g r, l⟩
  | .exn c ds, _, h => by
    unfold Rep at h ⊢
    obtain ⟨a, e, ⟨n, s⟩ | ⟨d, vs, s, s2, r, l⟩⟩ := h
    · exact ⟨a, e, .inl ⟨n, g.G _ _ s⟩⟩
    · exact ⟨a, e, .inr ⟨d, vs, g.G _ _ s, g.G _ _ s2, RepL.mono g r, l⟩⟩
theorem RepL.mono {Γ : Sig} {w w' : Wd} (g : Grow w w') : ∀ {ds : List D} {vs : List V}, RepL Γ w ds vs → RepL Γ w' ds vs
  | [], _, h => by unfold RepL at h ⊢; exact h
  | d :: ds, _, h => by
    unfold RepL at h ⊢
    obtain ⟨v, r, e, h1, h2⟩ := h
    exact ⟨v, r, e, Rep.mono g h1, RepL.mono g h2⟩
end
section
variable {Γ : Sig} {w w' : Wd}
theorem RepL.nil : RepL Γ w [] [] := by unfold RepL; rfl
theorem RepL.cons {d : D} {v : V} {ds : List D} {vs : List V} (h : Rep Γ w d v) (r : RepL Γ w ds vs) : RepL Γ w (d :: ds) (v :: vs) := by
  unfold RepL
  exact ⟨v, vs, rfl, h, r⟩
theorem RepL.nil_inv {vs : List V} (h : RepL Γ w [] vs) : vs = [] := by unfold RepL at h; exact h
theorem RepL.cons_inv {d : D} {ds : List D} {vs : List V} (h : RepL Γ w (d :: ds) vs) : ∃ v r, vs = v :: r ∧ Rep Γ w d v ∧ RepL Γ w ds r := by unfold RepL at h; exact h
theorem RepL.length : ∀ {ds : List D} {vs : List V}, RepL Γ w ds vs → vs.length = ds.length
  | [], _, h => by rw [h.nil_inv]; rfl
  | d :: ds, _, h => by
    obtain ⟨v, r, rfl, _, h2⟩ := h.cons_inv
    rw [List.length_cons, List.length_cons, h2.length]
theorem RepL.append : ∀ {ds es : List D} {vs us : List V}, RepL Γ w ds vs → RepL Γ w es us → RepL Γ w (ds ++ es) (vs ++ us)
  | [], _, _, _, h, k => by rw [h.nil_inv]; exact k
  | d :: ds, _, _, _, h, k => by
    obtain ⟨v, r, rfl, h1, h2⟩ := h.cons_inv
    exact .cons h1 (h2.append k)
theorem RepL.get : ∀ {ds : List D} {vs : List V} {i : Nat} {d : D}, RepL Γ w ds vs → ds[i]? = some d → ∃ v, vs[i]? = some v ∧ Rep Γ w d v
  | [], _, _, _, _, e => by simp at e
  | d :: ds, _, 0, _, h, e => by
    obtain ⟨v, r, rfl, h1, h2⟩ := h.cons_inv
    simp at e
    subst e
    exact ⟨v, rfl, h1⟩
  | d :: ds, _, i + 1, _, h, e => by
    obtain ⟨v, r, rfl, h1, h2⟩ := h.cons_inv
    obtain ⟨u, e1, r1⟩ := h2.get (i := i) (by simpa using e)
    exact ⟨u, by simpa using e1, r1⟩
theorem RepL.get' {ds : List D} {vs : List V} {i : Nat} {v : V} (h : RepL Γ w ds vs) (e : vs[i]? = some v) : ∃ d, ds[i]? = some d ∧ Rep Γ w d v := by
  have hl := h.length
  have hi : i < ds.length := by rw [← hl]; exact (List.getElem?_eq_some_iff.mp e).1
  obtain ⟨u, e1, r⟩ := h.get (i := i) (List.getElem?_eq_getElem hi)
  rw [e] at e1
  cases e1
  exact ⟨_, List.getElem?_eq_getElem hi, r⟩
theorem RepL.set {d : D} {v : V} (r : Rep Γ w d v) : ∀ {ds : List D} {vs : List V} (i : Nat), RepL Γ w ds vs → RepL Γ w (ds.set i d) (vs.set i v)
  | [], _, _, h => by rw [h.nil_inv]; exact .nil
  | _ :: _, _, 0, h => by
    obtain ⟨u, q, rfl, h1, h2⟩ := h.cons_inv
    exact .cons r h2
  | _ :: _, _, i + 1, h => by
    obtain ⟨u, q, rfl, h1, h2⟩ := h.cons_inv
    exact .cons h1 (h2.set r i)
theorem RepL.take : ∀ {ds : List D} {vs : List V} (n : Nat), RepL Γ w ds vs → RepL Γ w (ds.take n) (vs.take n)
  | [], _, n, h => by rw [h.nil_inv]; simp; exact .nil
  | _ :: _, _, 0, _ => .nil
  | _ :: _, _, n + 1, h => by
    obtain ⟨u, q, rfl, h1, h2⟩ := h.cons_inv
    exact .cons h1 (h2.take n)
theorem RepL.drop : ∀ {ds : List D} {vs : List V} (n : Nat), RepL Γ w ds vs → RepL Γ w (ds.drop n) (vs.drop n)
  | [], _, n, h => by rw [h.nil_inv]; simp; exact .nil
  | _ :: _, _, 0, h => h
  | _ :: _, _, n + 1, h => by
    obtain ⟨u, q, rfl, h1, h2⟩ := h.cons_inv
    exact h2.drop n
theorem Rep.int {i : Int} : Rep Γ w (.int i) (.int i) := by unfold Rep; rfl
theorem Rep.bl {i : Bool} : Rep Γ w (.bl i) (.bl i) := by unfold Rep; rfl
theorem Rep.str {i : Str} : Rep Γ w (.str i) (.str i) := by unfold Rep; rfl
theorem Rep.non : Rep Γ w .non .non := by unfold Rep; rfl
theorem Rep.int_inv {i : Int} {v : V} (h : Rep Γ w (.int i) v) : v = .int i := by unfold Rep at h; exact h
theorem Rep.bl_inv {i : Bool} {v : V} (h : Rep Γ w (.bl i) v) : v = .bl i := by unfold Rep at h; exact h
theorem Rep.str_inv {i : Str} {v : V} (h : Rep Γ w (.str i) v) : v = .str i := by unfold Rep at h; exact h
theorem Rep.non_inv {v : V} (h : Rep Γ w .non v) : v = .non := by unfold Rep at h; exact h
theorem Rep.lst_inv {ds : List D} {v : V} (h : Rep Γ w (.lst ds) v) : ∃ a vs, v = .ref a ∧ w.G a = some (.lst vs) ∧ RepL Γ w ds vs := by unfold Rep at h; exact h
theorem Rep.tup_inv {ds : List D} {v : V} (h : Rep Γ w (.tup ds) v) : ∃ a vs, v = .ref a ∧ SqT Γ.K w.G a vs ∧ RepL Γ w ds vs := by unfold Rep at h; exact h
theorem Rep.cell_inv {n : Nat} {v : V} (h : Rep Γ w (.cell n) v) : ∃ a, v = .ref a ∧ w.ι[n]? = some a := by unfold Rep at h; exact h
theorem Rep.ins_inv {c : Nat} {ds : List D} {v : V} (h : Rep Γ w (.ins c ds) v) : ∃ a dx vs, v = .ref a ∧ w.G a = some (.ins (Γ.cls c) dx ((Γ.fld c).zip vs)) ∧ RepL Γ w ds vs ∧ ds.length = (Γ.fld c).length := by unfold Rep at h; exact h
theorem Rep.scr_inv {ns : List Int} {v : V} (h : Rep Γ w (.scr ns) v) : ∃ a, v = .ref a ∧ SqL Γ.K w.G a (ns.map V.int) := by unfold Rep at h; exact h
theorem Rep.mk_scr {ns : List Int} {a : Addr} (h : SqL Γ.K w.G a (ns.map V.int)) : Rep Γ w (.scr ns) (.ref a) := by unfold Rep; exact ⟨a, rfl, h⟩
theorem Rep.mk_lst {ds : List D} {a : Addr} {vs : List V} (h : w.G a = some (.lst vs)) (r : RepL Γ w ds vs) : Rep Γ w (.lst ds) (.ref a) := by unfold Rep; exact ⟨a, vs, rfl, h, r⟩
theorem Rep.mk_tup {ds : List D} {a : Addr} {vs : List V} (h : SqT Γ.K w.G a vs) (r : RepL Γ w ds vs) : Rep Γ w (.tup ds) (.ref a) := by unfold Rep; exact ⟨a, vs, rfl, h, r⟩
theorem Rep.mk_cell {n : Nat} {a : Addr} (h : w.ι[n]? = some a) : Rep Γ w (.cell n) (.ref a) := by unfold Rep; exact ⟨a, rfl, h⟩
theorem Rep.mk_ins {c : Nat} {ds : List D} {a dx : Addr} {vs : List V} (h : w.G a = some (.ins (Γ.cls c) dx ((Γ.fld c).zip vs))) (r : RepL Γ w ds vs) (l : ds.length = (Γ.fld c).length) : Rep Γ w (.ins c ds) (.ref a) := by unfold Rep; exact ⟨a, dx, vs, rfl, h, r, l⟩
end

/-! ### the store -/
def liveO : O → Prop
  | .gone => False
  | _ => True
def Live (st : Store) (n : Nat) : Prop := ∃ o, st[n]? = some o ∧ liveO o
def RepO (Γ : Sig) (w : Wd) (H : Hp) (a : Addr) : O → Prop
  | .lst ds => ∃ vs, H a = some (.lst vs) ∧ RepL Γ w ds vs
  | .obj c ds => ∃ dx vs, H a = some (.ins (Γ.cls c) dx ((Γ.fld c).zip vs)) ∧ RepL Γ w ds vs ∧ ds.length ≤ (Γ.fld c).length
  | .dct kvs => ∃ vs, H a = some (.dK (List.zip (kvs.map fun p => (Sum.inl p.1 : Key)) vs)) ∧ RepL Γ w (kvs.map (·.2)) vs
  | .gone => True
structure Rel (Γ : Sig) (w : Wd) (st : Store) (H : Hp) : Prop where
  sub : Same w.G H
  len : w.ι.length = st.length
  inj : ∀ (i j : Nat) (a : Addr), w.ι[i]? = some a → w.ι[j]? = some a → Live st i → Live st j → i = j
  off : ∀ (i : Nat) (a : Addr), w.ι[i]? = some a → Live st i → w.G a = none
  reps : ∀ (i : Nat) (o : O) (a : Addr), st[i]? = some o → w.ι[i]? = some a → RepO Γ w H a o
  dom : ∀ p ∈ w.ι, ∃ u, H p = some u
theorem RepO.mono {Γ : Sig} {w w' : Wd} {H : Hp} {a : Addr} {o : O} (g : Grow w w') (h : RepO Γ w H a o) : RepO Γ w' H a o := by
  cases o with
  | lst ds => obtain ⟨vs, e, r⟩ := h; exact ⟨vs, e, r.mono g⟩
  | obj c ds => obtain ⟨dx, vs, e, r, l⟩ := h; exact ⟨dx, vs, e, r.mono g, l⟩
  | dct kvs => obtain ⟨vs, e, r⟩ := h; exact ⟨vs, e, r.mono g⟩
  | gone => trivial
theorem RepO.heap {Γ : Sig} {w : Wd} {H H' : Hp} {a : Addr} {o : O} (e : H' a = H a) (h : RepO Γ w H a o) : RepO Γ w H' a o := by
  cases o with
  | lst ds => obtain ⟨vs, q, r⟩ := h; exact ⟨vs, e.trans q, r⟩
  | obj c ds => obtain ⟨dx, vs, q, r, l⟩ := h; exact ⟨dx, vs, e.trans q, r, l⟩
  | dct kvs => obtain ⟨vs, q, r⟩ := h; exact ⟨vs, e.trans q, r⟩
  | gone => trivial
theorem RepO.some {Γ : Sig} {w : Wd} {H : Hp} {a : Addr} {o : O} (l : liveO o) (h : RepO Γ w H a o) : ∃ u, H a = some u := by
  cases o with
  | lst ds => obtain ⟨vs, q, r⟩ := h; exact ⟨_, q⟩
  | obj c ds => obtain ⟨dx, vs, q, r, l⟩ := h; exact ⟨_, q⟩
  | dct kvs => obtain ⟨vs, q, r⟩ := h; exact ⟨_, q⟩
  | gone => exact l.elim
section
variable {Γ : Sig} {w : Wd} {st : Store} {H : Hp}
theorem Rel.addr (R : Rel Γ w st H) {n : Nat} {o : O} (h : st[n]? = some o) : ∃ a, w.ι[n]? = some a := by
  have := (List.getElem?_eq_some_iff.mp h).1
  exact ⟨_, List.getElem?_eq_getElem (by rw [R.len]; exact this)⟩
/-- a live thing's address is tracked -/
theorem Rel.there (R : Rel Γ w st H) {n : Nat} {a : Addr} (h : w.ι[n]? = some a) (l : Live st n) : ∃ u, H a = some u := by
  obtain ⟨o, ho, lo⟩ := l
  exact (R.reps n o a ho h).some lo
/-- the heap grows by objects nobody knows -/
theorem Rel.heap {H' : Hp} (R : Rel Γ w st H) (e : ∀ b o, H b = some o → (w.G b = some o ∨ b ∈ w.ι) → H' b = some o) : Rel Γ w st H' where
  sub := fun b o q => e b o (R.sub b o q) (.inl q)
  len := R.len
  inj := R.inj
  off := R.off
  dom := fun p hp => let ⟨u, h⟩ := R.dom p hp; ⟨u, e p u h (.inr hp)⟩
  reps := fun i o a h1 h2 => by
    have r := R.reps i o a h1 h2
    by_cases l : liveO o
    · obtain ⟨u, hu⟩ := r.some l
      exact r.heap ((e _ _ hu (.inr (List.mem_of_getElem? h2))).trans hu.symm)
    · cases o with
      | gone => trivial
      | lst _ => exact (l trivial).elim
      | obj _ _ => exact (l trivial).elim
      | dct _ => exact (l trivial).elim
end
/-- what an evaluation leaves as it was -/
structure Step (w : Wd) (H : Hp) (w' : Wd) (H' : Hp) : Prop where
  G : Same w.G w'.G
  ι : ∃ t, w'.ι = w.ι ++ t ∧ ∀ p ∈ t, H p = none
  keep : ∀ a o, H a = some o → a ∉ w.ι → H' a = some o
  dom : ∀ a, H' a = none → H a = none
  gnew : ∀ a o, w'.G a = some o → w.G a = some o ∨ H a = none ∨ a ∈ w.ι
theorem Step.grow {w w' : Wd} {H H' : Hp} (s : Step w H w' H') : Grow w w' := let ⟨t, e, _⟩ := s.ι; ⟨s.G, t, e⟩
theorem Step.refl (w : Wd) (H : Hp) : Step w H w H := ⟨Same.refl _, ⟨[], (List.append_nil _).symm, fun _ z => nomatch z⟩, fun _ _ h _ => h, fun _ h => h, fun _ _ h => .inl h⟩
theorem Step.trans {w w1 w2 : Wd} {H H1 H2 : Hp} (a : Step w H w1 H1) (b : Step w1 H1 w2 H2) : Step w H w2 H2 := by
  obtain ⟨t1, e1, f1⟩ := a.ι
  obtain ⟨t2, e2, f2⟩ := b.ι
  refine ⟨a.G.trans b.G, ⟨t1 ++ t2, by rw [e2, e1, List.append_assoc], fun p hp => ?_⟩, fun x o h n => b.keep x o (a.keep x o h n) fun z => ?_, fun x h => a.dom x (b.dom x h), fun x o h => ?_⟩
  · rcases List.mem_append.mp hp with z | z
    · exact f1 p z
    · exact a.dom p (f2 p z)
  · rw [e1] at z
    rcases List.mem_append.mp z with z | z
    · exact n z
    · rw [f1 x z] at h
      cases h
  · rcases b.gnew x o h with z | z | z
    · exact a.gnew x o z
    · exact .inr (.inl (a.dom x z))
    · rw [e1] at z
      rcases List.mem_append.mp z with z | z
      · exact .inr (.inr z)
      · exact .inr (.inl (f1 x z))
/-- new objects nobody knows -/
theorem Step.same {w : Wd} {H H' : Hp} (e : Same H H') : Step w H w H' := ⟨Same.refl _, ⟨[], (List.append_nil _).symm, fun _ z => nomatch z⟩, fun a o h _ => e a o h, fun _ h => e.free h, fun _ _ h => .inl h⟩
section
variable {Γ : Sig} {w : Wd} {st : Store} {H : Hp}
theorem Rel.same {H' : Hp} (R : Rel Γ w st H) (e : Same H H') : Rel Γ w st H' := R.heap fun b o h _ => e b o h
/-- an object that is tracked and not ours yet is given out as something that never changes -/
theorem Rel.know (R : Rel Γ w st H) {p : Addr} {u : HO} (gp : w.G p = none) (ip : p ∉ w.ι) (h : H p = some u) : Rel Γ ⟨upd w.G p u, w.ι⟩ st H ∧ Grow w ⟨upd w.G p u, w.ι⟩ := by
  have g : Grow w ⟨upd w.G p u, w.ι⟩ := ⟨fun b o q => by
    show upd w.G p u b = some o
    rw [upd_ne (ne_of_none q gp)]
    exact q, [], (List.append_nil _).symm⟩
  refine ⟨⟨fun b o q => ?_, R.len, R.inj, fun i a h1 l => ?_, fun i o a h1 h2 => (R.reps i o a h1 h2).mono g, R.dom⟩, g⟩
  · by_cases hb : b = p
    · subst hb
      have q : upd w.G b u b = some o := q
      rw [upd_same] at q
      cases q
      exact h
    · have q : upd w.G p u b = some o := q
      rw [upd_ne hb] at q
      exact R.sub _ _ q
  · show upd w.G p u a = none
    rw [upd_ne (fun z => ip (by subst z; exact List.mem_of_getElem? h1))]
    exact R.off i a h1 l
/-- .. or as a thing that may change -/
theorem Rel.own (R : Rel Γ w st H) {p : Addr} {o : O} (hp : ∃ u, H p = some u) (gp : w.G p = none) (ip : p ∉ w.ι) (h : RepO Γ ⟨w.G, w.ι ++ [p]⟩ H p o) : Rel Γ ⟨w.G, w.ι ++ [p]⟩ (st ++ [o]) H ∧ Grow w ⟨w.G, w.ι ++ [p]⟩ ∧ (w.ι ++ [p])[st.length]? = some p := by
  have g : Grow w ⟨w.G, w.ι ++ [p]⟩ := ⟨Same.refl _, [p], rfl⟩
  have old : ∀ {i : Nat} {o' : O}, (st ++ [o])[i]? = some o' → i ≠ st.length → st[i]? = some o' := fun {i o'} q ne => by
    have hl := (List.getElem?_eq_some_iff.mp q).1
    rw [List.length_append, List.length_singleton] at hl
    rw [List.getElem?_append_left (by omega)] at q
    exact q
  have olda : ∀ {i : Nat} {a : Addr}, (w.ι ++ [p])[i]? = some a → i ≠ st.length → w.ι[i]? = some a := fun {i a} q ne => by
    have hl := (List.getElem?_eq_some_iff.mp q).1
    rw [List.length_append, List.length_singleton, R.len] at hl
    rw [List.getElem?_append_left (by rw [R.len]; omega)] at q
    exact q
  have new : (w.ι ++ [p])[st.length]? = some p := by rw [List.getElem?_append_right (by rw [R.len]; exact Nat.le_refl _), R.len]; simp
  have liveold : ∀ {i : Nat}, Live (st ++ [o]) i → i ≠ st.length → Live st i := fun {i} ⟨o', ho, lo⟩ ne => ⟨o', old ho ne, lo⟩
  refine ⟨⟨R.sub, by simp [R.len], fun i j a h1 h2 l1 l2 => ?_, fun i a h1 l => ?_, fun i o' a h1 h2 => ?_, fun q hq => ?_⟩, g, new⟩
  · by_cases hi : i = st.length
    · by_cases hj : j = st.length
      · rw [hi, hj]
      · exfalso
        have h1 : (w.ι ++ [p])[i]? = some a := h1
        rw [hi, new] at h1
        cases h1
        exact ip (List.mem_of_getElem? (olda h2 hj))
    · by_cases hj : j = st.length
      · exfalso
        have h2 : (w.ι ++ [p])[j]? = some a := h2
        rw [hj, new] at h2
        cases h2
        exact ip (List.mem_of_getElem? (olda h1 hi))
      · exact R.inj i j a (olda h1 hi) (olda h2 hj) (liveold l1 hi) (liveold l2 hj)
  · by_cases hi : i = st.length
    · have h1 : (w.ι ++ [p])[i]? = some a := h1
      rw [hi, new] at h1
      cases h1
      exact gp
    · exact R.off i a (olda h1 hi) (liveold l hi)
  · by_cases hi : i = st.length
    · have h2 : (w.ι ++ [p])[i]? = some a := h2
      rw [hi, new] at h2
      cases h2
      rw [hi, List.getElem?_append_right (Nat.le_refl _)] at h1
      simp at h1
      subst h1
      exact h
    · exact (R.reps i o' a (old h1 hi) (olda h2 hi)).mono g
  · rcases List.mem_append.mp hq with z | z
    · exact R.dom q z
    · rw [List.mem_singleton.mp z]
      exact hp
/-- a new object: nobody's address yet -/
theorem Rel.fresh (R : Rel Γ w st H) {p : Addr} (hp : H p = none) : w.G p = none := R.sub.free hp
/-- a new object is laid and given out as something that never changes; p may be the address of something gone -/
theorem Rel.lay (R : Rel Γ w st H) {p : Addr} {u : HO} (hp : H p = none) : ∃ w', Step w H w' (upd H p u) ∧ Rel Γ w' st (upd H p u) ∧ w'.G p = some u := by
  have gp := R.fresh hp
  have sm : Same H (upd H p u) := fun b o e => by rw [upd_ne (ne_of_none e hp)]; exact e
  have g : Grow w ⟨upd w.G p u, w.ι⟩ := ⟨fun b o q => by
    show upd w.G p u b = some o
    rw [upd_ne (ne_of_none q gp)]
    exact q, [], (List.append_nil _).symm⟩
  have R1 := R.same sm
  refine ⟨⟨upd w.G p u, w.ι⟩, ⟨g.G, ⟨[], (List.append_nil _).symm, fun _ z => nomatch z⟩, fun a o h _ => sm a o h, fun a h => sm.free h, fun a o h => ?_⟩, ⟨fun b o q => ?_, R.len, R.inj, fun i a h1 l => ?_, fun i o a h1 h2 => (R1.reps i o a h1 h2).mono g, R1.dom⟩, upd_same⟩
  · by_cases ha : a = p
    · exact .inr (.inl (by rw [ha]; exact hp))
    · have h : upd w.G p u a = some o := h
      rw [upd_ne ha] at h
      exact .inl h
  · by_cases hb : b = p
    · subst hb
      have q : upd w.G b u b = some o := q
      rw [upd_same] at q
      rw [upd_same]
      exact q
    · have q : upd w.G p u b = some o := q
      rw [upd_ne hb] at q
      exact sm _ _ (R.sub _ _ q)
  · obtain ⟨x, hx⟩ := R.there h1 l
    show upd w.G p u a = none
    rw [upd_ne (ne_of_none hx hp)]
    exact R.off i a h1 l
/-- a thing of the store is changed in place -/
theorem Rel.put (R : Rel Γ w st H) {n : Nat} {a : Addr} {o o' : O} {u : HO} (ho : st[n]? = some o) (lo : liveO o) (ha : w.ι[n]? = some a) (h : RepO Γ w (upd H a u) a o') : Rel Γ w (st.set n o') (upd H a u) where
  dom := fun p hp => by
    by_cases e : p = a
    · exact ⟨u, by rw [e]; exact upd_same⟩
    · obtain ⟨x, hx⟩ := R.dom p hp
      exact ⟨x, by rw [upd_ne e]; exact hx⟩
  sub := fun b x q => by
    rw [upd_ne (fun z => by subst z; rw [R.off n b ha ⟨o, ho, lo⟩] at q; cases q)]
    exact R.sub b x q
  len := by rw [List.length_set]; exact R.len
  inj := fun i j b h1 h2 l1 l2 => by
    refine R.inj i j b h1 h2 ?_ ?_
    · obtain ⟨x, hx, lx⟩ := l1
      by_cases hi : i = n
      · subst hi; exact ⟨o, ho, lo⟩
      · rw [List.getElem?_set_ne (Ne.symm hi)] at hx
        exact ⟨x, hx, lx⟩
    · obtain ⟨x, hx, lx⟩ := l2
      by_cases hi : j = n
      · subst hi; exact ⟨o, ho, lo⟩
      · rw [List.getElem?_set_ne (Ne.symm hi)] at hx
        exact ⟨x, hx, lx⟩
  off := fun i b h1 l => by
    obtain ⟨x, hx, lx⟩ := l
    by_cases hi : i = n
    · subst hi; exact R.off i b h1 ⟨o, ho, lo⟩
    · rw [List.getElem?_set_ne (Ne.symm hi)] at hx
      exact R.off i b h1 ⟨x, hx, lx⟩
  reps := fun i x b h1 h2 => by
    by_cases hi : i = n
    · subst hi
      rw [List.getElem?_set_self (List.getElem?_eq_some_iff.mp ho).1] at h1
      cases h1
      rw [ha] at h2
      cases h2
      exact h
    · rw [List.getElem?_set_ne (Ne.symm hi)] at h1
      have r := R.reps i x b h1 h2
      by_cases l : liveO x
      · refine r.heap (upd_ne fun z => hi ?_)
        subst z
        exact R.inj i n b h2 ha ⟨x, h1, l⟩ ⟨o, ho, lo⟩
      · cases x with
        | gone => trivial
        | lst _ => exact (l trivial).elim
        | obj _ _ => exact (l trivial).elim
        | dct _ => exact (l trivial).elim
/-- a new object is laid as a thing that may change -/
theorem Rel.lay2 (R : Rel Γ w st H) {p : Addr} {u : HO} {o : O} (hp : H p = none) (h : RepO Γ ⟨w.G, w.ι ++ [p]⟩ (upd H p u) p o) : ∃ w', Step w H w' (upd H p u) ∧ Rel Γ w' (st ++ [o]) (upd H p u) ∧ w'.ι[st.length]? = some p := by
  have gp := R.fresh hp
  have sm : Same H (upd H p u) := fun b o e => by rw [upd_ne (ne_of_none e hp)]; exact e
  have ip : p ∉ w.ι := fun z => by
    obtain ⟨x, hx⟩ := R.dom p z
    rw [hp] at hx
    cases hx
  obtain ⟨R2, g, e⟩ := (R.same sm).own ⟨u, upd_same⟩ gp ip h
  exact ⟨_, ⟨g.G, ⟨[p], rfl, fun q hq => by rw [List.mem_singleton.mp hq]; exact hp⟩, fun a o h _ => sm a o h, fun a h => sm.free h, fun a o h => .inl h⟩, R2, e⟩
/-- a thing of the store is changed in place: what stays -/
theorem Rel.putStep (R : Rel Γ w st H) {n : Nat} {a : Addr} {u : HO} (ha : w.ι[n]? = some a) : Step w H w (upd H a u) :=
  ⟨Same.refl _, ⟨[], (List.append_nil _).symm, fun _ z => nomatch z⟩, fun b o h n => by rw [upd_ne (fun z => n (by rw [z]; exact List.mem_of_getElem? ha))]; exact h, fun b h => by
    by_cases e : b = a
    · rw [e, upd_same] at h
      cases h
    · rw [upd_ne e] at h
      exact h, fun _ _ h => .inl h⟩
end
end DS

namespace DS
open PySem L2

/-! ### what is wanted behind -/
def XRep (Γ : Sig) (w : Wd) (c : Nat) (ds : List D) (cv : Value) (dx : Option Addr) : Prop :=
  cv = .ref (Γ.cls c) ∧ ((ds = [] ∧ dx = none) ∨ ∃ d vs, dx = some d ∧ w.G d = some (.xd ((Γ.fld c).zip vs)) ∧ RepL Γ w ds vs ∧ ds.length = (Γ.fld c).length)
theorem XRep.mono {Γ : Sig} {w w' : Wd} {c : Nat} {ds : List D} {cv : Value} {dx : Option Addr} (g : Grow w w') (h : XRep Γ w c ds cv dx) : XRep Γ w' c ds cv dx := by
  obtain ⟨e, h | ⟨d, vs, e2, s, r, l⟩⟩ := h
  · exact ⟨e, .inl h⟩
  · exact ⟨e, .inr ⟨d, vs, e2, g.G _ _ s, r.mono g, l⟩⟩
abbrev RP (α β : Type) := Wd → α → β → Prop
def Post {α β : Type} (Γ : Sig) (w : Wd) (H : Hp) (rep : RP α β) (E : Value → Option Addr → Hp → Prop) (r : Res α) (Q : β → Hp → Prop) : Prop := match r with
  | .ok d st' => ∀ w' v H', Step w H w' H' → Rel Γ w' st' H' → rep w' d v → Q v H'
  | .exn c ds st' => ∀ w' cv dx H', Step w H w' H' → Rel Γ w' st' H' → XRep Γ w' c ds cv dx → E cv dx H'
  | .bad => False
section
variable {α β α' β' : Type} {Γ : Sig} {w w1 : Wd} {H H1 : Hp} {rep : RP α β} {rep' : RP α' β'} {E : Value → Option Addr → Hp → Prop}
theorem Post.grow {r : Res α} {Q : β → Hp → Prop} (g : Step w H w1 H1) (h : Post Γ w H rep E r Q) : Post Γ w1 H1 rep E r Q := by
  cases r with
  | ok d st => exact fun w' v H' g' => h w' v H' (g.trans g')
  | exn c ds st => exact fun w' cv dx H' g' => h w' cv dx H' (g.trans g')
  | bad => exact h
theorem Post.mid {r : Res α'} {f : α' → Store → Res α} {Q : β → Hp → Prop} {Q1 : β' → Hp → Prop} (h : Post Γ w H rep E (r.bind f) Q)
    (k : ∀ w1 d st1 v H1, Step w H w1 H1 → Rel Γ w1 st1 H1 → rep' w1 d v → Post Γ w1 H1 rep E (f d st1) Q → Q1 v H1) : Post Γ w H rep' E r Q1 := by
  cases r with
  | ok d st => exact fun w' v H' g R rp => k w' d st v H' g R rp (Post.grow g h)
  | exn c ds st => exact h
  | bad => exact h
theorem Post.at {d : α} {st : Store} {v : β} {Q : β → Hp → Prop} (h : Post Γ w H rep E (.ok d st) Q) (R : Rel Γ w st H) (r : rep w d v) : Q v H := h w v H (Step.refl w H) R r
end

/-! ### slots -/
structure EnvR (Γ : Sig) (w : Wd) (env : DEnv) (σ : L2.St) : Prop where
  len : env.length = σ.length
  get : ∀ (i : Nat) (d : D), env[i]? = some (some d) → ∃ v, σ[i]? = some (some v) ∧ Rep Γ w d v
section
variable {Γ : Sig} {w w' : Wd} {env : DEnv} {σ : L2.St}
theorem EnvR.mono (g : Grow w w') (h : EnvR Γ w env σ) : EnvR Γ w' env σ := ⟨h.len, fun i d e => let ⟨v, a, b⟩ := h.get i d e; ⟨v, a, b.mono g⟩⟩
theorem EnvR.set {i : Nat} {d : D} {v : V} (h : EnvR Γ w env σ) (r : Rep Γ w d v) : EnvR Γ w (env.set i (some d)) (σ.set i (some v)) := ⟨by simp [h.len], fun j e he => by
  by_cases hj : j = i
  · subst hj
    have hl : j < env.length := by
      have := (List.getElem?_eq_some_iff.mp he).1
      rw [List.length_set] at this
      exact this
    rw [List.getElem?_set_self hl] at he
    cases he
    exact ⟨v, by rw [List.getElem?_set_self (by rw [← h.len]; exact hl)], r⟩
  · rw [List.getElem?_set_ne (Ne.symm hj)] at he
    obtain ⟨u, e1, r1⟩ := h.get j e he
    exact ⟨u, by rw [List.getElem?_set_ne (Ne.symm hj)]; exact e1, r1⟩⟩
theorem EnvR.del {i : Nat} (h : EnvR Γ w env σ) : EnvR Γ w (env.set i none) (σ.set i none) := ⟨by simp [h.len], fun j e he => by
  by_cases hj : j = i
  · subst hj
    have hl : j < env.length := by
      have := (List.getElem?_eq_some_iff.mp he).1
      rw [List.length_set] at this
      exact this
    rw [List.getElem?_set_self hl] at he
    cases he
  · rw [List.getElem?_set_ne (Ne.symm hj)] at he
    obtain ⟨u, e1, r1⟩ := h.get j e he
    exact ⟨u, by rw [List.getElem?_set_ne (Ne.symm hj)]; exact e1, r1⟩⟩
end

/-! ### readings -/
def tE (Γ : Sig) (W : WX) (f : DEnv → M D) : TE := fun σ H Q => ∃ w env st, Rel Γ w st H ∧ EnvR Γ w env σ ∧ Post Γ w H (Rep Γ) (fun cv dx H' => W cv dx σ H') (f env st) Q
def tT (Γ : Sig) (W : WX) (f : DEnv → M Bool) : TT := fun σ H Q => ∃ w env st, Rel Γ w st H ∧ EnvR Γ w env σ ∧ Post Γ w H (fun _ (a b : Bool) => a = b) (fun cv dx H' => W cv dx σ H') (f env st) Q
def tA (Γ : Sig) (W : WX) (f : DEnv → M (List D)) : TA := fun σ H Q => ∃ w env st, Rel Γ w st H ∧ EnvR Γ w env σ ∧ Post Γ w H (RepL Γ) (fun cv dx H' => W cv dx σ H') (f env st) Q
structure DE (X : Cx) (Γ : Sig) (W : WX) (e : Expr) (f : DEnv → M D) : Prop where
  pe : PE X e (tE Γ W f)
structure DT (X : Cx) (Γ : Sig) (W : WX) (e : Expr) (f : DEnv → M Bool) : Prop where
  pt : PT X e (tT Γ W f)
structure DW (X : Cx) (Γ : Sig) (W : WX) (e : Expr) (f : DEnv → M Bool) : Prop where
  pw : PW X e (tT Γ W f)
structure DA (X : Cx) (Γ : Sig) (W : WX) (es : List Expr) (f : DEnv → M (List D)) : Prop where
  pa : PA X es (tA Γ W f)
theorem PE.imp {X : Cx} {e : Expr} {t t' : TE} (h : PE X e t) (i : ∀ σ H Q, t' σ H Q → t σ H Q) : PE X e t' := ⟨fun pins s σ H Q I q => h.run pins s σ H Q I (i σ H Q q)⟩
theorem PT.imp {X : Cx} {e : Expr} {t t' : TT} (h : PT X e t) (i : ∀ σ H Q, t' σ H Q → t σ H Q) : PT X e t' := ⟨fun pins s σ H Q I q => h.run pins s σ H Q I (i σ H Q q)⟩
theorem PW.imp {X : Cx} {e : Expr} {t t' : TT} (h : PW X e t) (i : ∀ σ H Q, t' σ H Q → t σ H Q) : PW X e t' := ⟨fun wh pins s σ H Q I q => h.run wh pins s σ H Q I (i σ H Q q)⟩
theorem PA.imp {X : Cx} {e : List Expr} {t t' : TA} (h : PA X e t) (i : ∀ σ H Q, t' σ H Q → t σ H Q) : PA X e t' := ⟨fun pos pins s σ H Q I q => h.run pos pins s σ H Q I (i σ H Q q)⟩
theorem PS.imp {X : Cx} {e : Stmt} {t t' : TS} (h : PS X e t) (i : ∀ D σ H, t' D σ H → t D σ H) : PS X e t' := ⟨fun pins s σ H D I q => h.run pins s σ H D I (i D σ H q)⟩
theorem PSs.imp {X : Cx} {e : List Stmt} {t t' : TS} (h : PSs X e t) (i : ∀ D σ H, t' D σ H → t D σ H) : PSs X e t' := ⟨fun pins s σ H D I q => h.run pins s σ H D I (i D σ H q)⟩

/-! ### the meaning of expressions -/
abbrev FE := DEnv → M D
def xVar (i : Nat) : FE := fun env st => match env[i]? with
  | some (some d) => .ok d st
  | _ => .bad
def xC (d : D) : FE := fun _ st => .ok d st
def xOp (g : D → D → M D) (a b : FE) : FE := fun env st => (a env st).bind fun x s1 => (b env s1).bind fun y s2 => g x y s2
def xUn (g : D → M D) (a : FE) : FE := fun env st => (a env st).bind fun x s1 => g x s1
def xIf (t : DEnv → M Bool) (a b : FE) : FE := fun env st => (t env st).bind fun c s1 => if c = true then a env s1 else b env s1
def bTest (a : FE) : DEnv → M Bool := fun env st => (a env st).bind fun x s1 => match x with
  | .bl b => .ok b s1
  | _ => .bad
def bAnd (a b : DEnv → M Bool) : DEnv → M Bool := fun env st => (a env st).bind fun c s1 => if c = true then b env s1 else .ok false s1
def bOr (a b : DEnv → M Bool) : DEnv → M Bool := fun env st => (a env st).bind fun c s1 => if c = true then .ok true s1 else b env s1
def bNot (a : DEnv → M Bool) : DEnv → M Bool := fun env st => (a env st).bind fun c s1 => .ok (!c) s1
def xAnd (a b : FE) : FE := fun env st => (a env st).bind fun x s1 => match x with
  | .bl c => if c = true then b env s1 else .ok (.bl false) s1
  | _ => .bad
def xOr (a b : FE) : FE := fun env st => (a env st).bind fun x s1 => match x with
  | .bl c => if c = true then .ok (.bl true) s1 else b env s1
  | _ => .bad
def xNot (a : FE) : FE := fun env st => (a env st).bind fun x s1 => match x with
  | .bl c => .ok (.bl (!c)) s1
  | _ => .bad
def aNil : DEnv → M (List D) := fun _ st => .ok [] st
def aCons (a : FE) (r : DEnv → M (List D)) : DEnv → M (List D) := fun env st => (a env st).bind fun x s1 => (r env s1).bind fun xs s2 => .ok (x :: xs) s2
/-- a new list: one that never changes, or one that may -/
def mkL (mu : Bool) (ds : List D) : M D := fun st => if ds.length ≤ sizeLine then (if mu = true then .ok (.cell st.length) (st ++ [.lst ds]) else .ok (.lst ds) st) else .bad
def xTup (a : DEnv → M (List D)) : FE := fun env st => (a env st).bind fun xs s1 => if xs.length ≤ sizeLine then .ok (.tup xs) s1 else .bad
def xLst (mu : Bool) (a : DEnv → M (List D)) : FE := fun env st => (a env st).bind fun xs s1 => mkL mu xs s1
/-- the list at d -/
def lstOf (d : D) (st : Store) : Option (List D) := match d with
  | .lst ds => some ds
  | .cell n => match st[n]? with
    | some (.lst ds) => some ds
    | _ => none
  | _ => none
/-- the list or tuple at d, the script too -/
def seqOf (d : D) (st : Store) : Option (List D) := match d with
  | .lst ds => some ds
  | .tup ds => some ds
  | .scr ns => some (ns.map D.int)
  | .cell n => match st[n]? with
    | some (.lst ds) => some ds
    | _ => none
  | _ => none

section
variable {X : Cx} {Γ : Sig} {W : WX} {a b c : Expr} {es : List Expr} {fa fb fc : FE} {ta tb : DEnv → M Bool} {fr : DEnv → M (List D)} {pos : Pos}
theorem d_var (i : Nat) {x : Str} {pos : Pos} (hN : X.N[i]? = some x := by rfl) (hv : Vis X.env.scope x := by first | exact Or.inl rfl | exact Or.inr (Or.inl rfl) | exact Or.inr (Or.inr rfl)) (hd : (x == ("__debug__" : Str)) = false := by decide)
    (hcd : (x == ("__classdict__" : Str)) = false := by decide) : DE X Γ W (.Name x pos) (xVar i) := ⟨PE.imp (pe_var hN hv hd hcd) fun σ H Q ⟨w, env, st, R, ev, h⟩ => by
  unfold xVar at h
  split at h
  · rename_i d e
    obtain ⟨v, e1, r⟩ := ev.get i d e
    exact ⟨v, e1, h.at R r⟩
  · exact h.elim⟩
theorem d_const {e : Expr} {v : V} {d : D} (h : PE X e (tC v)) (r : ∀ w, Rep Γ w d v) : DE X Γ W e (xC d) := ⟨PE.imp h fun σ H Q ⟨w, env, st, R, ev, h⟩ => Post.at h R (r w)⟩
theorem d_int {i j} {pos : Pos} : DE X Γ W (.Constant (.int i) j pos) (xC (.int i)) := d_const pe_int fun _ => .int
theorem d_bl {i j} {pos : Pos} : DE X Γ W (.Constant (.bool i) j pos) (xC (.bl i)) := d_const pe_bl fun _ => .bl
theorem d_non {j} {pos : Pos} : DE X Γ W (.Constant .none j pos) (xC .non) := d_const pe_non fun _ => .non
theorem d_str {i j} {pos : Pos} : DE X Γ W (.Constant (.str i) j pos) (xC (.str i)) := d_const pe_str fun _ => .str

/-- a two-place operation, by values -/
def OpD (Γ : Sig) (r : R2) (g : D → D → M D) : Prop := ∀ (w : Wd) (st : Store) (H : Hp) (d e : D) (x y : V) (E : Value → Option Addr → Hp → Prop) (Q : VK), Rel Γ w st H → Rep Γ w d x → Rep Γ w e y → Post Γ w H (Rep Γ) E (g d e st) Q → r x y H Q
def UnD (Γ : Sig) (r : V → Hp → VK → Prop) (g : D → M D) : Prop := ∀ (w : Wd) (st : Store) (H : Hp) (d : D) (x : V) (E : Value → Option Addr → Hp → Prop) (Q : VK), Rel Γ w st H → Rep Γ w d x → Post Γ w H (Rep Γ) E (g d st) Q → r x H Q
theorem t_op {r : R2} {g : D → D → M D} (hg : OpD Γ r g) : ∀ σ H Q, tE Γ W (xOp g fa fb) σ H Q → tOp r (tE Γ W fa) (tE Γ W fb) σ H Q := fun σ H Q ⟨w, env, st, R, ev, h⟩ =>
  ⟨w, env, st, R, ev, Post.mid (rep' := Rep Γ) h fun w1 d st1 x H1 g1 R1 r1 h1 => ⟨w1, env, st1, R1, ev.mono g1.grow, Post.mid (rep' := Rep Γ) h1 fun w2 e st2 y H2 g2 R2 r2 h2 => hg w2 st2 H2 d e x y _ Q R2 (r1.mono g2.grow) r2 h2⟩⟩
theorem d_op {op : Operator} {r : R2} {g : D → D → M D} (ho : OpR X (binaryOp op) r) (hg : OpD Γ r g) (ha : DE X Γ W a fa) (hb : DE X Γ W b fb) : DE X Γ W (.BinOp a op b pos) (xOp g fa fb) := ⟨PE.imp (pe_op ho ha.pe hb.pe) (t_op hg)⟩
theorem d_cmp {op : CmpOp} {r : R2} {g : D → D → M D} (ho : OpR X (compareOp op) r) (hg : OpD Γ r g) (ha : DE X Γ W a fa) (hb : DE X Γ W b fb) (hm : behindInMarks op b = false := by first | exact nomark _ (by decide) (by decide) | rfl) : DE X Γ W (.Compare a [op] [b] pos) (xOp g fa fb) := ⟨PE.imp (pe_cmpR ho ha.pe hb.pe hm) (t_op hg)⟩
theorem d_un {op : UnaryOp} {r : V → Hp → VK → Prop} {g : D → M D} (ho : UnR X (unaryOp op) r) (hg : UnD Γ r g) (ha : DE X Γ W a fa) : DE X Γ W (.UnaryOp op a pos) (xUn g fa) := ⟨PE.imp (pe_un ho ha.pe) fun σ H Q ⟨w, env, st, R, ev, h⟩ =>
  ⟨w, env, st, R, ev, Post.mid (rep' := Rep Γ) h fun w1 d st1 x H1 g1 R1 r1 h1 => hg w1 st1 H1 d x _ Q R1 r1 h1⟩⟩
/-- a value that is a bool, as a test -/
theorem t_test : ∀ σ H Q, tT Γ W (bTest fa) σ H Q → tB (tE Γ W fa) σ H Q := fun σ H Q ⟨w, env, st, R, ev, h⟩ =>
  ⟨w, env, st, R, ev, Post.mid (rep' := Rep Γ) h fun w1 d st1 x H1 g1 R1 r1 h1 => by
    cases d with
    | bl k => exact ⟨k, r1.bl_inv, Post.at h1 R1 rfl⟩
    | _ => exact h1.elim⟩
theorem b_val {e : Expr} (h : DE X Γ W e fa) (he : ∀ whole, isTrue e X.env whole = (do let v ← whole; standAt e.pos; holding [v] (truthy v)) := by intro _; rfl) : DT X Γ W e (bTest fa) := ⟨PT.imp (pt_val h.pe he) t_test⟩
theorem b_cmp {op : CmpOp} {r : R2} {g : D → D → M D} (ho : OpR X (compareOp op) r) (hg : OpD Γ r g) (ha : DE X Γ W a fa) (hb : DE X Γ W b fb) (hm : behindInMarks op b = false := by first | exact nomark _ (by decide) (by decide) | rfl) : DT X Γ W (.Compare a [op] [b] pos) (bTest (xOp g fa fb)) :=
  ⟨PT.imp (pt_cmpR ho ha.pe hb.pe hm) fun σ H Q ⟨w, env, st, R, ev, h⟩ => by
    refine t_op (W := W) hg σ H _ ⟨w, env, st, R, ev, ?_⟩
    refine Post.mid (rep' := Rep Γ) h fun w1 d st1 x H1 g1 R1 r1 h1 => ?_
    cases d with
    | bl k => exact ⟨k, r1.bl_inv, Post.at h1 R1 rfl⟩
    | _ => exact h1.elim⟩
theorem b_not (ha : DT X Γ W a ta) : DT X Γ W (.UnaryOp .Not a pos) (bNot ta) := ⟨PT.imp (pt_not ha.pt) fun σ H Q ⟨w, env, st, R, ev, h⟩ =>
  ⟨w, env, st, R, ev, Post.mid (rep' := fun _ (a b : Bool) => a = b) h fun w1 d st1 x H1 g1 R1 r1 h1 => by subst r1; exact Post.at h1 R1 rfl⟩⟩
theorem w_and1 (ha : DT X Γ W a ta) : DW X Γ W (.BoolOp .And [a] pos) ta := ⟨pw_and1 ha.pt⟩
theorem w_or1 (ha : DT X Γ W a ta) : DW X Γ W (.BoolOp .Or [a] pos) ta := ⟨pw_or1 ha.pt⟩
theorem w_and (ha : DT X Γ W a ta) (hb : DW X Γ W (.BoolOp .And (b :: es) pos) tb) : DW X Γ W (.BoolOp .And (a :: b :: es) pos) (bAnd ta tb) := ⟨PW.imp (pw_and ha.pt hb.pw) fun σ H Q ⟨w, env, st, R, ev, h⟩ =>
  ⟨w, env, st, R, ev, Post.mid (rep' := fun _ (a b : Bool) => a = b) h fun w1 d st1 x H1 g1 R1 r1 h1 => by
    subst r1
    cases d with
    | true => exact ⟨w1, env, st1, R1, ev.mono g1.grow, h1⟩
    | false => exact Post.at h1 R1 rfl⟩⟩
theorem w_or (ha : DT X Γ W a ta) (hb : DW X Γ W (.BoolOp .Or (b :: es) pos) tb) : DW X Γ W (.BoolOp .Or (a :: b :: es) pos) (bOr ta tb) := ⟨PW.imp (pw_or ha.pt hb.pw) fun σ H Q ⟨w, env, st, R, ev, h⟩ =>
  ⟨w, env, st, R, ev, Post.mid (rep' := fun _ (a b : Bool) => a = b) h fun w1 d st1 x H1 g1 R1 r1 h1 => by
    subst r1
    cases d with
    | true => exact Post.at h1 R1 rfl
    | false => exact ⟨w1, env, st1, R1, ev.mono g1.grow, h1⟩⟩⟩
theorem DW.dt {e : Expr} (h : DW X Γ W e ta) : DT X Γ W e ta := ⟨h.pw.pt⟩
theorem d_one {op} (h : DE X Γ W a fa) : DE X Γ W (.BoolOp op [a] pos) fa := ⟨pe_one h.pe⟩
theorem d_and (ha : DE X Γ W a fa) (hb : DE X Γ W (.BoolOp .And (b :: es) pos) fb) : DE X Γ W (.BoolOp .And (a :: b :: es) pos) (xAnd fa fb) := ⟨PE.imp (pe_and ha.pe hb.pe) fun σ H Q ⟨w, env, st, R, ev, h⟩ =>
  ⟨w, env, st, R, ev, Post.mid (rep' := Rep Γ) h fun w1 d st1 x H1 g1 R1 r1 h1 => by
    cases d with
    | bl k =>
      refine ⟨k, r1.bl_inv, ?_⟩
      cases k with
      | true => exact ⟨w1, env, st1, R1, ev.mono g1.grow, h1⟩
      | false => exact Post.at h1 R1 .bl
    | _ => exact h1.elim⟩⟩
theorem d_or (ha : DE X Γ W a fa) (hb : DE X Γ W (.BoolOp .Or (b :: es) pos) fb) : DE X Γ W (.BoolOp .Or (a :: b :: es) pos) (xOr fa fb) := ⟨PE.imp (pe_or ha.pe hb.pe) fun σ H Q ⟨w, env, st, R, ev, h⟩ =>
  ⟨w, env, st, R, ev, Post.mid (rep' := Rep Γ) h fun w1 d st1 x H1 g1 R1 r1 h1 => by
    cases d with
    | bl k =>
      refine ⟨k, r1.bl_inv, ?_⟩
      cases k with
      | true => exact Post.at h1 R1 .bl
      | false => exact ⟨w1, env, st1, R1, ev.mono g1.grow, h1⟩
    | _ => exact h1.elim⟩⟩
theorem d_not (ha : DE X Γ W a fa) : DE X Γ W (.UnaryOp .Not a pos) (xNot fa) := ⟨PE.imp (pe_not ha.pe) fun σ H Q ⟨w, env, st, R, ev, h⟩ =>
  ⟨w, env, st, R, ev, Post.mid (rep' := Rep Γ) h fun w1 d st1 x H1 g1 R1 r1 h1 => by
    cases d with
    | bl k => exact ⟨k, r1.bl_inv, Post.at h1 R1 .bl⟩
    | _ => exact h1.elim⟩⟩
theorem d_ifExp (hc : DT X Γ W c ta) (ha : DE X Γ W a fa) (hb : DE X Γ W b fb) : DE X Γ W (.IfExp c a b pos) (xIf ta fa fb) := ⟨PE.imp (pe_ifExp hc.pt ha.pe hb.pe) fun σ H Q ⟨w, env, st, R, ev, h⟩ =>
  ⟨w, env, st, R, ev, Post.mid (rep' := fun _ (a b : Bool) => a = b) h fun w1 d st1 x H1 g1 R1 r1 h1 => by
    subst r1
    cases d with
    | true => exact ⟨w1, env, st1, R1, ev.mono g1.grow, h1⟩
    | false => exact ⟨w1, env, st1, R1, ev.mono g1.grow, h1⟩⟩⟩
theorem da_nil : DA X Γ W [] aNil := ⟨PA.imp pa_nil fun σ H Q ⟨w, env, st, R, ev, h⟩ => Post.at h R .nil⟩
theorem da_cons (ha : DE X Γ W a fa) (hr : DA X Γ W es fr) (hs : starEach (a :: es) X.env = (false, eval a X.env) :: starEach es X.env := by rfl) : DA X Γ W (a :: es) (aCons fa fr) := ⟨PA.imp (pa_cons ha.pe hr.pa hs) fun σ H Q ⟨w, env, st, R, ev, h⟩ =>
  ⟨w, env, st, R, ev, Post.mid (rep' := Rep Γ) h fun w1 d st1 x H1 g1 R1 r1 h1 => ⟨w1, env, st1, R1, ev.mono g1.grow, Post.mid (rep' := RepL Γ) h1 fun w2 ds st2 xs H2 g2 R2 r2 h2 => Post.at h2 R2 (.cons (r1.mono g2.grow) r2)⟩⟩⟩
/-- a new list is laid -/
theorem mkL_ok {w : Wd} {st : Store} {H : Hp} {ds : List D} {vs : List V} {mu : Bool} {E : Value → Option Addr → Hp → Prop} {Q : VK} (R : Rel Γ w st H) (r : RepL Γ w ds vs) (h : Post Γ w H (Rep Γ) E (mkL mu ds st) Q) : vs.length ≤ sizeLine ∧ ∀ p, H p = none → Q (.ref p) (upd H p (.lst vs)) := by
  unfold mkL at h
  by_cases hl : ds.length ≤ sizeLine
  · rw [if_pos hl] at h
    refine ⟨by rw [r.length]; exact hl, fun p hp => ?_⟩
    cases mu with
    | true =>
      have g : Grow w ⟨w.G, w.ι ++ [p]⟩ := ⟨Same.refl _, [p], rfl⟩
      obtain ⟨w', s, R2, e⟩ := R.lay2 (u := .lst vs) (o := .lst ds) hp ⟨vs, upd_same, r.mono g⟩
      exact h _ _ _ s R2 (.mk_cell e)
    | false =>
      obtain ⟨w', s, R2, e⟩ := R.lay (u := .lst vs) hp
      exact h _ _ _ s R2 (.mk_lst e (r.mono s.grow))
  · rw [if_neg hl] at h
    exact h.elim
theorem mkT_ok {w : Wd} {st : Store} {H : Hp} {ds : List D} {vs : List V} {E : Value → Option Addr → Hp → Prop} {Q : VK} (R : Rel Γ w st H) (r : RepL Γ w ds vs) (h : Post Γ w H (Rep Γ) E (.ok (.tup ds) st) Q) : ∀ p, H p = none → Q (.ref p) (upd H p (.tup vs)) := fun p hp => by
  obtain ⟨w', s, R2, e⟩ := R.lay (u := .tup vs) hp
  exact h _ _ _ s R2 (.mk_tup (.of e) (r.mono s.grow))
theorem d_tup {x1} (h : DA X Γ W es fr) : DE X Γ W (.Tuple es x1 pos) (xTup fr) := ⟨PE.imp (pe_tup h.pa) fun σ H Q ⟨w, env, st, R, ev, h⟩ =>
  ⟨w, env, st, R, ev, Post.mid (rep' := RepL Γ) h fun w1 ds st1 xs H1 g1 R1 r1 h1 => by
    split at h1
    · rename_i hl
      exact ⟨by rw [r1.length]; exact hl, mkT_ok R1 r1 h1⟩
    · exact h1.elim⟩⟩
theorem d_lst (mu : Bool) (h : DA X Γ W es fr) : DE X Γ W (.List es pos) (xLst mu fr) := ⟨PE.imp (pe_lst h.pa) fun σ H Q ⟨w, env, st, R, ev, h⟩ =>
  ⟨w, env, st, R, ev, Post.mid (rep' := RepL Γ) h fun w1 ds st1 xs H1 g1 R1 r1 h1 => mkL_ok R1 r1 h1⟩⟩
theorem lst_ok {w : Wd} {st : Store} {H : Hp} {d : D} {ds : List D} {v : V} (R : Rel Γ w st H) (r : Rep Γ w d v) (h : lstOf d st = some ds) : ∃ p vs, v = .ref p ∧ H p = some (.lst vs) ∧ RepL Γ w ds vs := by
  unfold lstOf at h
  cases d with
  | lst es =>
    cases h
    obtain ⟨p, vs, e, s, r2⟩ := r.lst_inv
    exact ⟨p, vs, e, R.sub _ _ s, r2⟩
  | cell n =>
    obtain ⟨p, e, hn⟩ := r.cell_inv
    dsimp only at h
    split at h
    · rename_i es he
      cases h
      obtain ⟨vs, e2, r2⟩ := R.reps n _ p he hn
      exact ⟨p, vs, e, e2, r2⟩
    · cases h
  | _ => cases h
theorem repL_ints {w : Wd} (ns : List Int) : RepL Γ w (ns.map D.int) (ns.map V.int) := by
  induction ns with
  | nil => exact .nil
  | cons n r ih => exact .cons .int ih
theorem seq_ok {w : Wd} {st : Store} {H : Hp} {d : D} {ds : List D} {v : V} (R : Rel Γ w st H) (r : Rep Γ w d v) (h : seqOf d st = some ds) : ∃ p vs, v = .ref p ∧ (SqL Γ.K H p vs ∨ SqT Γ.K H p vs) ∧ RepL Γ w ds vs := by
  unfold seqOf at h
  cases d with
  | lst es =>
    cases h
    obtain ⟨p, vs, e, s, r2⟩ := r.lst_inv
    exact ⟨p, vs, e, .inl (.of (R.sub _ _ s)), r2⟩
  | tup es =>
    cases h
    obtain ⟨p, vs, e, s, r2⟩ := r.tup_inv
    exact ⟨p, vs, e, .inr (Same.tup R.sub s), r2⟩
  | scr ns =>
    cases h
    obtain ⟨p, e, s⟩ := r.scr_inv
    exact ⟨p, _, e, .inl (R.sub.seq s), repL_ints ns⟩
  | cell n =>
    obtain ⟨p, e, hn⟩ := r.cell_inv
    dsimp only at h
    split at h
    · rename_i es he
      cases h
      obtain ⟨vs, e2, r2⟩ := R.reps n _ p he hn
      exact ⟨p, vs, e, .inl (.of e2), r2⟩
    · cases h
  | _ => cases h
end
end DS

namespace DS
open PySem L2

/-! ### operators -/
def addD (mu : Bool) (a b : D) : M D := fun st => match a, b with
  | .int i, .int j => .ok (.int (i + j)) st
  | .str x, .str y => if x.length + y.length ≤ sizeLine then .ok (.str (x ++ y)) st else .bad
  | .tup xs, .tup ys => if xs.isEmpty = false ∧ ys.isEmpty = false ∧ xs.length + ys.length ≤ sizeLine then .ok (.tup (xs ++ ys)) st else .bad
  | a, b => match lstOf a st, lstOf b st with
    | some xs, some ys => mkL mu (xs ++ ys) st
    | _, _ => .bad
def subD (a b : D) : M D := fun st => match a, b with
  | .int i, .int j => .ok (.int (i - j)) st
  | _, _ => .bad
def mulD (mu : Bool) (a b : D) : M D := fun st => match a, b with
  | .int i, .int j => if i.natAbs.log2 + j.natAbs.log2 < 1000000 then .ok (.int (i * j)) st else .bad
  | a, .int k => match lstOf a st with
    | some xs => if -(2 ^ 63) ≤ k ∧ k < 2 ^ 63 ∧ xs.length * k.toNat ≤ sizeLine then mkL mu (List.replicate k.toNat xs).flatten st else .bad
    | none => .bad
  | _, _ => .bad
def modD (a b : D) : M D := fun st => match a, b with
  | .int i, .int j => if 0 < j then .ok (.int (i % j)) st else .bad
  | _, _ => .bad
def fdivD (a b : D) : M D := fun st => match a, b with
  | .int i, .int j => if 0 < j ∧ j.natAbs.log2 < 9000 then .ok (.int (i / j)) st else .bad
  | _, _ => .bad
def powD (a b : D) : M D := fun st => match a, b with
  | .int i, .int j => if 0 ≤ j ∧ j ≤ 1000000 ∧ i.natAbs < 2 ^ 64 then .ok (.int (i ^ j.toNat)) st else .bad
  | _, _ => .bad
def cmpI (p : Int → Int → Bool) (a b : D) : M D := fun st => match a, b with
  | .int i, .int j => .ok (.bl (p i j)) st
  | _, _ => .bad
def ltD : D → D → M D := cmpI fun i j => decide (i < j)
def leD : D → D → M D := cmpI fun i j => decide (i ≤ j)
def gtD : D → D → M D := cmpI fun i j => decide (j < i)
def geD : D → D → M D := cmpI fun i j => decide (j ≤ i)
def negD (a : D) : M D := fun st => match a with
  | .int i => .ok (.int (-i)) st
  | _ => .bad
def isND (a b : D) : M D := fun st => match a, b with
  | .non, .non => .ok (.bl true) st
  | _, .non => .ok (.bl false) st
  | .bl i, .bl j => .ok (.bl (decide (i = j))) st
  | _, .bl _ => .ok (.bl false) st
  | _, _ => .bad
def notND (a b : D) : M D := fun st => match a, b with
  | .non, .non => .ok (.bl false) st
  | _, .non => .ok (.bl true) st
  | _, _ => .bad

section
variable {X : Cx} {Γ : Sig} {W : WX} {w : Wd} {st : Store} {H : Hp}
def rAddA (K : PySem.W.Frag) : R2 := fun x y H Q => (((∃ i j, x = .int i ∧ y = .int j ∧ Q (.int (i + j)) H) ∨ (∃ i j, x = .str i ∧ y = .str j ∧ i.length + j.length ≤ sizeLine ∧ Q (.str (i ++ j)) H)) ∨ rCatT K x y H Q) ∨ rCat x y H Q
theorem o_add : OpR X (binaryOp .Add) (rAddA X.K) := ((op_add.or op_add_str).or op_catT).or op_cat
theorem isEmpty_ne {α : Type} {xs : List α} (h : xs.isEmpty = false) : xs ≠ [] := by
  intro e
  rw [e] at h
  cases h
theorem g_add (mu : Bool) : OpD Γ (rAddA Γ.K) (addD mu) := fun w st H d e x y E Q R r1 r2 h => by
  unfold addD at h
  split at h
  · exact .inl (.inl (.inl ⟨_, _, r1.int_inv, r2.int_inv, h.at R .int⟩))
  · split at h
    · rename_i hl
      exact .inl (.inl (.inr ⟨_, _, r1.str_inv, r2.str_inv, hl, h.at R .str⟩))
    · exact h.elim
  · split at h
    · rename_i xs ys hl
      obtain ⟨p, vs, rfl, s1, q1⟩ := r1.tup_inv
      obtain ⟨q, us, rfl, s2, q2⟩ := r2.tup_inv
      have n1 : vs ≠ [] := fun z => by
        have := q1.length
        rw [z] at this
        exact isEmpty_ne hl.1 (List.length_eq_zero_iff.mp this.symm)
      have n2 : us ≠ [] := fun z => by
        have := q2.length
        rw [z] at this
        exact isEmpty_ne hl.2.1 (List.length_eq_zero_iff.mp this.symm)
      exact .inl (.inr ⟨p, q, vs, us, rfl, rfl, Same.tup R.sub s1, Same.tup R.sub s2, n1, by rw [q1.length, q2.length]; exact hl.2.2, fun z => (n2 z).elim, fun _ => mkT_ok R (q1.append q2) h⟩)
    · exact h.elim
  · split at h
    · rename_i xs ys e1 e2
      obtain ⟨p, vs, rfl, s1, q1⟩ := lst_ok R r1 e1
      obtain ⟨q, us, rfl, s2, q2⟩ := lst_ok R r2 e2
      obtain ⟨l, k⟩ := mkL_ok R (q1.append q2) h
      exact .inr ⟨p, q, vs, us, rfl, rfl, s1, s2, by rw [← List.length_append]; exact l, k⟩
    · exact h.elim
def rMulA : R2 := fun x y H Q => rI CMulW (fun i j => .int (i * j)) x y H Q ∨ rRep x y H Q
theorem o_mul : OpR X (binaryOp .Mult) rMulA := op_mulW.or op_rep
theorem repL_flat {ds : List D} {vs : List V} (r : RepL Γ w ds vs) : ∀ n : Nat, RepL Γ w (List.replicate n ds).flatten (List.replicate n vs).flatten
  | 0 => .nil
  | n + 1 => by
    rw [List.replicate_succ, List.replicate_succ, List.flatten_cons, List.flatten_cons]
    exact r.append (repL_flat r n)
theorem g_mul (mu : Bool) : OpD Γ rMulA (mulD mu) := fun w st H d e x y E Q R r1 r2 h => by
  unfold mulD at h
  split at h
  · split at h
    · rename_i hl
      exact .inl ⟨_, _, r1.int_inv, r2.int_inv, hl, h.at R .int⟩
    · exact h.elim
  · split at h
    · rename_i xs e1
      split at h
      · rename_i hl
        obtain ⟨p, vs, rfl, s1, q1⟩ := lst_ok R r1 e1
        obtain ⟨l, k⟩ := mkL_ok R (repL_flat q1 _) h
        exact .inr ⟨p, _, vs, rfl, r2.int_inv, s1, hl.1, hl.2.1, by rw [q1.length]; exact hl.2.2, k⟩
      · exact h.elim
    · exact h.elim
  · exact h.elim
theorem g_I {C : Int → Int → Prop} {g : Int → Int → V} {f : D → D → M D} (hf : ∀ d e st, (∃ i j, d = .int i ∧ e = .int j ∧ C i j ∧ ∃ r, f d e st = .ok r st ∧ ∀ w, Rep Γ w r (g i j)) ∨ f d e st = .bad) : OpD Γ (rI C g) f := fun w st H d e x y E Q R r1 r2 h => by
  rcases hf d e st with ⟨i, j, rfl, rfl, c, r, e, k⟩ | e
  · rw [e] at h
    exact ⟨i, j, r1.int_inv, r2.int_inv, c, h.at R (k w)⟩
  · rw [e] at h
    exact h.elim
theorem g_I0 {g : Int → Int → V} {f : D → D → M D} (hf : ∀ d e st, (∃ i j, d = .int i ∧ e = .int j ∧ ∃ r, f d e st = .ok r st ∧ ∀ w, Rep Γ w r (g i j)) ∨ f d e st = .bad) : OpD Γ (rI0 g) f := fun w st H d e x y E Q R r1 r2 h => by
  rcases hf d e st with ⟨i, j, rfl, rfl, r, e, k⟩ | e
  · rw [e] at h
    exact ⟨i, j, r1.int_inv, r2.int_inv, h.at R (k w)⟩
  · rw [e] at h
    exact h.elim
theorem g_sub : OpD Γ (rI0 fun i j => .int (i - j)) subD := g_I0 fun d e st => by
  unfold subD
  split
  · exact .inl ⟨_, _, rfl, rfl, _, rfl, fun _ => .int⟩
  · exact .inr rfl
theorem g_mod : OpD Γ (rI (fun _ j => 0 < j) fun i j => .int (i % j)) modD := g_I fun d e st => by
  unfold modD
  split
  · split
    · exact .inl ⟨_, _, rfl, rfl, by assumption, _, rfl, fun _ => .int⟩
    · exact .inr rfl
  · exact .inr rfl
theorem g_fdiv : OpD Γ (rI CDivW fun i j => .int (i / j)) fdivD := g_I fun d e st => by
  unfold fdivD
  split
  · split
    · exact .inl ⟨_, _, rfl, rfl, by assumption, _, rfl, fun _ => .int⟩
    · exact .inr rfl
  · exact .inr rfl
theorem g_pow : OpD Γ (rI CPow fun i j => .int (i ^ j.toNat)) powD := g_I fun d e st => by
  unfold powD
  split
  · split
    · exact .inl ⟨_, _, rfl, rfl, by assumption, _, rfl, fun _ => .int⟩
    · exact .inr rfl
  · exact .inr rfl
theorem g_cmpI (p : Int → Int → Bool) : OpD Γ (rI0 fun i j => .bl (p i j)) (cmpI p) := g_I0 fun d e st => by
  unfold cmpI
  split
  · exact .inl ⟨_, _, rfl, rfl, _, rfl, fun _ => .bl⟩
  · exact .inr rfl
theorem g_neg : UnD Γ (rU fun i => .int (-i)) negD := fun w st H d x E Q R r h => by
  unfold negD at h
  split at h
  · exact ⟨_, r.int_inv, h.at R .int⟩
  · exact h.elim
theorem rep_ne {d : D} {v : V} (r : Rep Γ w d v) (h : d ≠ .non) : v ≠ .non := by
  intro z
  subst z
  cases d with
  | non => exact h rfl
  | bl _ => cases r.bl_inv
  | int _ => cases r.int_inv
  | str _ => cases r.str_inv
  | lst _ => obtain ⟨_, _, e, _⟩ := r.lst_inv; cases e
  | tup _ => obtain ⟨_, _, e, _⟩ := r.tup_inv; cases e
  | scr _ => obtain ⟨_, e, _⟩ := r.scr_inv; cases e
  | cell _ => obtain ⟨_, e, _⟩ := r.cell_inv; cases e
  | ins _ _ => obtain ⟨_, _, _, e, _⟩ := r.ins_inv; cases e
  | exn _ _ => unfold Rep at r; obtain ⟨_, e, _⟩ := r; cases e
end
end DS

namespace DS
open PySem L2

/-! ### the meaning of statements -/
inductive Out where
  | nx (env : DEnv) (st : Store) | ret (d : D) (st : Store) | bk (env : DEnv) (st : Store) | ct (env : DEnv) (st : Store)
  | exn (c : Nat) (fs : List D) (env : DEnv) (st : Store) | bad
abbrev FS := DEnv → Store → Out
def Out.seq (o : Out) (f : FS) : Out := match o with
  | .nx env st => f env st
  | o => o
/-- behind an evaluation at the slots env -/
def Res.to {α : Type} (r : Res α) (env : DEnv) (k : α → Store → Out) : Out := match r with
  | .ok a st => k a st
  | .exn c fs st => .exn c fs env st
  | .bad => .bad
def PostS (Γ : Sig) (W : WX) (w : Wd) (H : Hp) (o : Out) (N : Ends) : Prop := match o with
  | .nx env st => ∀ w' σ H', Step w H w' H' → Rel Γ w' st H' → EnvR Γ w' env σ → N.nx σ H'
  | .ret d st => ∀ w' v H', Step w H w' H' → Rel Γ w' st H' → Rep Γ w' d v → N.rt v H'
  | .bk env st => ∀ w' σ H', Step w H w' H' → Rel Γ w' st H' → EnvR Γ w' env σ → N.bk σ H'
  | .ct env st => ∀ w' σ H', Step w H w' H' → Rel Γ w' st H' → EnvR Γ w' env σ → N.ct σ H'
  | .exn c ds env st => ∀ w' σ H' cv dx, Step w H w' H' → Rel Γ w' st H' → EnvR Γ w' env σ → XRep Γ w' c ds cv dx → W cv dx σ H'
  | .bad => False
def tS (Γ : Sig) (W : WX) (f : FS) : TS := fun N σ H => ∃ w env st, Rel Γ w st H ∧ EnvR Γ w env σ ∧ PostS Γ W w H (f env st) N
structure DS (X : Cx) (Γ : Sig) (W : WX) (s : Stmt) (f : FS) : Prop where
  ps : PS X s (tS Γ W f)
structure DB (X : Cx) (Γ : Sig) (W : WX) (s : List Stmt) (f : FS) : Prop where
  pss : PSs X s (tS Γ W f)
section
variable {Γ : Sig} {W : WX} {w w1 : Wd} {H H1 : Hp} {N : Ends}
theorem PostS.grow {o : Out} (g : Step w H w1 H1) (h : PostS Γ W w H o N) : PostS Γ W w1 H1 o N := by
  cases o with
  | nx env st => exact fun w' σ H' g' => h w' σ H' (g.trans g')
  | ret d st => exact fun w' σ H' g' => h w' σ H' (g.trans g')
  | bk env st => exact fun w' σ H' g' => h w' σ H' (g.trans g')
  | ct env st => exact fun w' σ H' g' => h w' σ H' (g.trans g')
  | exn c ds env st => exact fun w' σ H' cv dx g' => h w' σ H' cv dx (g.trans g')
  | bad => exact h
/-- an expression of a statement -/
theorem PostS.mid {α β : Type} {rep : RP α β} {r : Res α} {env : DEnv} {σ : L2.St} {k : α → Store → Out} {Q : β → Hp → Prop} (ev : EnvR Γ w env σ) (h : PostS Γ W w H (r.to env k) N)
    (c : ∀ w1 d st1 v H1, Step w H w1 H1 → Rel Γ w1 st1 H1 → rep w1 d v → PostS Γ W w1 H1 (k d st1) N → Q v H1) : Post Γ w H rep (fun cv dx H' => W cv dx σ H') r Q := by
  cases r with
  | ok d st => exact fun w' v H' g R rp => c w' d st v H' g R rp (PostS.grow g h)
  | exn c ds st => exact fun w' cv dx H' g R x => h w' σ H' cv dx g R (ev.mono g.grow) x
  | bad => exact h
theorem PostS.nxt {env : DEnv} {st : Store} {σ : L2.St} (h : PostS Γ W w H (.nx env st) N) (R : Rel Γ w st H) (ev : EnvR Γ w env σ) : N.nx σ H := h w σ H (Step.refl w H) R ev
end

def sNil : FS := fun env st => .nx env st
def sSeq (a b : FS) : FS := fun env st => (a env st).seq b
def sRet (f : FE) : FS := fun env st => (f env st).to env fun d s1 => .ret d s1
def sRetN : FS := fun _ st => .ret .non st
def sDrop (f : FE) : FS := fun env st => (f env st).to env fun _ s1 => .nx env s1
def sIf (t : DEnv → M Bool) (a b : FS) : FS := fun env st => (t env st).to env fun c s1 => if c = true then a env s1 else b env s1
def sBrk : FS := fun env st => .bk env st
def sCt : FS := fun env st => .ct env st
abbrev TGD := DEnv → D → Option DEnv
def sAsg (g : TGD) (f : FE) : FS := fun env st => (f env st).to env fun d s1 => match g env d with
  | some env' => .nx env' s1
  | none => .bad
def gNm (i : Nat) : TGD := fun env d => some (env.set i (some d))
def gNms : List Nat → DEnv → List D → Option DEnv
  | [], env, [] => some env
  | i :: is, env, d :: ds => gNms is (env.set i (some d)) ds
  | _, _, _ => none
/-- a, b, .. = a tuple -/
def gTp (is : List Nat) : TGD := fun env d => match d with
  | .tup ds => gNms is env ds
  | _ => none
/-- a, b = x, y -/
def sPar (is : List Nat) (f : DEnv → M (List D)) : FS := fun env st => (f env st).to env fun ds s1 => match gNms is env ds with
  | some env' => .nx env' s1
  | none => .bad
def sAug (i : Nat) (g : D → D → M D) (f : FE) : FS := fun env st => match env[i]? with
  | some (some x) => (f env st).to env fun y s1 => (g x y s1).to env fun z s2 => .nx (env.set i (some z)) s2
  | _ => .bad

theorem wipe_set (σ : L2.St) (i : Nat) (x : Option V) : ∀ vs : List Nat, wipe (σ.set i x) vs = if i ∈ vs then wipe σ vs else (wipe σ vs).set i x
  | [] => by simp [wipe]
  | v :: vs => by
    unfold wipe
    rw [wipe_set σ i x vs]
    by_cases hv : i = v
    · subst hv
      rw [if_pos (List.mem_cons_self)]
      split
      · rfl
      · rw [List.set_set]
    · by_cases hm : i ∈ vs
      · rw [if_pos hm, if_pos (List.mem_cons_of_mem _ hm)]
      · rw [if_neg hm, if_neg (by simp [hv, hm]), List.set_comm _ _ hv]
/-- the slots is alone have changed -/
def Touch (is : List Nat) (σ σ' : L2.St) : Prop := ∀ vs : List Nat, (∀ i ∈ is, i ∈ vs) → wipe σ' vs = wipe σ vs
theorem Touch.set {σ : L2.St} {i : Nat} {x : Option V} : Touch [i] σ (σ.set i x) := fun vs h => by rw [wipe_set, if_pos (h i (List.mem_singleton.mpr rfl))]
theorem Touch.refl {σ : L2.St} : Touch [] σ σ := fun _ _ => rfl
theorem Touch.cons {σ σ1 σ2 : L2.St} {i : Nat} {is : List Nat} (a : Touch [i] σ σ1) (b : Touch is σ1 σ2) : Touch (i :: is) σ σ2 := fun vs h =>
  (b vs fun j hj => h j (List.mem_cons_of_mem _ hj)).trans (a vs fun j hj => h j (by rw [List.mem_singleton.mp hj]; exact List.mem_cons_self))
/-- targets -/
def GOk (Γ : Sig) (g : TGD) (is : List Nat) (t : TG) : Prop :=
  ∀ (w : Wd) (env env' : DEnv) (σ : L2.St) (st : Store) (H : Hp) (d : D) (v : V) (Q : L2.St → Hp → Prop), Rel Γ w st H → EnvR Γ w env σ → Rep Γ w d v → g env d = some env' → (∀ σ', EnvR Γ w env' σ' → Touch is σ σ' → Q σ' H) → t v σ H Q
def GOks (Γ : Sig) (is : List Nat) (t : TGs) : Prop :=
  ∀ (w : Wd) (env env' : DEnv) (σ : L2.St) (st : Store) (H : Hp) (ds : List D) (vs : List V) (Q : L2.St → Hp → Prop), Rel Γ w st H → EnvR Γ w env σ → RepL Γ w ds vs → gNms is env ds = some env' → (∀ σ', EnvR Γ w env' σ' → Touch is σ σ' → Q σ' H) → t vs σ H Q
structure GD (X : Cx) (Γ : Sig) (e : Expr) (g : TGD) (is : List Nat) (t : TG) : Prop where
  pg : PG X e t
  ok : GOk Γ g is t
theorem go_name {Γ : Sig} (i : Nat) : GOk Γ (gNm i) [i] (gName i) := fun w env env' σ st H d v Q R ev r e k => by cases e; exact k _ (ev.set r) Touch.set
theorem gos_nil {Γ : Sig} : GOks Γ [] gNil := fun w env env' σ st H ds vs Q R ev r e k => by
  cases ds with
  | nil =>
    unfold gNms at e
    cases e
    exact ⟨r.nil_inv, k _ ev Touch.refl⟩
  | cons d ds => cases e
theorem gos_cons {Γ : Sig} (i : Nat) {is : List Nat} {ts : TGs} (h2 : GOks Γ is ts) : GOks Γ (i :: is) (gCons (gName i) ts) := fun w env env' σ st H ds vs Q R ev r e k => by
  cases ds with
  | nil => cases e
  | cons d ds =>
    obtain ⟨v, us, rfl, q1, q2⟩ := r.cons_inv
    unfold gNms at e
    exact ⟨v, us, rfl, go_name i w env _ σ st H d v _ R ev q1 rfl fun σ' ev' t1 => h2 w _ env' σ' st H ds us Q R ev' q2 e fun σ2 ev2 t2 => k σ2 ev2 (t1.cons t2)⟩
theorem gNms_len {env' : DEnv} : ∀ {is : List Nat} {ds : List D} {env : DEnv}, gNms is env ds = some env' → ds.length = is.length
  | [], [], _, _ => rfl
  | [], _ :: _, _, e => by cases e
  | _ :: _, [], _, e => by cases e
  | i :: is, d :: ds, _, e => by
    unfold gNms at e
    rw [List.length_cons, List.length_cons, gNms_len e]
theorem go_tup {Γ : Sig} {is : List Nat} {t : TGs} {n : Nat} {K : PySem.W.Frag} (h : GOks Γ is t) (hn : n = is.length) (hK : K = Γ.K) : GOk Γ (gTp is) is (gTup K n t) := fun w env env' σ st H d v Q R ev r e kk => by
  unfold gTp at e
  cases d with
  | tup ds =>
    obtain ⟨a, vs, rfl, s, q⟩ := r.tup_inv
    exact ⟨a, vs, rfl, by rw [hK]; exact Same.tup R.sub s, by rw [q.length, hn]; exact gNms_len e, h w env env' σ st H ds vs Q R ev q e kk⟩
  | _ => cases e

section
variable {X : Cx} {Γ : Sig} {W : WX} {e c : Expr} {es : List Expr} {s : Stmt} {r : List Stmt} {fe : FE} {fa fb : FS} {tc : DEnv → M Bool} {fr : DEnv → M (List D)} {pos : Pos}
theorem db_nil : DB X Γ W [] sNil := ⟨PSs.imp pss_nil fun N σ H ⟨w, env, st, R, ev, h⟩ => h.nxt R ev⟩
theorem seqS_ok {w : Wd} {env : DEnv} {st : Store} {H : Hp} {N : Ends} (h : PostS Γ W w H ((fa env st).seq fb) N) : PostS Γ W w H (fa env st) { N with nx := tS Γ W fb N } := by
  cases e : fa env st with
  | nx env1 st1 =>
    rw [e] at h
    exact fun w' σ' H' g R ev => ⟨w', env1, st1, R, ev, PostS.grow g h⟩
  | ret d st => rw [e] at h; exact h
  | bk env st => rw [e] at h; exact h
  | ct env st => rw [e] at h; exact h
  | exn c ds env st => rw [e] at h; exact h
  | bad => rw [e] at h; exact h
theorem db_cons (h1 : DS X Γ W s fa) (h2 : DB X Γ W r fb) : DB X Γ W (s :: r) (sSeq fa fb) := ⟨PSs.imp (pss_cons h1.ps h2.pss) fun N σ H ⟨w, env, st, R, ev, h⟩ => ⟨w, env, st, R, ev, seqS_ok h⟩⟩
theorem db_one (h1 : DS X Γ W s fa) : DB X Γ W [s] fa := ⟨pss_one h1.ps⟩
theorem s_ret (he : DE X Γ W e fe) : DS X Γ W (.Return (some e) pos) (sRet fe) := ⟨PS.imp (ps_ret he.pe) fun N σ H ⟨w, env, st, R, ev, h⟩ =>
  ⟨w, env, st, R, ev, PostS.mid (rep := Rep Γ) ev h fun w1 d st1 v H1 g R1 r1 h1 => h1 w1 v H1 (Step.refl _ _) R1 r1⟩⟩
theorem s_retN : DS X Γ W (.Return none pos) sRetN := ⟨PS.imp ps_retN fun N σ H ⟨w, env, st, R, ev, h⟩ => h w _ H (Step.refl _ _) R .non⟩
theorem s_expr (he : DE X Γ W e fe) (hs : swapsWith e none pos.line X.env = pure false := by rfl) : DS X Γ W (.Expr e pos) (sDrop fe) := ⟨PS.imp (ps_expr he.pe hs) fun N σ H ⟨w, env, st, R, ev, h⟩ =>
  ⟨w, env, st, R, ev, PostS.mid (rep := Rep Γ) ev h fun w1 d st1 v H1 g R1 r1 h1 => h1.nxt R1 (ev.mono g.grow)⟩⟩
theorem s_if {a b : List Stmt} (hc : DT X Γ W c tc) (ha : DB X Γ W a fa) (hb : DB X Γ W b fb) : DS X Γ W (.If c a b pos) (sIf tc fa fb) := ⟨PS.imp (ps_if hc.pt ha.pss hb.pss) fun N σ H ⟨w, env, st, R, ev, h⟩ =>
  ⟨w, env, st, R, ev, PostS.mid (rep := fun _ (a b : Bool) => a = b) ev h fun w1 d st1 v H1 g R1 r1 h1 => by
    subst r1
    cases d with
    | true => exact ⟨w1, env, st1, R1, ev.mono g.grow, h1⟩
    | false => exact ⟨w1, env, st1, R1, ev.mono g.grow, h1⟩⟩⟩
theorem s_brk : DS X Γ W (.Break pos) sBrk := ⟨PS.imp ps_break fun N σ H ⟨w, env, st, R, ev, h⟩ => h w σ H (Step.refl _ _) R ev⟩
theorem s_ct : DS X Γ W (.Continue pos) sCt := ⟨PS.imp ps_continue fun N σ H ⟨w, env, st, R, ev, h⟩ => h w σ H (Step.refl _ _) R ev⟩
theorem s_pass : DS X Γ W (.Pass pos) sNil := ⟨PS.imp ps_pass fun N σ H ⟨w, env, st, R, ev, h⟩ => h.nxt R ev⟩
theorem gd_name {i : Nat} {x : Str} (hN : X.N.Nodup) (hi : X.N[i]? = some x) (hx : Loc X.env.scope x) (hf : X.fn x = true ∨ X.env.scope.names.lookup x = some .local := by first | exact .inl rfl | exact .inr rfl | assumption) : GD X Γ (.Name x pos) (gNm i) [i] (gName i) :=
  ⟨pg_name hN hi hx hf, go_name i⟩
theorem s_asg {tg : Expr} {g : TGD} {is : List Nat} {t : TG} (he : DE X Γ W e fe) (hg : GD X Γ tg g is t) (hs : swapsWithSole [tg] e pos.line X.env = pure false := by rfl) (hw : swappedStores [tg] e X.env = pure none := by rfl) (h1 : (assignEach [tg] X.env).map (·.2) = [assign tg X.env] := by rfl) : DS X Γ W (.Assign [tg] e pos) (sAsg g fe) := ⟨PS.imp (ps_asg he.pe hg.pg hs hw h1) fun N σ H ⟨w, env, st, R, ev, h⟩ =>
  ⟨w, env, st, R, ev, PostS.mid (rep := Rep Γ) ev h fun w1 d st1 v H1 s1 R1 r1 h1 => by
    split at h1
    · rename_i env' e
      exact hg.ok w1 env env' σ st1 H1 d v _ R1 (ev.mono s1.grow) r1 e fun σ' ev' _ => h1.nxt R1 ev'
    · exact h1.elim⟩⟩
theorem s_set {i : Nat} {x : Str} {pos' : Pos} (hN : X.N.Nodup) (hi : X.N[i]? = some x) (hx : Loc X.env.scope x) (he : DE X Γ W e fe) (hs : swapsWith e (some (.Name x pos')) pos.line X.env = pure false := by rfl) (hf : X.fn x = true ∨ X.env.scope.names.lookup x = some .local := by first | exact .inl rfl | exact .inr rfl | assumption) :
    DS X Γ W (.Assign [.Name x pos'] e pos) (sAsg (gNm i) fe) := ⟨PS.imp (ps_set hN hi hx he.pe hs hf) fun N σ H ⟨w, env, st, R, ev, h⟩ =>
  ⟨w, env, st, R, ev, PostS.mid (rep := Rep Γ) ev h fun w1 d st1 v H1 s1 R1 r1 h1 => PostS.nxt h1 R1 ((ev.mono s1.grow).set r1)⟩⟩
theorem gd_tup {k : Nat} {is : List Nat} {t : TGs} {n : Nat} (hp : PG X (.Tuple es k pos) (gTup X.K n t)) (h : GOks Γ is t) (hn : n = is.length) (hK : X.K = Γ.K) : GD X Γ (.Tuple es k pos) (gTp is) is (gTup X.K n t) := ⟨hp, go_tup h hn hK⟩
end
end DS

namespace DS
open PySem L2

/-! ### what is walked -/
abbrev Kp := List (Nat × List D)
/-- the walked lists stand as they stood -/
def keepOk (ks : Kp) (st : Store) : Prop := ∀ p ∈ ks, st[p.1]? = some (.lst p.2)
abbrev FI := DEnv → M (List D × Kp)
def iSrc (d : D) (st : Store) : Option (List D × Kp) := match d with
  | .lst ds => some (ds, [])
  | .tup ds => some (ds, [])
  | .scr ns => some (ns.map D.int, [])
  | .cell n => match st[n]? with
    | some (.lst ds) => some (ds, [(n, ds)])
    | _ => none
  | _ => none
def fList (f : FE) : FI := fun env st => (f env st).bind fun d s1 => match iSrc d s1 with
  | some p => .ok p s1
  | none => .bad
def rangeL (lo : Int) (n : Nat) : List D := (List.range n).map fun i => D.int (lo + (i : Nat))
def fRange1 (f : DEnv → M (List D)) : FI := fun env st => (f env st).bind fun ds s1 => match ds with
  | [.int j] => if -(2 ^ 62) ≤ j ∧ j < 2 ^ 62 then .ok (rangeL 0 j.toNat, []) s1 else .bad
  | _ => .bad
def fRange2 (f : DEnv → M (List D)) : FI := fun env st => (f env st).bind fun ds s1 => match ds with
  | [.int i, .int j] => if -(2 ^ 62) ≤ i ∧ i < 2 ^ 62 ∧ -(2 ^ 62) ≤ j ∧ j < 2 ^ 62 then .ok (rangeL i (j - i).toNat, []) s1 else .bad
  | _ => .bad
def fStr (f : FE) : FI := fun env st => (f env st).bind fun d s1 => match d with
  | .str x => .ok (x.cps.toList.map fun c => D.str ⟨#[c]⟩, []) s1
  | _ => .bad
def isTup : D → Bool
  | .tup _ => true
  | _ => false
def enumL (k : Nat) : List D → List D
  | [] => []
  | d :: ds => .tup [.int (k : Nat), d] :: enumL (k + 1) ds
def fEnum (f : DEnv → M (List D)) : FI := fun env st => (f env st).bind fun ds s1 => match ds with
  | [d] => if isTup d = true then .bad else match iSrc d s1 with
    | some (xs, ks) => .ok (enumL 0 xs, ks) s1
    | none => .bad
  | _ => .bad
def zipL : List D → List D → List D
  | a :: as, b :: bs => .tup [a, b] :: zipL as bs
  | _, _ => []
def fZip (f : DEnv → M (List D)) : FI := fun env st => (f env st).bind fun ds s1 => match ds with
  | [d, e] => if isTup d = true ∨ isTup e = true then .bad else match iSrc d s1, iSrc e s1 with
    | some (xs, ks), some (ys, ls) => .ok (zipL xs ys, ks ++ ls) s1
    | _, _ => .bad
  | _ => .bad

/-- how the iterator goes, from the state where it came -/
structure ItOk (Γ : Sig) (w : Wd) (H : Hp) (xs : List D) (ks : Kp) (J : It) : Prop where
  go : ∀ (i : Nat) (w' : Wd) (st' : Store) (H' : Hp) (d : D), Step w H w' H' → Rel Γ w' st' H' → keepOk ks st' → xs[i]? = some d → J.go i H' ∧ ∀ x H2, J.yld i H' x H2 → ∃ w2, Step w' H' w2 H2 ∧ Rel Γ w2 st' H2 ∧ Rep Γ w2 d x
  stop : ∀ (w' : Wd) (st' : Store) (H' : Hp), Step w H w' H' → Rel Γ w' st' H' → keepOk ks st' → J.stop xs.length H'
def PostI (Γ : Sig) (W : WX) (w : Wd) (H : Hp) (σ : L2.St) (r : Res (List D × Kp)) (R : It → Hp → Prop) : Prop := match r with
  | .ok p st1 => ∀ w1 H1 J, Step w H w1 H1 → Rel Γ w1 st1 H1 → ItOk Γ w1 H1 p.1 p.2 J → R J H1
  | .exn c ds st1 => ∀ w1 cv dx H1, Step w H w1 H1 → Rel Γ w1 st1 H1 → XRep Γ w1 c ds cv dx → W cv dx σ H1
  | .bad => False
structure DI (X : Cx) (Γ : Sig) (W : WX) (tg iter : Expr) (f : FI) (wi : TI) : Prop where
  pi : PI X tg iter wi
  ok : ∀ (w : Wd) (env : DEnv) (st : Store) (σ : L2.St) (H : Hp) (R : It → Hp → Prop), Rel Γ w st H → EnvR Γ w env σ → PostI Γ W w H σ (f env st) R → wi σ H R
theorem PI.imp {X : Cx} {tg iter : Expr} {t t' : TI} (h : PI X tg iter t) (i : ∀ σ H R, t' σ H R → t σ H R) : PI X tg iter t' := ⟨fun pins s σ H R I q => h.run pins s σ H R I (i σ H R q)⟩
theorem PI.or {X : Cx} {tg iter : Expr} {t t' : TI} (h : PI X tg iter t) (h' : PI X tg iter t') : PI X tg iter (fun σ H R => t σ H R ∨ t' σ H R) := ⟨fun pins s σ H R I q => q.elim (h.run pins s σ H R I) (h'.run pins s σ H R I)⟩
section
variable {Γ : Sig} {W : WX} {w w1 : Wd} {H H1 : Hp} {σ : L2.St} {R : It → Hp → Prop} {X : Cx} {tg iter e : Expr} {fe : FE} {fa : DEnv → M (List D)} {es : List Expr}
theorem PostI.grow {r : Res (List D × Kp)} (g : Step w H w1 H1) (h : PostI Γ W w H σ r R) : PostI Γ W w1 H1 σ r R := by
  cases r with
  | ok d st => exact fun w' H' J g' => h w' H' J (g.trans g')
  | exn c ds st => exact fun w' cv dx H' g' => h w' cv dx H' (g.trans g')
  | bad => exact h
theorem PostI.mid {α β : Type} {rep : RP α β} {r : Res α} {f : α → Store → Res (List D × Kp)} {Q : β → Hp → Prop} (h : PostI Γ W w H σ (r.bind f) R)
    (k : ∀ w1 d st1 v H1, Step w H w1 H1 → Rel Γ w1 st1 H1 → rep w1 d v → PostI Γ W w1 H1 σ (f d st1) R → Q v H1) : Post Γ w H rep (fun cv dx H' => W cv dx σ H') r Q := by
  cases r with
  | ok d st => exact fun w' v H' g R' rp => k w' d st v H' g R' rp (PostI.grow g h)
  | exn c ds st => exact h
  | bad => exact h
theorem PostI.at {p : List D × Kp} {st : Store} {J : It} (h : PostI Γ W w H σ (.ok p st) R) (R' : Rel Γ w st H) (j : ItOk Γ w H p.1 p.2 J) : R J H := h w H J (Step.refl _ _) R' j
/-- the list at d is read at every turn -/
theorem iSrc_ok {st : Store} {d : D} {p : List D × Kp} {v : V} (ht : isTup d = false) (R : Rel Γ w st H) (r : Rep Γ w d v) (h : iSrc d st = some p) :
    ∃ a, v = .ref a ∧ keepOk p.2 st ∧ ∀ w' st' H', Step w H w' H' → Rel Γ w' st' H' → keepOk p.2 st' → ∃ vs, SqL Γ.K H' a vs ∧ RepL Γ w' p.1 vs := by
  unfold iSrc at h
  cases d with
  | lst ds =>
    cases h
    obtain ⟨a, vs, rfl, s, q⟩ := r.lst_inv
    exact ⟨a, rfl, (by intro p z; cases z), fun w' st' H' g R' _ => ⟨vs, .of (R'.sub _ _ (g.G _ _ s)), q.mono g.grow⟩⟩
  | tup ds => cases ht
  | scr ns =>
    cases h
    obtain ⟨a, rfl, s⟩ := r.scr_inv
    exact ⟨a, rfl, (by intro p z; cases z), fun w' st' H' g R' _ => ⟨_, R'.sub.seq (g.G.seq s), repL_ints ns⟩⟩
  | cell n =>
    obtain ⟨a, rfl, hn⟩ := r.cell_inv
    dsimp only at h
    split at h
    · rename_i ds he
      cases h
      refine ⟨a, rfl, fun p hp => ?_, fun w' st' H' g R' k => ?_⟩
      · rw [List.mem_singleton.mp hp]
        exact he
      · obtain ⟨vs, e2, r2⟩ := R'.reps n _ a (k (n, ds) (List.mem_singleton.mpr rfl)) (g.grow.at hn)
        exact ⟨vs, .of e2, r2⟩
    · cases h
  | _ => cases h
theorem itl_ok {xs : List D} {ks : Kp} {a : Addr} (f : ∀ w' st' H', Step w H w' H' → Rel Γ w' st' H' → keepOk ks st' → ∃ vs, SqL Γ.K H' a vs ∧ RepL Γ w' xs vs) : ItOk Γ w H xs ks (Itl Γ.K a) where
  go := fun i w' st' H' d g R k e => by
    obtain ⟨vs, s, r⟩ := f w' st' H' g R k
    obtain ⟨v, ev, rv⟩ := r.get e
    refine ⟨⟨vs, v, s, ev⟩, fun x H2 ⟨eH, hx⟩ => ?_⟩
    subst eH
    have := hx vs s
    rw [ev] at this
    cases this
    exact ⟨w', Step.refl _ _, R, rv⟩
  stop := fun w' st' H' g R k => by
    obtain ⟨vs, s, r⟩ := f w' st' H' g R k
    exact ⟨vs, s, Nat.le_of_eq r.length⟩
theorem itt_ok {xs : List D} {a : Addr} {vs : List V} (s : SqT Γ.K w.G a vs) (r : RepL Γ w xs vs) : ItOk Γ w H xs [] (Itt Γ.K a) where
  go := fun i w' st' H' d g R k e => by
    obtain ⟨v, ev, rv⟩ := r.get e
    have s' := Same.tup R.sub (Same.tup g.G s)
    refine ⟨⟨vs, v, s', ev⟩, fun x H2 ⟨eH, hx⟩ => ?_⟩
    subst eH
    have := hx vs s'
    rw [ev] at this
    cases this
    exact ⟨w', Step.refl _ _, R, rv.mono g.grow⟩
  stop := fun w' st' H' g R k => ⟨vs, Same.tup R.sub (Same.tup g.G s), Nat.le_of_eq r.length⟩
theorem itr_ok (lo : Int) (n : Nat) : ItOk Γ w H (rangeL lo n) [] (Itr lo n) where
  go := fun i w' st' H' d g R k e => by
    unfold rangeL at e
    rw [List.getElem?_map] at e
    have hi : i < n := by
      by_cases hi : i < n
      · exact hi
      · rw [List.getElem?_eq_none (by rw [List.length_range]; omega)] at e
        cases e
    rw [List.getElem?_range hi] at e
    cases e
    refine ⟨hi, fun x H2 ⟨eH, hx⟩ => ?_⟩
    subst eH hx
    exact ⟨w', Step.refl _ _, R, .int⟩
  stop := fun w' st' H' g R k => by
    show n ≤ _
    unfold rangeL
    rw [List.length_map, List.length_range]
    exact Nat.le_refl _
theorem its_ok (x : Str) : ItOk Γ w H (x.cps.toList.map fun c => D.str ⟨#[c]⟩) [] (Its x) where
  go := fun i w' st' H' d g R k e => by
    rw [List.getElem?_map] at e
    cases ec : x.cps.toList[i]? with
    | none => rw [ec] at e; cases e
    | some c =>
      rw [ec] at e
      cases e
      have ec' : x.cps[i]? = some c := by rw [← Array.getElem?_toList]; exact ec
      refine ⟨(Array.getElem?_eq_some_iff.mp ec').1, fun y H2 ⟨eH, c', hc, hy⟩ => ?_⟩
      rw [ec'] at hc
      cases hc
      subst eH hy
      exact ⟨w', Step.refl _ _, R, .str⟩
  stop := fun w' st' H' g R k => by
    show x.cps.size ≤ _
    rw [List.length_map, Array.length_toList]
    exact Nat.le_refl _
theorem enumL_get : ∀ {xs : List D} {k i : Nat} {d : D}, (enumL k xs)[i]? = some d → ∃ x, xs[i]? = some x ∧ d = .tup [.int ((k + i : Nat)), x]
  | [], _, _, _, e => by simp [enumL] at e
  | x :: xs, k, 0, _, e => by
    simp [enumL] at e
    exact ⟨x, rfl, e.symm⟩
  | x :: xs, k, i + 1, _, e => by
    obtain ⟨y, h1, h2⟩ := enumL_get (xs := xs) (k := k + 1) (i := i) (by simpa [enumL] using e)
    exact ⟨y, by simpa using h1, by rw [h2]; congr 4; omega⟩
theorem enumL_length : ∀ (xs : List D) (k : Nat), (enumL k xs).length = xs.length
  | [], _ => rfl
  | x :: xs, k => by simp [enumL, enumL_length xs (k + 1)]
theorem lay_tup {st : Store} {T : Addr} {ds : List D} {vs : List V} (R : Rel Γ w st H) (hT : H T = none) (r : RepL Γ w ds vs) : ∃ w2, Step w H w2 (upd H T (.tup vs)) ∧ Rel Γ w2 st (upd H T (.tup vs)) ∧ Rep Γ w2 (.tup ds) (.ref T) := by
  obtain ⟨w2, s, R2, e⟩ := R.lay (u := .tup vs) hT
  exact ⟨w2, s, R2, .mk_tup (.of e) (r.mono s.grow)⟩
theorem ite_ok {xs : List D} {ks : Kp} {a : Addr} (f : ∀ w' st' H', Step w H w' H' → Rel Γ w' st' H' → keepOk ks st' → ∃ vs, SqL Γ.K H' a vs ∧ RepL Γ w' xs vs) : ItOk Γ w H (enumL 0 xs) ks (Ite Γ.K a) where
  go := fun i w' st' H' d g R k e => by
    obtain ⟨vs, s, r⟩ := f w' st' H' g R k
    obtain ⟨y, ey, rfl⟩ := enumL_get e
    obtain ⟨v, ev, rv⟩ := r.get ey
    refine ⟨⟨vs, v, s, ev⟩, fun x H2 ⟨T, z, ex, hT, eH, hx⟩ => ?_⟩
    have := hx vs s
    rw [ev] at this
    cases this
    subst ex eH
    rw [Nat.zero_add]
    exact lay_tup R hT (.cons .int (.cons rv .nil))
  stop := fun w' st' H' g R k => by
    obtain ⟨vs, s, r⟩ := f w' st' H' g R k
    exact ⟨vs, s, by rw [enumL_length]; exact Nat.le_of_eq r.length⟩
theorem zipL_get : ∀ {xs ys : List D} {i : Nat} {d : D}, (zipL xs ys)[i]? = some d → ∃ x y, xs[i]? = some x ∧ ys[i]? = some y ∧ d = .tup [x, y]
  | [], _, _, _, e => by simp [zipL] at e
  | _ :: _, [], _, _, e => by simp [zipL] at e
  | x :: xs, y :: ys, 0, _, e => by
    simp [zipL] at e
    exact ⟨x, y, rfl, rfl, e.symm⟩
  | x :: xs, y :: ys, i + 1, _, e => by
    obtain ⟨a, b, h1, h2, h3⟩ := zipL_get (xs := xs) (ys := ys) (i := i) (by simpa [zipL] using e)
    exact ⟨a, b, by simpa using h1, by simpa using h2, h3⟩
theorem zipL_length : ∀ (xs ys : List D), (zipL xs ys).length = min xs.length ys.length
  | [], _ => by simp [zipL]
  | _ :: _, [] => by simp [zipL]
  | x :: xs, y :: ys => by simp [zipL, zipL_length xs ys]
theorem keepOk_left {ks ls : Kp} {st : Store} (h : keepOk (ks ++ ls) st) : keepOk ks st := fun p hp => h p (List.mem_append_left _ hp)
theorem keepOk_right {ks ls : Kp} {st : Store} (h : keepOk (ks ++ ls) st) : keepOk ls st := fun p hp => h p (List.mem_append_right _ hp)
theorem itz_ok {xs ys : List D} {ks ls : Kp} {a b : Addr} (f : ∀ w' st' H', Step w H w' H' → Rel Γ w' st' H' → keepOk ks st' → ∃ vs, SqL Γ.K H' a vs ∧ RepL Γ w' xs vs)
    (f2 : ∀ w' st' H', Step w H w' H' → Rel Γ w' st' H' → keepOk ls st' → ∃ vs, SqL Γ.K H' b vs ∧ RepL Γ w' ys vs) : ItOk Γ w H (zipL xs ys) (ks ++ ls) (Itz Γ.K a b) where
  go := fun i w' st' H' d g R k e => by
    obtain ⟨vs, s, r⟩ := f w' st' H' g R (keepOk_left k)
    obtain ⟨us, s2, r2⟩ := f2 w' st' H' g R (keepOk_right k)
    obtain ⟨x, y, e1, e2, rfl⟩ := zipL_get e
    obtain ⟨v, ev, rv⟩ := r.get e1
    obtain ⟨u, eu, ru⟩ := r2.get e2
    refine ⟨⟨vs, us, v, u, s, s2, ev, eu⟩, fun z H2 ⟨T, p, q, ez, hT, eH, hp, hq⟩ => ?_⟩
    have h1 := hp vs s
    rw [ev] at h1
    cases h1
    have h2 := hq us s2
    rw [eu] at h2
    cases h2
    subst ez eH
    exact lay_tup R hT (.cons rv (.cons ru .nil))
  stop := fun w' st' H' g R k => by
    obtain ⟨vs, s, r⟩ := f w' st' H' g R (keepOk_left k)
    obtain ⟨us, s2, r2⟩ := f2 w' st' H' g R (keepOk_right k)
    refine ⟨vs, us, s, s2, ?_⟩
    rw [zipL_length, r.length, r2.length]
    omega
theorem di_list (hK : X.K = Γ.K) (he : DE X Γ W e fe) : DI X Γ W tg e (fList fe) (fun σ H R => iList X.K (tE Γ W fe) σ H R ∨ iTup X.K (tE Γ W fe) σ H R) := ⟨PI.or (pi_list he.pe) (pi_tup he.pe), fun w env st σ H R R0 ev h => by
  rw [hK]
  unfold fList at h
  cases er : fe env st with
  | bad => rw [er] at h; exact h.elim
  | exn c ds s1 => rw [er] at h; exact .inl ⟨w, env, st, R0, ev, by rw [er]; exact h⟩
  | ok d s1 =>
    rw [er] at h
    have h : PostI Γ W w H σ (match iSrc d s1 with | some p => Res.ok p s1 | none => .bad) R := h
    cases hs : iSrc d s1 with
    | none => rw [hs] at h; exact h.elim
    | some p =>
      rw [hs] at h
      cases ht : isTup d with
      | false =>
        refine .inl ⟨w, env, st, R0, ev, ?_⟩
        rw [er]
        intro w1 v H1 g R1 r1
        obtain ⟨a, rfl, k, f⟩ := iSrc_ok ht R1 r1 hs
        obtain ⟨vs, s, q⟩ := f w1 s1 H1 (Step.refl _ _) R1 k
        exact ⟨a, rfl, ⟨vs, s⟩, PostI.at (PostI.grow g h) R1 (itl_ok f)⟩
      | true =>
        refine .inr ⟨w, env, st, R0, ev, ?_⟩
        rw [er]
        intro w1 v H1 g R1 r1
        cases d with
        | tup ds =>
          cases hs
          obtain ⟨a, vs, rfl, s, q⟩ := r1.tup_inv
          exact ⟨a, rfl, ⟨vs, Same.tup R1.sub s⟩, PostI.at (PostI.grow g h) R1 (itt_ok s q)⟩
        | _ => cases ht⟩
theorem di_range1 {a : Expr} {p pos : Pos} (hg : Gl X "range") (hm : X.mg "range" = none) (ha : DA X Γ W [a] fa) (hs : starEach [a] X.env = [(false, eval a X.env)] := by rfl) : DI X Γ W tg (.Call (.Name "range" p) [a] [] pos) (fRange1 fa) (iRng1 (tA Γ W fa)) := ⟨pi_range1 hg hm ha.pa hs, fun w env st σ H R R0 ev h =>
  ⟨w, env, st, R0, ev, PostI.mid (rep := RepL Γ) h fun w1 ds st1 vs H1 g R1 r1 h1 => by
    split at h1
    · rename_i j
      split at h1
      · rename_i hb
        obtain ⟨v, us, rfl, q1, q2⟩ := r1.cons_inv
        rw [q1.int_inv, q2.nil_inv]
        exact ⟨j, rfl, hb.1, hb.2, PostI.at h1 R1 (itr_ok 0 _)⟩
      · exact h1.elim
    · exact h1.elim⟩⟩
theorem di_range2 {a b : Expr} {p pos : Pos} (hg : Gl X "range") (hm : X.mg "range" = none) (ha : DA X Γ W [a, b] fa) (hs : starEach [a, b] X.env = [(false, eval a X.env), (false, eval b X.env)] := by rfl) (hs2 : starEach [b] X.env = [(false, eval b X.env)] := by rfl) :
    DI X Γ W tg (.Call (.Name "range" p) [a, b] [] pos) (fRange2 fa) (iRng2 (tA Γ W fa)) := ⟨pi_range2 hg hm ha.pa hs hs2, fun w env st σ H R R0 ev h =>
  ⟨w, env, st, R0, ev, PostI.mid (rep := RepL Γ) h fun w1 ds st1 vs H1 g R1 r1 h1 => by
    split at h1
    · rename_i i j
      split at h1
      · rename_i hb
        obtain ⟨v, us, rfl, q1, q2⟩ := r1.cons_inv
        obtain ⟨u, ts, rfl, q3, q4⟩ := q2.cons_inv
        rw [q1.int_inv, q3.int_inv, q4.nil_inv]
        exact ⟨i, j, rfl, hb, PostI.at h1 R1 (itr_ok i _)⟩
      · exact h1.elim
    · exact h1.elim⟩⟩
theorem di_str (he : DE X Γ W e fe) : DI X Γ W tg e (fStr fe) (iStr (tE Γ W fe)) := ⟨pi_str he.pe, fun w env st σ H R R0 ev h =>
  ⟨w, env, st, R0, ev, PostI.mid (rep := Rep Γ) h fun w1 d st1 v H1 g R1 r1 h1 => by
    cases d with
    | str x => exact ⟨x, r1.str_inv, PostI.at h1 R1 (its_ok x)⟩
    | _ => exact h1.elim⟩⟩
theorem di_enum {a : Expr} {p pos tpos : Pos} {elts : List Expr} {kk : Nat} (hK : X.K = Γ.K) (hg : Gl X "enumerate") (hm : X.mg "enumerate" = none) (ha : DA X Γ W [a] fa) (hs : starEach [a] X.env = [(false, eval a X.env)] := by rfl) :
    DI X Γ W (.Tuple elts kk tpos) (.Call (.Name "enumerate" p) [a] [] pos) (fEnum fa) (iEnum X.K (tA Γ W fa)) := ⟨pi_enum hg hm ha.pa hs, fun w env st σ H R R0 ev h => by
  rw [hK]
  exact ⟨w, env, st, R0, ev, PostI.mid (rep := RepL Γ) h fun w1 ds st1 vs H1 g R1 r1 h1 => by
    split at h1
    · rename_i d
      obtain ⟨v, us, rfl, q1, q2⟩ := r1.cons_inv
      rw [q2.nil_inv]
      cases ht : isTup d with
      | true => rw [ht] at h1; exact h1.elim
      | false =>
        rw [ht] at h1
        have h1 : PostI Γ W w1 H1 σ (match iSrc d st1 with | some (xs, ks) => Res.ok (enumL 0 xs, ks) st1 | none => .bad) R := h1
        cases hs' : iSrc d st1 with
        | none => rw [hs'] at h1; exact h1.elim
        | some p =>
          rw [hs'] at h1
          obtain ⟨a, rfl, k, f⟩ := iSrc_ok ht R1 q1 hs'
          obtain ⟨vs, s, q⟩ := f w1 st1 H1 (Step.refl _ _) R1 k
          exact ⟨a, vs, rfl, s, PostI.at h1 R1 (ite_ok f)⟩
    · exact h1.elim⟩⟩
theorem di_zip {a b : Expr} {p pos tpos : Pos} {elts : List Expr} {kk : Nat} (hK : X.K = Γ.K) (hg : Gl X "zip") (hm : X.mg "zip" = none) (ha : DA X Γ W [a, b] fa)
    (hs : starEach [a, b] X.env = (false, eval a X.env) :: starEach [b] X.env := by rfl) (hpl : (backTo pos (starEach [b] X.env)).any (·.1) = false := by rfl) :
    DI X Γ W (.Tuple elts kk tpos) (.Call (.Name "zip" p) [a, b] [] pos) (fZip fa) (iZip X.K (tA Γ W fa)) := ⟨pi_zip hg hm ha.pa hs hpl, fun w env st σ H R R0 ev h => by
  rw [hK]
  exact ⟨w, env, st, R0, ev, PostI.mid (rep := RepL Γ) h fun w1 ds st1 vs H1 g R1 r1 h1 => by
    split at h1
    · rename_i d e
      obtain ⟨v, us, rfl, q1, q2⟩ := r1.cons_inv
      obtain ⟨u, ts, rfl, q3, q4⟩ := q2.cons_inv
      rw [q4.nil_inv]
      split at h1
      · exact h1.elim
      · rename_i nt
        have t1 : isTup d = false := by
          cases q : isTup d with
          | false => rfl
          | true => exact (nt (.inl q)).elim
        have t2 : isTup e = false := by
          cases q : isTup e with
          | false => rfl
          | true => exact (nt (.inr q)).elim
        cases s1 : iSrc d st1 with
        | none => rw [s1] at h1; exact h1.elim
        | some p1 =>
          cases s2 : iSrc e st1 with
          | none => rw [s1, s2] at h1; exact h1.elim
          | some p2 =>
            rw [s1, s2] at h1
            obtain ⟨a, rfl, k, f⟩ := iSrc_ok t1 R1 q1 s1
            obtain ⟨b, rfl, k2, f2⟩ := iSrc_ok t2 R1 q3 s2
            obtain ⟨vs, s, q⟩ := f w1 st1 H1 (Step.refl _ _) R1 k
            obtain ⟨us, s', q'⟩ := f2 w1 st1 H1 (Step.refl _ _) R1 k2
            exact ⟨a, b, vs, us, rfl, s, s', PostI.at h1 R1 (itz_ok f f2)⟩
    · exact h1.elim⟩⟩
end

/-! ### equality is decided -/
mutual
def dEq : (a b : D) → Decidable (a = b)
  | .non, .non => .isTrue rfl
  | .bl a, .bl b => if h : a = b then .isTrue (by rw [h]) else .isFalse (fun z => by cases z; exact h rfl)
  | .int a, .int b => if h : a = b then .isTrue (by rw [h]) else .isFalse (fun z => by cases z; exact h rfl)
  | .str a, .str b => if h : a = b then .isTrue (by rw [h]) else .isFalse (fun z => by cases z; exact h rfl)
  | .lst a, .lst b => match dEqL a b with
    | .isTrue h => .isTrue (by rw [h])
    | .isFalse h => .isFalse (fun z => by cases z; exact h rfl)
  | .tup a, .tup b => match dEqL a b with
    | .isTrue h => .isTrue (by rw [h])
    | .isFalse h => .isFalse (fun z => by cases z; exact h rfl)
  | .scr a, .scr b => if h : a = b then .isTrue (by rw [h]) else .isFalse (fun z => by cases z; exact h rfl)
  | .cell a, .cell b => if h : a = b then .isTrue (by rw [h]) else .isFalse (fun z => by cases z; exact h rfl)
  | .ins c a, .ins d b => if q : c = d then (match dEqL a b with
    | .isTrue h => .isTrue (by rw [h, q])
    | .isFalse h => .isFalse (fun z => by cases z; exact h rfl)) else .isFalse (fun z => by cases z; exact q rfl)
  | .exn c a, .exn d b => if q : c = d then (match dEqL a b with
    | .isTrue h => .isTrue (by rw [h, q])
    | .isFalse h => .isFalse (fun z => by cases z; exact h rfl)) else .isFalse (fun z => by cases z; exact q rfl)
  | .non, .bl _ | .non, .int _ | .non, .str _ | .non, .lst _ | .non, .tup _ | .non, .scr _ | .non, .cell _ | .non, .ins _ _ | .non, .exn _ _ => .isFalse (by intro z; cases z)
  | .bl _, .non | .bl _, .int _ | .bl _, .str _ | .bl _, .lst _ | .bl _, .tup _ | .bl _, .scr _ | .bl _, .cell _ | .bl _, .ins _ _ | .bl _, .exn _ _ => .isFalse (by intro z; cases z)
  | .int _, .non | .int _, .bl _ | .int _, .str _ | .int _, .lst _ | .int _, .tup _ | .int _, .scr _ | .int _, .cell _ | .int _, .ins _ _ | .int _, .exn _ _ => .isFalse (by intro z; cases z)
  | .str _, .non | .str _, .bl _ | .str _, .int _ | .str _, .lst _ | .str _, .tup _ | .str _, .scr _ | .str _, .cell _ | .str _, .ins _ _ | .str _, .exn _ _ => .isFalse (by intro z; cases z)
  | .lst _, .non | .lst _, .bl _ | .lst _, .int _ | .lst _, .str _ | .lst _, .tup _ | .lst _, .scr _ | .lst _, .cell _ | .lst _, .ins _ _ | .lst _, .exn _ _ => .isFalse (by intro z; cases z)
  | .tup _, .non | .tup _, .bl _ | .tup _, .int _ | .tup _, .str _ | .tup _, .lst _ | .tup _, .scr _ | .tup _, .cell _ | .tup _, .ins _ _ | .tup _, .exn _ _ => .isFalse (by intro z; cases z)
  | .scr _, .non | .scr _, .bl _ | .scr _, .int _ | .scr _, .str _ | .scr _, .lst _ | .scr _, .tup _ | .scr _, .cell _ | .scr _, .ins _ _ | .scr _, .exn _ _ => .isFalse (by intro z; cases z)
  | .cell _, .non | .cell _, .bl _ | .cell _, .int _ | .cell _, .str _ | .cell _, .lst _ | .cell _, .tup _ | .cell _, .scr _ | .cell _, .ins _ _ | .cell _, .exn _ _ => .isFalse (by intro z; cases z)
  | .ins _ _, .non | .ins _ _, .bl _ | .ins _ _, .int _ | .ins _ _, .str _ | .ins _ _, .lst _ | .ins _ _, .tup _ | .ins _ _, .scr _ | .ins _ _, .cell _ | .ins _ _, .exn _ _ => .isFalse (by intro z; cases z)
  | .exn _ _, .non | .exn _ _, .bl _ | .exn _ _, .int _ | .exn _ _, .str _ | .exn _ _, .lst _ | .exn _ _, .tup _ | .exn _ _, .scr _ | .exn _ _, .cell _ | .exn _ _, .ins _ _ => .isFalse (by intro z; cases z)
def dEqL : (a b : List D) → Decidable (a = b)
  | [], [] => .isTrue rfl
  | [], _ :: _ => .isFalse (fun z => nomatch z)
  | _ :: _, [] => .isFalse (fun z => nomatch z)
  | a :: as, b :: bs => match dEq a b, dEqL as bs with
    | .isTrue h, .isTrue q => .isTrue (by rw [h, q])
    | .isFalse h, _ => .isFalse (fun z => by cases z; exact h rfl)
    | _, .isFalse q => .isFalse (fun z => by cases z; exact q rfl)
end
instance : DecidableEq D := dEq
instance (st : Store) (n : Nat) (xs : List D) : Decidable (st[n]? = some (.lst xs)) := match e : st[n]? with
  | some (.lst ys) => if h : ys = xs then .isTrue (by rw [h]) else .isFalse (fun z => by cases z; exact h rfl)
  | some (.obj _ _) => .isFalse (fun z => nomatch z)
  | some (.dct _) => .isFalse (fun z => nomatch z)
  | some .gone => .isFalse (fun z => nomatch z)
  | none => .isFalse (fun z => nomatch z)
instance (ks : Kp) (st : Store) : Decidable (keepOk ks st) := inferInstanceAs (Decidable (∀ p ∈ ks, st[p.1]? = some (.lst p.2)))

/-! ### for -/
def forL (ks : Kp) (g : TGD) (body : FS) : List D → FS
  | [], env, st => if keepOk ks st then .nx env st else .bad
  | d :: ds, env, st => if keepOk ks st then (match g env d with
    | none => .bad
    | some env1 => match body env1 st with
      | .nx e s => forL ks g body ds e s
      | .ct e s => forL ks g body ds e s
      | .bk e s => .nx e s
      | o => o) else .bad
def sFor (src : FI) (g : TGD) (body : FS) : FS := fun env st => (src env st).to env fun p s1 => forL p.2 g body p.1 env s1
section
variable {Γ : Sig} {W : WX} {X : Cx} {tg iter : Expr} {src : FI} {wi : TI} {g : TGD} {is : List Nat} {t : TG} {fb : FS} {body : List Stmt} {pos : Pos}
theorem PostI.of {w : Wd} {H : Hp} {σ : L2.St} {env : DEnv} {r : Res (List D × Kp)} {k : List D × Kp → Store → Out} {N : Ends} {R : It → Hp → Prop} (ev : EnvR Γ w env σ) (h : PostS Γ W w H (r.to env k) N)
    (c : ∀ w1 p st1 H1 J, Step w H w1 H1 → Rel Γ w1 st1 H1 → ItOk Γ w1 H1 p.1 p.2 J → PostS Γ W w1 H1 (k p st1) N → R J H1) : PostI Γ W w H σ r R := by
  cases r with
  | ok p st => exact fun w1 H1 J g R1 j => c w1 p st H1 J g R1 j (PostS.grow g h)
  | exn c' ds st => exact fun w' cv dx H' g R x => h w' σ H' cv dx g R (ev.mono g.grow) x
  | bad => exact h
theorem s_for (hp : PassesOwn (model X.prog X.w) X.A X.env X.xe) (hc : X.calm = true) (hi : DI X Γ W tg iter src wi) (hg : GD X Γ tg g is t) (hb : DB X Γ W body fb) (hs : ∀ x, foldedSetIterable iter X.env x = pure x := by intro _; rfl) : DS X Γ W (.For tg iter body [] pos) (sFor src g fb) :=
  ⟨PS.imp (ps_for hp hc hi.pi hg.pg hb.pss hs) fun N σ H ⟨w, env, st, R, ev, h⟩ => by
    refine hi.ok w env st σ H _ R ev (PostI.of ev h fun w1 p st1 H1 J s1 R1 j h1 => ?_)
    obtain ⟨xs, ks⟩ := p
    refine ⟨fun i m σ' H' => m = xs.length - i ∧ i ≤ xs.length ∧ ∃ w' env' st', Step w1 H1 w' H' ∧ Rel Γ w' st' H' ∧ EnvR Γ w' env' σ' ∧ PostS Γ W w' H' (forL ks g fb (xs.drop i) env' st') N,
      ⟨xs.length, rfl, Nat.zero_le _, w1, env, st1, Step.refl _ _, R1, ev.mono s1.grow, h1⟩, ?_⟩
    rintro i m σ' H' ⟨rfl, hi', w', env', st', s', R', ev', h'⟩
    by_cases hlt : i < xs.length
    · rw [List.drop_eq_getElem_cons hlt] at h'
      unfold forL at h'
      split at h'
      · rename_i kk
        obtain ⟨go, yl⟩ := j.go i w' st' H' xs[i] s' R' kk (List.getElem?_eq_getElem hlt)
        refine .inr ⟨go, fun σ2 H2 => ∃ w2 env2 st2, Step w1 H1 w2 H2 ∧ Rel Γ w2 st2 H2 ∧ EnvR Γ w2 env2 σ2 ∧ PostS Γ W w2 H2 (forL ks g fb (xs.drop (i + 1)) env2 st2) N,
          fun σ2 H2 z => ⟨_, by omega, rfl, hlt, z⟩, fun x H2 y => ?_⟩
        obtain ⟨w2, s2, R2, r2⟩ := yl x H2 y
        split at h'
        · exact h'.elim
        · rename_i env1 e1
          refine hg.ok w2 env' env1 σ' st' H2 _ x _ R2 (ev'.mono s2.grow) r2 e1 fun σ3 ev3 _ => ⟨w2, env1, st', R2, ev3, ?_⟩
          have h2 := PostS.grow s2 h'
          cases e : fb env1 st' with
          | nx e3 s3 =>
            rw [e] at h2
            exact fun w4 σ4 H4 g4 R4 ev4 => ⟨w4, e3, s3, (s'.trans s2).trans g4, R4, ev4, PostS.grow g4 h2⟩
          | ct e3 s3 =>
            rw [e] at h2
            exact fun w4 σ4 H4 g4 R4 ev4 => ⟨w4, e3, s3, (s'.trans s2).trans g4, R4, ev4, PostS.grow g4 h2⟩
          | bk e3 s3 =>
            rw [e] at h2
            exact h2
          | ret d s3 => rw [e] at h2; exact h2
          | exn c ds e3 s3 => rw [e] at h2; exact h2
          | bad => rw [e] at h2; exact h2
      · exact h'.elim
    · have e : i = xs.length := by omega
      subst e
      rw [List.drop_length] at h'
      unfold forL at h'
      split at h'
      · rename_i kk
        exact .inl ⟨j.stop w' st' H' s' R' kk, h'.nxt R' ev'⟩
      · exact h'.elim⟩
end

/-! ### while -/
def whileL (t : DEnv → M Bool) (body : FS) : Nat → FS
  | 0, _, _ => .bad
  | n + 1, env, st => (t env st).to env fun c s1 => if c = true then (match body env s1 with
      | .nx e s => whileL t body n e s
      | .ct e s => whileL t body n e s
      | .bk e s => .nx e s
      | o => o) else .nx env s1
def sWhile (n : Nat) (t : DEnv → M Bool) (body : FS) : FS := fun env st => whileL t body n env st
section
variable {Γ : Sig} {W : WX} {X : Cx} {c : Expr} {tc : DEnv → M Bool} {fb : FS} {body : List Stmt} {pos : Pos}
theorem s_while (n : Nat) (hp : PassesOwn (model X.prog X.w) X.A X.env X.xe) (hc : DT X Γ W c tc) (hb : DB X Γ W body fb) : DS X Γ W (.While c body [] pos) (sWhile n tc fb) :=
  ⟨PS.imp (ps_while hp hc.pt hb.pss) fun N σ H ⟨w, env, st, R, ev, h⟩ => by
    refine ⟨fun m σ' H' => ∃ w' env' st', Rel Γ w' st' H' ∧ EnvR Γ w' env' σ' ∧ PostS Γ W w' H' (whileL tc fb m env' st') N, ⟨n, w, env, st, R, ev, h⟩, ?_⟩
    rintro m σ' H' ⟨w', env', st', R', ev', h'⟩
    cases m with
    | zero => exact h'.elim
    | succ m =>
      refine ⟨w', env', st', R', ev', PostS.mid (rep := fun _ (a b : Bool) => a = b) ev' h' fun w1 d st1 v H1 g R1 r1 h1 => ?_⟩
      subst r1
      cases d with
      | false => exact h1.nxt R1 (ev'.mono g.grow)
      | true =>
        refine ⟨fun σ2 H2 => ∃ w2 env2 st2, Rel Γ w2 st2 H2 ∧ EnvR Γ w2 env2 σ2 ∧ PostS Γ W w2 H2 (whileL tc fb m env2 st2) N, fun σ2 H2 z => ⟨m, Nat.lt_succ_self _, z⟩, w1, env', st1, R1, ev'.mono g.grow, ?_⟩
        have h2 : PostS Γ W w1 H1 (match fb env' st1 with | .nx e s => whileL tc fb m e s | .ct e s => whileL tc fb m e s | .bk e s => .nx e s | o => o) N := h1
        cases e : fb env' st1 with
        | nx e3 s3 =>
          rw [e] at h2
          exact fun w4 σ4 H4 g4 R4 ev4 => ⟨w4, e3, s3, R4, ev4, PostS.grow g4 h2⟩
        | ct e3 s3 =>
          rw [e] at h2
          exact fun w4 σ4 H4 g4 R4 ev4 => ⟨w4, e3, s3, R4, ev4, PostS.grow g4 h2⟩
        | bk e3 s3 =>
          rw [e] at h2
          exact h2
        | ret d s3 => rw [e] at h2; exact h2
        | exn c ds e3 s3 => rw [e] at h2; exact h2
        | bad => rw [e] at h2; exact h2⟩
end
end DS

namespace DS
open PySem L2

/-! ### comprehensions -/
abbrev W0 : WX := fun _ _ _ _ => False
def wipeE (env : DEnv) : List Nat → DEnv
  | [] => env
  | v :: vs => (wipeE env vs).set v none
theorem EnvR.wipe {Γ : Sig} {w : Wd} {env : DEnv} {σ : L2.St} (h : EnvR Γ w env σ) : ∀ vs : List Nat, EnvR Γ w (wipeE env vs) (L2.wipe σ vs)
  | [] => h
  | v :: vs => (h.wipe vs).del
def lcL (ks : Kp) (g : TGD) (env0 : DEnv) (tt : DEnv → M Bool) (te : FE) : List D → List D → M (List D)
  | [], acc, st => if keepOk ks st then .ok acc st else .bad
  | d :: ds, acc, st => if keepOk ks st then (match g env0 d with
    | none => .bad
    | some env1 => match tt env1 st with
      | .ok b s1 => if b = true then (match te env1 s1 with
        | .ok y s2 => if acc.length < sizeLine then lcL ks g env0 tt te ds (acc ++ [y]) s2 else .bad
        | _ => .bad) else lcL ks g env0 tt te ds acc s1
      | _ => .bad) else .bad
def xLc (mu : Bool) (src : FI) (g : TGD) (vs : List Nat) (tt : DEnv → M Bool) (te : FE) : FE := fun env st =>
  (src env st).bind fun p s1 => (lcL p.2 g (wipeE env vs) tt te p.1 [] s1).bind fun acc s2 => mkL mu acc s2
def bYes : DEnv → M Bool := fun _ st => .ok true st
theorem Step.upd {w w' : Wd} {H H' : Hp} {D : Addr} {u : HO} (s : Step w H w' H') (h : H D = none) : Step w H w' (upd H' D u) :=
  ⟨s.G, s.ι, fun a o e n => by rw [upd_ne (ne_of_none e h)]; exact s.keep a o e n, fun a e => by
    by_cases q : a = D
    · rw [q]; exact h
    · rw [upd_ne q] at e
      exact s.dom a e, s.gnew⟩
theorem Rel.off' {Γ : Sig} {w : Wd} {st : Store} {H : Hp} {D : Addr} {u : HO} (R : Rel Γ w st H) (hG : w.G D = none) (hι : D ∉ w.ι) : Rel Γ w st (upd H D u) := R.heap fun b o h q => by
  have ne : b ≠ D := fun z => by
    subst z
    rcases q with q | q
    · rw [hG] at q; cases q
    · exact hι q
  rw [upd_ne ne]
  exact h
/-- a list that we have made by ourselves is given out -/
theorem mkL_own {Γ : Sig} {w1 w : Wd} {H1 H : Hp} {st : Store} {D : Addr} {ds : List DS.D} {vs : List V} {mu : Bool} {E : Value → Option Addr → Hp → Prop} {Q : VK} (s : Step w1 H1 w H) (h1 : H1 D = none) (R : Rel Γ w st H) (hD : H D = some (.lst vs)) (r : RepL Γ w ds vs) (hG : w.G D = none) (hι : D ∉ w.ι)
    (h : Post Γ w1 H1 (Rep Γ) E (mkL mu ds st) Q) : Q (.ref D) H := by
  unfold mkL at h
  split at h
  · cases mu with
    | true =>
      have g : Grow w ⟨w.G, w.ι ++ [D]⟩ := ⟨Same.refl _, [D], rfl⟩
      obtain ⟨R2, g2, e⟩ := R.own (o := .lst ds) ⟨_, hD⟩ hG hι ⟨vs, hD, r.mono g⟩
      obtain ⟨t, et, ft⟩ := s.ι
      refine h _ _ _ ⟨s.G.trans g2.G, ⟨t ++ [D], ?_, fun p hp => ?_⟩, s.keep, s.dom, s.gnew⟩ R2 (.mk_cell e)
      · show w.ι ++ [D] = _
        rw [et, List.append_assoc]
      · rcases List.mem_append.mp hp with z | z
        · exact ft p z
        · rw [List.mem_singleton.mp z]; exact h1
    | false =>
      obtain ⟨R2, g2⟩ := R.know hG hι hD
      refine h ⟨upd w.G D (.lst vs), w.ι⟩ _ _ ⟨s.G.trans g2.G, s.ι, s.keep, s.dom, fun a o e => ?_⟩ R2 (.mk_lst upd_same (r.mono g2))
      by_cases q : a = D
      · exact .inr (.inl (by rw [q]; exact h1))
      · have e : upd w.G D (.lst vs) a = some o := e
        rw [upd_ne q] at e
        exact s.gnew a o e
  · exact h.elim
section
variable {X : Cx} {Γ : Sig} {W : WX} {tg iter elt : Expr} {ifs : List Expr} {src : FI} {wi : TI} {g : TGD} {is : List Nat} {t : TG} {tt : DEnv → M Bool} {te : FE} {own : List (Str × Nat)} {pos spos : Pos} {scope : Scope}
/-- the parts of a comprehension's block -/
structure DBlk (X : Cx) (Γ : Sig) (scope : Scope) (tg elt : Expr) (ifs : List Expr) (g : TGD) (is : List Nat) (t : TG) (tt : DEnv → M Bool) (te : FE) : Prop where
  go : GOk Γ g is t
  hg : ∀ (s : Shared) (H : Hp) (C : Addr) (cl : List (Str × Addr)) (fp : List Addr), GD (X.blk s H scope (compEnvC scope cl C X.env) fp) Γ tg g is t
  ht : ∀ (s : Shared) (H : Hp) (C : Addr) (cl : List (Str × Addr)) (fp : List Addr), PTs (X.blk s H scope (compEnvC scope cl C X.env) fp) ifs (tT Γ W0 tt)
  he : ∀ (s : Shared) (H : Hp) (C : Addr) (cl : List (Str × Addr)) (fp : List Addr), DE (X.blk s H scope (compEnvC scope cl C X.env) fp) Γ W0 elt te
theorem lc_ok {mu : Bool} {vs : List Nat} (hi : DI X Γ W tg iter src wi) (hb : DBlk X Γ scope tg elt ifs g is t tt te) (hv : ∀ i ∈ is, i ∈ vs) : ∀ σ H Q, tE Γ W (xLc mu src g vs tt te) σ H Q → tLc wi t (tT Γ W0 tt) (tE Γ W0 te) vs σ H Q := fun σ H Q ⟨w, env, st, R, ev, h⟩ => by
  refine hi.ok w env st σ H _ R ev ?_
  unfold xLc at h
  cases er : src env st with
  | bad => rw [er] at h; exact h.elim
  | exn c ds s1 => rw [er] at h; exact h
  | ok p st1 =>
    rw [er] at h
    obtain ⟨xs, ks⟩ := p
    intro w1 H1 J s1 R1 j D hD
    have h : Post Γ w H (Rep Γ) (fun cv dx H' => W cv dx σ H') ((lcL ks g (wipeE env vs) tt te xs [] st1).bind fun acc s2 => mkL mu acc s2) Q := h
    have gD : w1.G D = none := R1.fresh hD
    have iD : D ∉ w1.ι := fun z => by
      obtain ⟨x, hx⟩ := R1.dom D z
      rw [hD] at hx
      cases hx
    refine ⟨fun i m H' => m = xs.length - i ∧ i ≤ xs.length ∧ ∃ w' st' acc accV, Step w1 H1 w' H' ∧ Rel Γ w' st' H' ∧ H' D = some (.lst accV) ∧ RepL Γ w' acc accV ∧ D ∉ w'.ι ∧ w'.G D = none ∧
      Post Γ w1 H1 (Rep Γ) (fun cv dx H' => W cv dx σ H') ((lcL ks g (wipeE env vs) tt te (xs.drop i) acc st').bind fun acc s2 => mkL mu acc s2) Q,
      ⟨xs.length, rfl, Nat.zero_le _, w1, st1, [], [], (Step.refl _ _).upd hD, R1.off' gD iD, upd_same, .nil, iD, gD, Post.grow s1 h⟩, ?_⟩
    rintro i m H' ⟨rfl, hi', w', st', acc, accV, s', R', hD', ra, iD', gD', h'⟩
    by_cases hlt : i < xs.length
    · rw [List.drop_eq_getElem_cons hlt] at h'
      unfold lcL at h'
      split at h'
      · rename_i kk
        obtain ⟨go, yl⟩ := j.go i w' st' H' xs[i] s' R' kk (List.getElem?_eq_getElem hlt)
        refine .inr ⟨go, fun H2 => ∃ w' st' acc accV, Step w1 H1 w' H2 ∧ Rel Γ w' st' H2 ∧ H2 D = some (.lst accV) ∧ RepL Γ w' acc accV ∧ D ∉ w'.ι ∧ w'.G D = none ∧
          Post Γ w1 H1 (Rep Γ) (fun cv dx H' => W cv dx σ H') ((lcL ks g (wipeE env vs) tt te (xs.drop (i + 1)) acc st').bind fun acc s2 => mkL mu acc s2) Q,
          fun H2 z => ⟨_, by omega, rfl, hlt, z⟩, fun x H2 y => ?_⟩
        obtain ⟨w2, s2, R2, r2⟩ := yl x H2 y
        -- what stays of our list through a step
        have stay : ∀ {wa wb : Wd} {Ha Hb : Hp} {av : List V}, Step wa Ha wb Hb → Ha D = some (.lst av) → D ∉ wa.ι → wa.G D = none → Hb D = some (.lst av) ∧ D ∉ wb.ι ∧ wb.G D = none := fun {wa wb Ha Hb av} sg e1 e2 e3 => by
          refine ⟨sg.keep _ _ e1 e2, fun z => ?_, ?_⟩
          · obtain ⟨tl, et, ft⟩ := sg.ι
            rw [et] at z
            rcases List.mem_append.mp z with z | z
            · exact e2 z
            · rw [ft D z] at e1; cases e1
          · cases q : wb.G D with
            | none => rfl
            | some o =>
              rcases sg.gnew D o q with z | z | z
              · rw [e3] at z; cases z
              · rw [e1] at z; cases z
              · exact (e2 z).elim
        obtain ⟨hD2, iD2, gD2⟩ := stay s2 hD' iD' gD'
        cases eg : g (wipeE env vs) xs[i] with
        | none => rw [eg] at h'; exact h'.elim
        | some env1 =>
          rw [eg] at h'
          refine hb.go w2 (wipeE env vs) env1 (L2.wipe σ vs) st' H2 _ x _ R2 ((ev.mono (((s1.trans s').trans s2).grow)).wipe vs) r2 eg fun σ2 ev2 tc => ?_
          have hw : L2.wipe σ2 vs = L2.wipe σ vs := by
            have q1 := tc vs hv
            rw [q1]
            -- wiping twice
            have idem : ∀ (us : List Nat) (τ : L2.St), (∀ u ∈ us, u ∈ vs) → L2.wipe (L2.wipe τ vs) us = L2.wipe τ vs := by
              intro us
              induction us with
              | nil => intro τ _; rfl
              | cons u us ih =>
                intro τ hu
                show (L2.wipe (L2.wipe τ vs) us).set u none = L2.wipe τ vs
                rw [ih τ fun x hx => hu x (List.mem_cons_of_mem _ hx)]
                have hm := hu u List.mem_cons_self
                apply List.ext_getElem?
                intro k
                by_cases hk : k = u
                · subst hk
                  by_cases hl : k < (L2.wipe τ vs).length
                  · rw [List.getElem?_set_self hl]
                    cases q : (L2.wipe τ vs)[k]? with
                    | none =>
                      rw [List.getElem?_eq_none_iff] at q
                      omega
                    | some o =>
                      cases o with
                      | none => rfl
                      | some v => exact ((wipe_some q).2 hm).elim
                  · rw [List.getElem?_eq_none (by simpa using hl), List.getElem?_eq_none (by omega)]
                · rw [List.getElem?_set_ne (Ne.symm hk)]
            exact idem vs σ fun _ z => z
          refine ⟨hw, w2, env1, st', R2, ev2, ?_⟩
          have h' : Post Γ w1 H1 (Rep Γ) (fun cv dx H' => W cv dx σ H') ((match tt env1 st' with
            | .ok b s1 => if b = true then (match te env1 s1 with
              | .ok y s2 => if acc.length < sizeLine then lcL ks g (wipeE env vs) tt te (xs.drop (i + 1)) (acc ++ [y]) s2 else Res.bad
              | _ => .bad) else lcL ks g (wipeE env vs) tt te (xs.drop (i + 1)) acc s1
            | _ => .bad).bind fun acc s2 => mkL mu acc s2) Q := h'
          cases et : tt env1 st' with
          | bad => rw [et] at h'; exact h'.elim
          | exn c ds s3 => rw [et] at h'; exact h'.elim
          | ok b s3 =>
            rw [et] at h'
            intro w3 b' H3 g3 R3 eb
            subst eb
            obtain ⟨hD3, iD3, gD3⟩ := stay g3 hD2 iD2 gD2
            cases b with
            | false =>
              exact ⟨w3, s3, acc, accV, (s'.trans s2).trans g3, R3, hD3, ra.mono (s2.trans g3).grow, iD3, gD3, h'⟩
            | true =>
              refine ⟨w3, env1, s3, R3, ev2.mono g3.grow, ?_⟩
              have h' : Post Γ w1 H1 (Rep Γ) (fun cv dx H' => W cv dx σ H') ((match te env1 s3 with
                | .ok y s2 => if acc.length < sizeLine then lcL ks g (wipeE env vs) tt te (xs.drop (i + 1)) (acc ++ [y]) s2 else Res.bad
                | _ => .bad).bind fun acc s2 => mkL mu acc s2) Q := h'
              cases ee : te env1 s3 with
              | bad => rw [ee] at h'; exact h'.elim
              | exn c ds s4 => rw [ee] at h'; exact h'.elim
              | ok y s4 =>
                rw [ee] at h'
                intro w4 yv H4 g4 R4 ry
                obtain ⟨hD4, iD4, gD4⟩ := stay g4 hD3 iD3 gD3
                have h' : Post Γ w1 H1 (Rep Γ) (fun cv dx H' => W cv dx σ H') ((if acc.length < sizeLine then lcL ks g (wipeE env vs) tt te (xs.drop (i + 1)) (acc ++ [y]) s4 else Res.bad).bind fun acc s2 => mkL mu acc s2) Q := h'
                have rl : RepL Γ w4 acc accV := ra.mono ((s2.trans g3).trans g4).grow
                split at h'
                · rename_i hsz
                  exact ⟨accV, hD4, by rw [rl.length]; exact hsz, w4, s4, acc ++ [y], accV ++ [yv], (((s'.trans s2).trans g3).trans g4).upd hD, R4.off' gD4 iD4, upd_same, rl.append (.cons ry .nil), iD4, gD4, h'⟩
                · exact h'.elim
      · exact h'.elim
    · have e : i = xs.length := by omega
      subst e
      rw [List.drop_length] at h'
      unfold lcL at h'
      split at h'
      · rename_i kk
        exact .inl ⟨j.stop w' st' H' s' R' kk, mkL_own s' hD R' hD' ra gD' iD' h'⟩
      · exact h'.elim
theorem d_lc (mu : Bool) (hc : X.calm = true) (hN : X.N.Nodup) (hi : DI X Γ W tg iter src wi) (ok : BlkOk X.N X.env.scope scope own) (hb : DBlk X Γ scope tg elt ifs g is t tt te) (hv : ∀ i ∈ is, i ∈ own.map (·.2)) (hs : ∀ x, foldedSetIterable iter X.env x = pure x := by intro _; rfl) :
    DE X Γ W (.ListComp elt [⟨tg, iter, ifs, 0⟩] scope pos) (xLc mu src g (own.map (·.2)) tt te) := ⟨PE.imp (pe_lc hc hN hi.pi ok (fun s H C cl fp => (hb.hg s H C cl fp).pg) hb.ht (fun s H C cl fp => (hb.he s H C cl fp).pe) hs) (lc_ok hi hb hv)⟩
theorem s_setLc {i : Nat} {y : Str} {py : Pos} (mu : Bool) (hc : X.calm = true) (hN : X.N.Nodup) (hy : X.N[i]? = some y) (hyl : X.env.scope.names.lookup y = some .local)
    (hsw : swapsWith (.ListComp elt [⟨tg, iter, ifs, 0⟩] scope pos) (some (.Name y py)) spos.line X.env = pure true) (hi : DI X Γ W tg iter src wi) (ok : BlkOk X.N X.env.scope scope own) (hb : DBlk X Γ scope tg elt ifs g is t tt te) (hv : ∀ i ∈ is, i ∈ own.map (·.2)) (hs : ∀ x, foldedSetIterable iter X.env x = pure x := by intro _; rfl) :
    DS X Γ W (.Assign [.Name y py] (.ListComp elt [⟨tg, iter, ifs, 0⟩] scope pos) spos) (sAsg (gNm i) (xLc mu src g (own.map (·.2)) tt te)) :=
  ⟨PS.imp (ps_setLc hc hN hy hyl hsw hi.pi ok (fun s H C cl fp => (hb.hg s H C cl fp).pg) hb.ht (fun s H C cl fp => (hb.he s H C cl fp).pe) hs) fun N σ H ⟨w, env, st, R, ev, h⟩ => by
    refine lc_ok (mu := mu) hi hb hv σ H _ ⟨w, env, st, R, ev, ?_⟩
    exact PostS.mid (rep := Rep Γ) ev h fun w1 d st1 v H1 s1 R1 r1 h1 => PostS.nxt h1 R1 ((ev.mono s1.grow).set r1)⟩
theorem ts_nil {X : Cx} : PTs X [] (tT Γ W bYes) := ⟨fun pins s σ H Q I ⟨w, env, st, R, ev, h⟩ => pts_nil.run pins s σ H Q I (h w true H (Step.refl _ _) R rfl)⟩
theorem ts_one {X : Cx} {c : Expr} (h : DT X Γ W c tt) : PTs X [c] (tT Γ W tt) := pts_one h.pt
end
end DS

namespace DS
open PySem L2

/-! ### items and slices -/
def ixD (a b : D) : M D := fun st => match b with
  | .int i => match a with
    | .str x => if x.length ≤ sizeLine then (match atI x.cps.toList i with
      | some c => .ok (.str ⟨#[c]⟩) st
      | none => .bad) else .bad
    | a => match seqOf a st with
      | some xs => match atI xs i with
        | some d => .ok d st
        | none => .bad
      | none => .bad
  | _ => .bad
def cutD (xs : List D) (lo hi : Option Int) : List D := (xs.drop (HT.sIx xs.length 0 lo)).take (HT.sIx xs.length xs.length hi - HT.sIx xs.length 0 lo)
def slD (mu : Bool) (a : D) (lo hi : Option Int) : M D := fun st => match a with
  | .str x => if x.length ≤ sizeLine then .ok (.str (cutS x lo hi)) st else .bad
  | .tup xs => if HT.sIx xs.length 0 lo = 0 ∧ HT.sIx xs.length xs.length hi = xs.length then .bad else .ok (.tup (cutD xs lo hi)) st
  | a => match seqOf a st with
    | some xs => mkL mu (cutD xs lo hi) st
    | none => .bad
abbrev FO := DEnv → M (Option Int)
def oNo : FO := fun _ st => .ok none st
def oSo (f : FE) : FO := fun env st => (f env st).bind fun d s1 => match d with
  | .int i => .ok (some i) s1
  | _ => .bad
def xSl (mu : Bool) (f : FE) (l h : FO) : FE := fun env st => (f env st).bind fun d s1 => (l env s1).bind fun a s2 => (h env s2).bind fun b s3 => slD mu d a b s3
def tO (Γ : Sig) (W : WX) (f : FO) : TO := fun σ H Q => ∃ w env st, Rel Γ w st H ∧ EnvR Γ w env σ ∧ Post Γ w H (fun _ (a b : Option Int) => a = b) (fun cv dx H' => W cv dx σ H') (f env st) Q
structure DO (X : Cx) (Γ : Sig) (W : WX) (e : Option Expr) (f : FO) : Prop where
  po : PO X e (tO Γ W f)
theorem PO.imp {X : Cx} {e : Option Expr} {t t' : TO} (h : PO X e t) (i : ∀ σ H Q, t' σ H Q → t σ H Q) : PO X e t' := ⟨fun pins s σ H Q I q => h.run pins s σ H Q I (i σ H Q q)⟩
/-- a call by values -/
def CallD (Γ : Sig) (r : List V → Hp → VK → Prop) (g : List D → M D) : Prop := ∀ (w : Wd) (st : Store) (H : Hp) (ds : List D) (vs : List V) (E : Value → Option Addr → Hp → Prop) (Q : VK), Rel Γ w st H → RepL Γ w ds vs → Post Γ w H (Rep Γ) E (g ds st) Q → r vs H Q
def xCB (g : List D → M D) (f : DEnv → M (List D)) : FE := fun env st => (f env st).bind fun ds s1 => g ds s1
/-- a method of a built-in type, by values -/
def xBM (g : D → List D → M D) (o : FE) (f : DEnv → M (List D)) : FE := fun env st => (o env st).bind fun d s1 => (f env s1).bind fun ds s2 => g d ds s2
section
variable {X : Cx} {Γ : Sig} {W : WX} {a b e : Expr} {es : List Expr} {fa fb fe : FE} {fr : DEnv → M (List D)} {pos : Pos} {w : Wd} {st : Store} {H : Hp}
theorem RepL.at {ds : List D} {vs : List V} {i : Int} {d : D} (r : RepL Γ w ds vs) (h : atI ds i = some d) : ∃ v, atI vs i = some v ∧ Rep Γ w d v := by
  unfold atI at h ⊢
  rw [r.length]
  cases e : ixN ds.length i with
  | none => rw [e] at h; cases h
  | some j =>
    rw [e] at h
    exact r.get h
theorem RepL.cut {ds : List D} {vs : List V} (r : RepL Γ w ds vs) (lo hi : Option Int) : RepL Γ w (cutD ds lo hi) (cutV vs lo hi) := by
  unfold cutD cutV
  rw [r.length]
  exact (r.drop _).take _
def rIxA (K : PySem.W.Frag) : R2 := fun x y H Q => (rIxL K x y H Q ∨ rIxT K x y H Q) ∨ rIxS x y H Q
theorem i_all : IxR X (rIxA X.K) := (ix_list.or ix_tup).or ix_str
theorem g_ix : OpD Γ (rIxA Γ.K) ixD := fun w st H d e x y E Q R r1 r2 h => by
  unfold ixD at h
  cases e with
  | int i =>
    have hy := r2.int_inv
    have seq : ∀ xs, seqOf d st = some xs → (Post Γ w H (Rep Γ) E (match atI xs i with | some d => Res.ok d st | none => .bad) Q) → rIxA Γ.K x y H Q := fun xs hs h => by
      obtain ⟨p, vs, ev, s, q⟩ := seq_ok R r1 hs
      cases ha : atI xs i with
      | none => rw [ha] at h; exact h.elim
      | some z =>
        rw [ha] at h
        obtain ⟨v, hv, rv⟩ := q.at ha
        rcases s with s | s
        · exact .inl (.inl ⟨p, vs, i, v, ev, hy, s, hv, h.at R rv⟩)
        · exact .inl (.inr ⟨p, vs, i, v, ev, hy, s, hv, h.at R rv⟩)
    cases d with
    | str z =>
      dsimp only at h
      split at h
      · rename_i hl
        split at h
        · rename_i c hc
          exact .inr ⟨z, i, c, r1.str_inv, hy, hl, hc, h.at R .str⟩
        · exact h.elim
      · exact h.elim
    | lst xs => exact seq xs rfl h
    | tup xs => exact seq xs rfl h
    | scr ns => exact seq _ rfl h
    | cell n =>
      dsimp only at h
      cases hs : seqOf (.cell n) st with
      | none => rw [hs] at h; exact h.elim
      | some xs => rw [hs] at h; exact seq xs hs h
    | _ => exact h.elim
  | _ => exact h.elim
theorem d_ix (hK : X.K = Γ.K) (ha : DE X Γ W a fa) (hb : DE X Γ W b fb) (hs : PlainIx b := by exact fun _ _ => rfl) : DE X Γ W (.Subscript a b pos) (xOp ixD fa fb) := ⟨PE.imp (pe_ix i_all ha.pe hb.pe hs) fun σ H Q h => by rw [hK]; exact t_op g_ix σ H Q h⟩
theorem o_none : DO X Γ W none oNo := ⟨PO.imp po_none fun σ H Q ⟨w, env, st, R, ev, h⟩ => Post.at h R rfl⟩
theorem o_some (he : DE X Γ W e fe) : DO X Γ W (some e) (oSo fe) := ⟨PO.imp (po_some he.pe) fun σ H Q ⟨w, env, st, R, ev, h⟩ =>
  ⟨w, env, st, R, ev, Post.mid (rep' := Rep Γ) h fun w1 d st1 x H1 g1 R1 r1 h1 => by
    cases d with
    | int i => exact ⟨i, r1.int_inv, Post.at h1 R1 rfl⟩
    | _ => exact h1.elim⟩⟩
def rSlA (K : PySem.W.Frag) : V → Option Int → Option Int → Hp → VK → Prop := fun x lo hi H Q => (rSlL K x lo hi H Q ∨ rSlT K x lo hi H Q) ∨ rSlS x lo hi H Q
theorem SlR.or {X : Cx} {r r' : V → Option Int → Option Int → Hp → VK → Prop} (h : SlR X r) (h' : SlR X r') : SlR X (fun x lo hi H Q => r x lo hi H Q ∨ r' x lo hi H Q) := fun pins s σ H x v vl vu lo hi sl Q I rx hs pl pu q => by
  rcases q with q | q
  · exact h pins s σ H x v vl vu lo hi sl Q I rx hs pl pu q
  · exact h' pins s σ H x v vl vu lo hi sl Q I rx hs pl pu q
theorem sl_all : SlR X (rSlA X.K) := (sl_list.or sl_tup).or sl_str
theorem g_sl {mu : Bool} {d : D} {x : V} {lo hi : Option Int} {E : Value → Option Addr → Hp → Prop} {Q : VK} (R : Rel Γ w st H) (r1 : Rep Γ w d x) (h : Post Γ w H (Rep Γ) E (slD mu d lo hi st) Q) : rSlA Γ.K x lo hi H Q := by
  unfold slD at h
  have seq : ∀ xs, seqOf d st = some xs → isTup d = false → (Post Γ w H (Rep Γ) E (mkL mu (cutD xs lo hi) st) Q) → rSlA Γ.K x lo hi H Q := fun xs hs ht h => by
    have : ∃ p vs, x = .ref p ∧ SqL Γ.K H p vs ∧ RepL Γ w xs vs := by
      unfold seqOf at hs
      cases d with
      | lst es =>
        cases hs
        obtain ⟨p, vs, e, s, r2⟩ := r1.lst_inv
        exact ⟨p, vs, e, .of (R.sub _ _ s), r2⟩
      | tup es => cases ht
      | scr ns =>
        cases hs
        obtain ⟨p, e, s⟩ := r1.scr_inv
        exact ⟨p, _, e, R.sub.seq s, repL_ints ns⟩
      | cell n =>
        obtain ⟨p, e, hn⟩ := r1.cell_inv
        dsimp only at hs
        split at hs
        · rename_i es he
          cases hs
          obtain ⟨vs, e2, r2⟩ := R.reps n _ p he hn
          exact ⟨p, vs, e, .of e2, r2⟩
        · cases hs
      | _ => cases hs
    obtain ⟨p, vs, e, s, q⟩ := this
    exact .inl (.inl ⟨p, vs, e, s, (mkL_ok R (q.cut lo hi) h).2⟩)
  cases d with
  | str z =>
    dsimp only at h
    split at h
    · rename_i hl
      exact .inr ⟨z, r1.str_inv, hl, h.at R .str⟩
    · exact h.elim
  | tup xs =>
    dsimp only at h
    split at h
    · exact h.elim
    · rename_i hn
      obtain ⟨p, vs, rfl, s, q⟩ := r1.tup_inv
      exact .inl (.inr ⟨p, vs, rfl, Same.tup R.sub s, by rw [q.length]; exact hn, mkT_ok R (q.cut lo hi) h⟩)
  | lst xs => exact seq xs rfl rfl h
  | scr ns => exact seq _ rfl rfl h
  | cell n =>
    dsimp only at h
    cases hs : seqOf (.cell n) st with
    | none => rw [hs] at h; exact h.elim
    | some xs => rw [hs] at h; exact seq xs hs rfl h
  | _ => exact h.elim
theorem d_sl {lo hi : Option Expr} {fl fh : FO} {p2 : Pos} (mu : Bool) (hK : X.K = Γ.K) (he : DE X Γ W e fe) (hl : DO X Γ W lo fl) (hh : DO X Γ W hi fh) : DE X Γ W (.Subscript e (.Slice lo hi none p2) pos) (xSl mu fe fl fh) := ⟨PE.imp (pe_slice sl_all he.pe hl.po hh.po) fun σ H Q ⟨w, env, st, R, ev, h⟩ => by
  rw [hK]
  exact ⟨w, env, st, R, ev, Post.mid (rep' := Rep Γ) h fun w1 d st1 x H1 g1 R1 r1 h1 => ⟨w1, env, st1, R1, ev.mono g1.grow, Post.mid (rep' := fun _ (a b : Option Int) => a = b) h1 fun w2 l st2 l' H2 g2 R2 r2 h2 => ⟨w2, env, st2, R2, ev.mono (g1.trans g2).grow,
    Post.mid (rep' := fun _ (a b : Option Int) => a = b) h2 fun w3 u st3 u' H3 g3 R3 r3 h3 => by
      subst r2 r3
      exact g_sl R3 (r1.mono (g2.trans g3).grow) h3⟩⟩⟩⟩

/-! ### calls of built-ins -/
theorem d_callB {id : String} {x : Str} {p : Pos} {r : List V → Hp → VK → Prop} {g : List D → M D} (hc : CallR X (.builtin id) r) (hd : CallD Γ r g) (hg : Gl X x) (hm : X.mg x = none) (hv : bootBuiltins x = some (.builtin id)) (ha : DA X Γ W (e :: es) fr) (hn : x ≠ "__name__" := by decide) (hdb : (x == ("__debug__" : Str)) = false := by decide)
    (he : starEach (e :: es) X.env = (false, eval e X.env) :: starEach es X.env := by rfl) (hpl : (backTo pos (starEach es X.env)).any (·.1) = false := by rfl) : DE X Γ W (.Call (.Name x p) (e :: es) [] pos) (xCB g fr) := ⟨PE.imp (pe_callB hc hg hm hv ha.pa hn hdb he hpl) fun σ H Q ⟨w, env, st, R, ev, h⟩ =>
  ⟨w, env, st, R, ev, Post.mid (rep' := RepL Γ) h fun w1 ds st1 vs H1 g1 R1 r1 h1 => hd w1 st1 H1 ds vs _ Q R1 r1 h1⟩⟩
theorem d_callTy {T : String} {x : Str} {p : Pos} {r : List V → Hp → VK → Prop} {g : List D → M D} (hc : CallR X (.type T) r) (hd : CallD Γ r g) (hg : Gl X x) (hm : X.mg x = none) (hv : bootBuiltins x = some (.type T)) (ha : DA X Γ W (e :: es) fr) (hn : x ≠ "__name__" := by decide) (hdb : (x == ("__debug__" : Str)) = false := by decide)
    (he : starEach (e :: es) X.env = (false, eval e X.env) :: starEach es X.env := by rfl) (hpl : (backTo pos (starEach es X.env)).any (·.1) = false := by rfl) : DE X Γ W (.Call (.Name x p) (e :: es) [] pos) (xCB g fr) := ⟨PE.imp (pe_callTy hc hg hm hv ha.pa hn hdb he hpl) fun σ H Q ⟨w, env, st, R, ev, h⟩ =>
  ⟨w, env, st, R, ev, Post.mid (rep' := RepL Γ) h fun w1 ds st1 vs H1 g1 R1 r1 h1 => hd w1 st1 H1 ds vs _ Q R1 r1 h1⟩⟩
theorem CallR.or {f : Value} {r r' : List V → Hp → VK → Prop} (h : CallR X f r) (h' : CallR X f r') : CallR X f (fun xs H Q => r xs H Q ∨ r' xs H Q) := fun pins s σ H xs us Q I q z => by
  rcases z with z | z
  · exact h pins s σ H xs us Q I q z
  · exact h' pins s σ H xs us Q I q z
def lenD (ds : List D) : M D := fun st => match ds with
  | [.str x] => if x.length ≤ sizeLine then .ok (.int x.length) st else .bad
  | [d] => match seqOf d st with
    | some xs => .ok (.int xs.length) st
    | none => .bad
  | _ => .bad
theorem g_len : CallD Γ (fun xs H Q => ∃ x n, xs = [x] ∧ LenV Γ.K x H n ∧ Q (.int n) H) lenD := fun w st H ds vs E Q R r h => by
  unfold lenD at h
  have seq : ∀ d xs x, Rep Γ w d x → seqOf d st = some xs → (Post Γ w H (Rep Γ) E (.ok (.int xs.length) st) Q) → ∃ n, LenV Γ.K x H n ∧ Q (.int n) H := fun d xs x r1 hs h => by
    obtain ⟨p, us, rfl, s, q⟩ := seq_ok R r1 hs
    refine ⟨us.length, ?_, by rw [q.length]; exact h.at R .int⟩
    rcases s with s | s
    · exact .inl ⟨us, s, rfl⟩
    · exact .inr ⟨us, s, rfl⟩
  split at h
  · rename_i x
    obtain ⟨v, us, rfl, q1, q2⟩ := r.cons_inv
    rw [q1.str_inv, q2.nil_inv]
    split at h
    · rename_i hl
      exact ⟨_, x.length, rfl, ⟨hl, rfl⟩, h.at R .int⟩
    · exact h.elim
  · rename_i d _
    obtain ⟨v, us, rfl, q1, q2⟩ := r.cons_inv
    rw [q2.nil_inv]
    split at h
    · rename_i xs hs
      obtain ⟨n, h1, h2⟩ := seq d xs v q1 hs h
      exact ⟨v, n, rfl, h1, h2⟩
    · exact h.elim
  · exact h.elim
def listD (mu : Bool) (ds : List D) : M D := fun st => match ds with
  | [d] => match seqOf d st with
    | some xs => mkL mu xs st
    | none => .bad
  | _ => .bad
theorem g_list (mu : Bool) : CallD Γ (fun xs H Q => ∃ p ys, xs = [.ref p] ∧ (SqL Γ.K H p ys ∨ SqT Γ.K H p ys) ∧ ∀ l, H l = none → Q (.ref l) (upd H l (.lst ys))) (listD mu) := fun w st H ds vs E Q R r h => by
  unfold listD at h
  split at h
  · rename_i d
    obtain ⟨v, us, rfl, q1, q2⟩ := r.cons_inv
    rw [q2.nil_inv]
    split at h
    · rename_i xs hs
      obtain ⟨p, us, rfl, s, q⟩ := seq_ok R q1 hs
      exact ⟨p, us, rfl, s, (mkL_ok R q h).2⟩
    · exact h.elim
  · exact h.elim
def absD (ds : List D) : M D := fun st => match ds with
  | [.int i] => .ok (.int (if i < 0 then -i else i)) st
  | _ => .bad
theorem g_abs : CallD Γ (fun xs H Q => ∃ i, xs = [.int i] ∧ Q (.int (if i < 0 then -i else i)) H) absD := fun w st H ds vs E Q R r h => by
  unfold absD at h
  split at h
  · obtain ⟨v, us, rfl, q1, q2⟩ := r.cons_inv
    rw [q1.int_inv, q2.nil_inv]
    exact ⟨_, rfl, h.at R .int⟩
  · exact h.elim
def max2D (ds : List D) : M D := fun st => match ds with
  | [.int i, .int j] => .ok (.int (if j > i then j else i)) st
  | _ => .bad
def min2D (ds : List D) : M D := fun st => match ds with
  | [.int i, .int j] => .ok (.int (if j < i then j else i)) st
  | _ => .bad
theorem g_max2 : CallD Γ (fun xs H Q => ∃ i j, xs = [.int i, .int j] ∧ Q (.int (if j > i then j else i)) H) max2D := fun w st H ds vs E Q R r h => by
  unfold max2D at h
  split at h
  · obtain ⟨v, us, rfl, q1, q2⟩ := r.cons_inv
    obtain ⟨u, ts, rfl, q3, q4⟩ := q2.cons_inv
    rw [q1.int_inv, q3.int_inv, q4.nil_inv]
    exact ⟨_, _, rfl, h.at R .int⟩
  · exact h.elim
theorem g_min2 : CallD Γ (fun xs H Q => ∃ i j, xs = [.int i, .int j] ∧ Q (.int (if j < i then j else i)) H) min2D := fun w st H ds vs E Q R r h => by
  unfold min2D at h
  split at h
  · obtain ⟨v, us, rfl, q1, q2⟩ := r.cons_inv
    obtain ⟨u, ts, rfl, q3, q4⟩ := q2.cons_inv
    rw [q1.int_inv, q3.int_inv, q4.nil_inv]
    exact ⟨_, _, rfl, h.at R .int⟩
  · exact h.elim
def blOf : D → Option Bool
  | .bl b => some b
  | _ => none
def blsOf : List D → Option (List Bool)
  | [] => some []
  | d :: ds => match blOf d, blsOf ds with
    | some b, some bs => some (b :: bs)
    | _, _ => none
theorem bls_ok : ∀ {ds : List D} {bs : List Bool} {vs : List V}, RepL Γ w ds vs → blsOf ds = some bs → vs = bs.map V.bl
  | [], _, _, r, h => by
    cases h
    rw [r.nil_inv]
    rfl
  | d :: ds, _, _, r, h => by
    obtain ⟨v, us, rfl, q1, q2⟩ := r.cons_inv
    unfold blsOf at h
    split at h
    · rename_i b bs hb hbs
      cases h
      cases d with
      | bl k =>
        cases hb
        rw [q1.bl_inv, bls_ok q2 hbs]
        rfl
      | _ => cases hb
    · cases h
def allD (ds : List D) : M D := fun st => match ds with
  | [d] => match lstOf d st with
    | some xs => match blsOf xs with
      | some bs => .ok (.bl (bs.all id)) st
      | none => .bad
    | none => .bad
  | _ => .bad
theorem g_all : CallD Γ (rAll Γ.K) allD := fun w st H ds vs E Q R r h => by
  unfold allD at h
  split at h
  · rename_i d
    obtain ⟨v, us, rfl, q1, q2⟩ := r.cons_inv
    rw [q2.nil_inv]
    split at h
    · rename_i xs hs
      split at h
      · rename_i bs hb
        obtain ⟨p, us, rfl, s, q⟩ := lst_ok R q1 hs
        have e := bls_ok q hb
        subst e
        exact ⟨p, bs, rfl, .of s, h.at R .bl⟩
      · exact h.elim
    · exact h.elim
  · exact h.elim
def intD (ds : List D) : M D := fun st => match ds with
  | [.int i] => .ok (.int i) st
  | [.bl k] => .ok (.int (if k then 1 else 0)) st
  | _ => .bad
theorem g_int : CallD Γ (fun xs H Q => (∃ i, xs = [.int i] ∧ Q (.int i) H) ∨ ∃ k, xs = [.bl k] ∧ Q (.int (if k then 1 else 0)) H) intD := fun w st H ds vs E Q R r h => by
  unfold intD at h
  split at h
  · obtain ⟨v, us, rfl, q1, q2⟩ := r.cons_inv
    rw [q1.int_inv, q2.nil_inv]
    exact .inl ⟨_, rfl, h.at R .int⟩
  · obtain ⟨v, us, rfl, q1, q2⟩ := r.cons_inv
    rw [q1.bl_inv, q2.nil_inv]
    exact .inr ⟨_, rfl, h.at R .int⟩
  · exact h.elim
end
end DS

namespace DS
open PySem L2

/-! ### data as the library's -/
mutual
def toPyA (cf : Nat → Option PyData) : D → Option PyData
  | .non => some .none
  | .bl b => some (.bool b)
  | .int i => some (.int i)
  | .str x => some (.str x)
  | .lst ds => (toPyAL cf ds).map .list
  | .tup ds => (toPyAL cf ds).map .tuple
  | .cell n => cf n
  | _ => none
def toPyAL (cf : Nat → Option PyData) : List D → Option (List PyData)
  | [] => some []
  | d :: ds => match toPyA cf d, toPyAL cf ds with
    | some p, some ps => some (p :: ps)
    | _, _ => none
end
def toPy : Nat → Store → D → Option PyData
  | 0, _ => toPyA fun _ => none
  | k + 1, st => toPyA fun n => match st[n]? with
    | some (.lst ds) => (toPyAL (fun m => toPy k st (.cell m)) ds).map .list
    | _ => none
section
variable {Γ : Sig} {w : Wd} {st : Store} {H : Hp}
mutual
theorem toPyA_ok (R : Rel Γ w st H) {cf : Nat → Option PyData} (hcf : ∀ (n : Nat) (p : PyData) (v : V), cf n = some p → Rep Γ w (.cell n) v → Dp Γ.K H v p) : ∀ (d : D) (p : PyData) (v : V), toPyA cf d = some p → Rep Γ w d v → Dp Γ.K H v p
  | .non, _, _, h, r => by
    unfold toPyA at h
    cases h
    rw [r.non_inv]
    exact .non
  | .bl b, _, _, h, r => by
    unfold toPyA at h
    cases h
    rw [r.bl_inv]
    exact .bl b
  | .int i, _, _, h, r => by
    unfold toPyA at h
    cases h
    rw [r.int_inv]
    exact .int i
  | .str x, _, _, h, r => by
    unfold toPyA at h
    cases h
    rw [r.str_inv]
    exact .str x
  | .lst ds, _, _, h, r => by
    unfold toPyA at h
    cases e : toPyAL cf ds with
    | none => rw [e] at h; cases h
    | some ps =>
      rw [e] at h
      cases h
      obtain ⟨a, vs, rfl, s, q⟩ := r.lst_inv
      exact .lst (.of (R.sub _ _ s)) (toPyAL_ok R hcf ds ps vs e q)
  | .tup ds, _, _, h, r => by
    unfold toPyA at h
    cases e : toPyAL cf ds with
    | none => rw [e] at h; cases h
    | some ps =>
      rw [e] at h
      cases h
      obtain ⟨a, vs, rfl, s, q⟩ := r.tup_inv
      exact .tup (Same.tup R.sub s) (toPyAL_ok R hcf ds ps vs e q)
  | .cell n, _, _, h, r => by
    unfold toPyA at h
    exact hcf n _ _ h r
  | .scr _, _, _, h, _ => by unfold toPyA at h; cases h
  | .ins _ _, _, _, h, _ => by unfold toPyA at h; cases h
  | .exn _ _, _, _, h, _ => by unfold toPyA at h; cases h
theorem toPyAL_ok (R : Rel Γ w st H) {cf : Nat → Option PyData} (hcf : ∀ (n : Nat) (p : PyData) (v : V), cf n = some p → Rep Γ w (.cell n) v → Dp Γ.K H v p) : ∀ (ds : List D) (ps : List PyData) (vs : List V), toPyAL cf ds = some ps → RepL Γ w ds vs → DpAll Γ.K H vs ps
  | [], _, _, h, r => by
    unfold toPyAL at h
    cases h
    rw [r.nil_inv]
    exact .nil
  | d :: ds, _, _, h, r => by
    obtain ⟨v, us, rfl, q1, q2⟩ := r.cons_inv
    unfold toPyAL at h
    cases e1 : toPyA cf d with
    | none => rw [e1] at h; cases h
    | some p =>
      cases e2 : toPyAL cf ds with
      | none => rw [e1, e2] at h; cases h
      | some ps =>
        rw [e1, e2] at h
        cases h
        exact .cons (toPyA_ok R hcf d p v e1 q1) (toPyAL_ok R hcf ds ps us e2 q2)
end
theorem toPy_ok (R : Rel Γ w st H) : ∀ (k : Nat) (d : D) (p : PyData) (v : V), toPy k st d = some p → Rep Γ w d v → Dp Γ.K H v p
  | 0, d, p, v, h, r => toPyA_ok R (fun _ _ _ z _ => by cases z) d p v h r
  | k + 1, d, p, v, h, r => toPyA_ok R (fun n p v z r => by
    split at z
    · rename_i ds he
      cases e : toPyAL (fun m => toPy k st (.cell m)) ds with
      | none => rw [e] at z; cases z
      | some ps =>
        rw [e] at z
        cases z
        obtain ⟨a, rfl, hn⟩ := r.cell_inv
        obtain ⟨vs, e2, r2⟩ := R.reps n _ a he hn
        exact .lst (.of e2) (toPyAL_ok R (fun m p v z r => toPy_ok R k (.cell m) p v z r) ds ps vs e r2)
    · cases z) d p v h r
end

/-! ### == and != -/
def eqP (a b : D) (st : Store) : Option Bool := match toPy 3 st a, toPy 3 st b with
  | some p, some q => if SeqAt.shaped p = true ∧ SeqAt.shaped q = true then some (PyData.eqv p q) else none
  | _, _ => none
def eqB (a b : D) (st : Store) : Option Bool := match a, b with
  | .int i, .int j => some (decide (i = j))
  | .str x, .str y => some (decide (x = y))
  | .bl p, .bl q => some (decide (p = q))
  | a, b => match lstOf a st, lstOf b st with
    | some xs, some ys => if (xs.isEmpty || ys.isEmpty) = true then some (xs.isEmpty && ys.isEmpty) else eqP a b st
    | _, _ => eqP a b st
def eqD (a b : D) : M D := fun st => match eqB a b st with
  | some k => .ok (.bl k) st
  | none => .bad
def neD (a b : D) : M D := fun st => match eqB a b st with
  | some k => .ok (.bl (!k)) st
  | none => .bad
def rEqE (K : PySem.W.Frag) (f : Bool → Bool) : R2 := fun x y H Q => ∃ a b xs ys, x = .ref a ∧ y = .ref b ∧ SqL K H a xs ∧ SqL K H b ys ∧ (xs = [] ∨ ys = []) ∧ Q (.bl (f (xs.isEmpty && ys.isEmpty))) H
section
variable {X : Cx} {Γ : Sig} {W : WX} {w : Wd} {st : Store} {H : Hp}
theorem all_zero (e : Nat → Bool) {n : Nat} (h : n = 0) : (List.range n).all e = true := by subst h; rfl
theorem o_eqE (hu : X.A.units + 64 < cLine) : OpR X (compareOp .Eq) (rEqE X.K id) := fun pins s σ H x y v u Q I rx ry h => by
  obtain ⟨a, b, xs, ys, rfl, rfl, ha, hb, he, q⟩ := h
  cases rx
  cases ry
  obtain ⟨its, rv, pl, _⟩ := I.list ha
  obtain ⟨jts, rw', pm, _⟩ := I.list hb
  have l1 := rv.length
  have l2 := rw'.length
  by_cases hl : its.toArray.size = jts.toArray.size
  · have z : its.toArray.size = 0 := by
      simp only [List.size_toArray] at hl ⊢
      rcases he with he | he
      · rw [he] at l1; simpa using l1.symm
      · rw [he] at l2; rw [hl]; simpa using l2.symm
    refine SeqAt.RcAt.lists (e := fun _ => true) pl.isList pm.isList hl (by omega) (fun j h1 _ => by omega) _ _ _ _ ?_
    rw [all_zero _ z]
    have e1 : xs = [] := List.length_eq_zero_iff.mp (by rw [l1]; simpa using z)
    have e2 : ys = [] := List.length_eq_zero_iff.mp (by simp only [List.size_toArray] at hl z; omega)
    subst e1 e2
    exact ⟨.bl true, H, I, rfl, q⟩
  · refine SeqAt.RcAt.lists_lengths pl.isList pm.isList (by simpa using hl) (by omega) _ _ _ _ ?_
    have e : (xs.isEmpty && ys.isEmpty) = false := by
      cases xs with
      | nil =>
        cases ys with
        | nil =>
          exfalso
          apply hl
          simp only [List.size_toArray]
          rw [← l1, ← l2]
        | cons _ _ => rfl
      | cons _ _ => rfl
    rw [e] at q
    exact ⟨.bl false, H, I, rfl, q⟩
theorem o_neE (hu : X.A.units + 64 < cLine) : OpR X (compareOp .NotEq) (rEqE X.K not) := fun pins s σ H x y v u Q I rx ry h => by
  obtain ⟨a, b, xs, ys, rfl, rfl, ha, hb, he, q⟩ := h
  cases rx
  cases ry
  obtain ⟨its, rv, pl, _⟩ := I.list ha
  obtain ⟨jts, rw', pm, _⟩ := I.list hb
  have l1 := rv.length
  have l2 := rw'.length
  by_cases hl : its.toArray.size = jts.toArray.size
  · have z : its.toArray.size = 0 := by
      simp only [List.size_toArray] at hl ⊢
      rcases he with he | he
      · rw [he] at l1; simpa using l1.symm
      · rw [he] at l2; rw [hl]; simpa using l2.symm
    refine SeqAt.RcNeAt.lists (e := fun _ => true) pl.isList pm.isList hl (by omega) (fun j h1 _ => by omega) _ _ _ _ ?_
    rw [all_zero _ z]
    have e1 : xs = [] := List.length_eq_zero_iff.mp (by rw [l1]; simpa using z)
    have e2 : ys = [] := List.length_eq_zero_iff.mp (by simp only [List.size_toArray] at hl z; omega)
    subst e1 e2
    exact ⟨.bl false, H, I, rfl, q⟩
  · refine SeqAt.RcNeAt.lists_lengths pl.isList pm.isList (by simpa using hl) (by omega) _ _ _ _ ?_
    have e : (xs.isEmpty && ys.isEmpty) = false := by
      cases xs with
      | nil =>
        cases ys with
        | nil =>
          exfalso
          apply hl
          simp only [List.size_toArray]
          rw [← l1, ← l2]
        | cons _ _ => rfl
      | cons _ _ => rfl
    rw [e] at q
    exact ⟨.bl true, H, I, rfl, q⟩
def rEqA (K : PySem.W.Frag) : R2 := fun x y H Q => (rEq x y H Q ∨ rEqD K x y H Q) ∨ rEqE K id x y H Q
def rNeA (K : PySem.W.Frag) : R2 := fun x y H Q => (rNe x y H Q ∨ rNeD K x y H Q) ∨ rEqE K not x y H Q
theorem o_eq (hu : X.A.units + 64 < cLine) : OpR X (compareOp .Eq) (rEqA X.K) := (op_eq.or (op_eqD hu)).or (o_eqE hu)
theorem o_ne (hu : X.A.units + 64 < cLine) : OpR X (compareOp .NotEq) (rNeA X.K) := (op_ne.or (op_neD hu)).or (o_neE hu)
/-- the ways of a comparison -/
theorem eqB_ok {a b : D} {x y : V} {k : Bool} (R : Rel Γ w st H) (r1 : Rep Γ w a x) (r2 : Rep Γ w b y) (h : eqB a b st = some k) :
    (scal x y = true ∧ k = decide (x = y)) ∨ (∃ p q, Dp Γ.K H x p ∧ Dp Γ.K H y q ∧ SeqAt.shaped p = true ∧ SeqAt.shaped q = true ∧ k = PyData.eqv p q) ∨
    (∃ a b xs ys, x = .ref a ∧ y = .ref b ∧ SqL Γ.K H a xs ∧ SqL Γ.K H b ys ∧ (xs = [] ∨ ys = []) ∧ k = (xs.isEmpty && ys.isEmpty)) := by
  unfold eqB at h
  split at h
  · cases h
    rw [r1.int_inv, r2.int_inv]
    exact .inl ⟨rfl, by simp⟩
  · cases h
    rw [r1.str_inv, r2.str_inv]
    exact .inl ⟨rfl, by simp⟩
  · cases h
    rw [r1.bl_inv, r2.bl_inv]
    exact .inl ⟨rfl, by simp⟩
  · have gen : eqP a b st = some k → (scal x y = true ∧ k = decide (x = y)) ∨ (∃ p q, Dp Γ.K H x p ∧ Dp Γ.K H y q ∧ SeqAt.shaped p = true ∧ SeqAt.shaped q = true ∧ k = PyData.eqv p q) ∨
        (∃ a b xs ys, x = .ref a ∧ y = .ref b ∧ SqL Γ.K H a xs ∧ SqL Γ.K H b ys ∧ (xs = [] ∨ ys = []) ∧ k = (xs.isEmpty && ys.isEmpty)) := fun h => by
      unfold eqP at h
      split at h
      · rename_i p q e1 e2
        split at h
        · rename_i hs
          cases h
          exact .inr (.inl ⟨p, q, toPy_ok R _ _ _ _ e1 r1, toPy_ok R _ _ _ _ e2 r2, hs.1, hs.2, rfl⟩)
        · cases h
      · cases h
    split at h
    · rename_i xs ys e1 e2
      split at h
      · rename_i hz
        obtain ⟨p, vs, rfl, s1, q1⟩ := lst_ok R r1 e1
        obtain ⟨q, us, rfl, s2, q2⟩ := lst_ok R r2 e2
        have l1 : vs.isEmpty = xs.isEmpty := by
          have := q1.length
          cases vs <;> cases xs <;> simp_all
        have l2 : us.isEmpty = ys.isEmpty := by
          have := q2.length
          cases us <;> cases ys <;> simp_all
        cases h
        rw [← l1, ← l2] at hz
        refine .inr (.inr ⟨p, q, vs, us, rfl, rfl, .of s1, .of s2, ?_, by rw [l1, l2]⟩)
        rcases Bool.or_eq_true_iff.mp hz with z | z
        · exact .inl (List.isEmpty_iff.mp z)
        · exact .inr (List.isEmpty_iff.mp z)
      · exact gen h
    · exact gen h
theorem g_eq : OpD Γ (rEqA Γ.K) eqD := fun w st H d e x y E Q R r1 r2 h => by
  unfold eqD at h
  split at h
  · rename_i k hk
    rcases eqB_ok R r1 r2 hk with ⟨s, rfl⟩ | ⟨p, q, h1, h2, s1, s2, rfl⟩ | ⟨a, b, xs, ys, e1, e2, h1, h2, hx, rfl⟩
    · exact .inl (.inl ⟨s, h.at R .bl⟩)
    · exact .inl (.inr ⟨p, q, h1, h2, s1, s2, h.at R .bl⟩)
    · exact .inr ⟨a, b, xs, ys, e1, e2, h1, h2, hx, h.at R .bl⟩
  · exact h.elim
theorem g_ne : OpD Γ (rNeA Γ.K) neD := fun w st H d e x y E Q R r1 r2 h => by
  unfold neD at h
  split at h
  · rename_i k hk
    rcases eqB_ok R r1 r2 hk with ⟨s, rfl⟩ | ⟨p, q, h1, h2, s1, s2, rfl⟩ | ⟨a, b, xs, ys, e1, e2, h1, h2, hx, rfl⟩
    · exact .inl (.inl ⟨s, h.at R .bl⟩)
    · exact .inl (.inr ⟨p, q, h1, h2, s1, s2, h.at R .bl⟩)
    · exact .inr ⟨a, b, xs, ys, e1, e2, h1, h2, hx, h.at R .bl⟩
  · exact h.elim
/-! ### in, is -/
def fltV : D → Option V
  | .non => some .non
  | .bl b => some (.bl b)
  | .int i => some (.int i)
  | .str x => some (.str x)
  | _ => none
def fltVs : List D → Option (List V)
  | [] => some []
  | d :: ds => match fltV d, fltVs ds with
    | some v, some vs => some (v :: vs)
    | _, _ => none
theorem fltV_ok {d : D} {v x : V} (r : Rep Γ w d x) (h : fltV d = some v) : x = v ∧ flatV v = true := by
  cases d with
  | non => cases h; exact ⟨r.non_inv, rfl⟩
  | bl _ => cases h; exact ⟨r.bl_inv, rfl⟩
  | int _ => cases h; exact ⟨r.int_inv, rfl⟩
  | str _ => cases h; exact ⟨r.str_inv, rfl⟩
  | _ => cases h
theorem fltVs_ok : ∀ {ds : List D} {vs xs : List V}, RepL Γ w ds xs → fltVs ds = some vs → xs = vs ∧ vs.all flatV = true
  | [], _, _, r, h => by
    cases h
    exact ⟨r.nil_inv, rfl⟩
  | d :: ds, _, _, r, h => by
    obtain ⟨v, us, rfl, q1, q2⟩ := r.cons_inv
    unfold fltVs at h
    split at h
    · rename_i b bs hb hbs
      cases h
      obtain ⟨rfl, f1⟩ := fltV_ok q1 hb
      obtain ⟨rfl, f2⟩ := fltVs_ok q2 hbs
      exact ⟨rfl, by rw [List.all_cons, f1, f2]; rfl⟩
    · cases h
def inD (neg : Bool) (a b : D) : M D := fun st => match fltV a, seqOf b st with
  | some x, some ys => match fltVs ys with
    | some vs => .ok (.bl (if neg then !inV x vs else inV x vs)) st
    | none => .bad
  | _, _ => .bad
theorem g_in (neg : Bool) : OpD Γ (rIn Γ.K neg) (inD neg) := fun w st H d e x y E Q R r1 r2 h => by
  unfold inD at h
  split at h
  · rename_i x' ys e1 e2
    split at h
    · rename_i vs e3
      obtain ⟨rfl, f1⟩ := fltV_ok r1 e1
      obtain ⟨p, us, rfl, s, q⟩ := seq_ok R r2 e2
      obtain ⟨rfl, f2⟩ := fltVs_ok q e3
      exact ⟨p, us, rfl, s, f1, f2, h.at R .bl⟩
    · exact h.elim
  · exact h.elim
def isNB : D → Option Bool
  | .non => some true
  | _ => some false
def isND2 (a b : D) : M D := fun st => match b with
  | .non => match a with
    | .non => .ok (.bl true) st
    | _ => .ok (.bl false) st
  | _ => .bad
def notND2 (a b : D) : M D := fun st => match b with
  | .non => match a with
    | .non => .ok (.bl false) st
    | _ => .ok (.bl true) st
  | _ => .bad
theorem g_isN : OpD Γ (fun x y H Q => y = .non ∧ Q (.bl (decide (x = .non))) H) isND2 := fun w st H d e x y E Q R r1 r2 h => by
  unfold isND2 at h
  cases e with
  | non =>
    refine ⟨r2.non_inv, ?_⟩
    by_cases hd : d = .non
    · subst hd
      rw [r1.non_inv]
      exact h.at R .bl
    · have : decide (x = V.non) = false := decide_eq_false (rep_ne r1 hd)
      rw [this]
      cases d with
      | non => exact (hd rfl).elim
      | _ => exact h.at R .bl
  | _ => exact h.elim
theorem g_notN : OpD Γ (fun x y H Q => y = .non ∧ Q (.bl (!decide (x = .non))) H) notND2 := fun w st H d e x y E Q R r1 r2 h => by
  unfold notND2 at h
  cases e with
  | non =>
    refine ⟨r2.non_inv, ?_⟩
    by_cases hd : d = .non
    · subst hd
      rw [r1.non_inv]
      exact h.at R .bl
    · have : decide (x = V.non) = false := decide_eq_false (rep_ne r1 hd)
      rw [this]
      cases d with
      | non => exact (hd rfl).elim
      | _ => exact h.at R .bl
  | _ => exact h.elim
end
end DS

namespace DS
open PySem L2

/-! ### lists that change -/
def isLst (d : D) (st : Store) : Bool := (lstOf d st).isSome
def isStr (d : D) (_ : Store) : Bool := match d with
  | .str _ => true
  | _ => false
def xBMt (ty : D → Store → Bool) (g : D → List D → M D) (o : FE) (f : DEnv → M (List D)) : FE := fun env st => (o env st).bind fun d s1 => if ty d s1 = true then (f env s1).bind fun ds s2 => g d ds s2 else .bad
def MtD (Γ : Sig) (r : V → List V → Hp → VK → Prop) (g : D → List D → M D) : Prop := ∀ (w : Wd) (st : Store) (H : Hp) (d : D) (ds : List D) (x : V) (vs : List V) (E : Value → Option Addr → Hp → Prop) (Q : VK), Rel Γ w st H → Rep Γ w d x → RepL Γ w ds vs → Post Γ w H (Rep Γ) E (g d ds st) Q → r x vs H Q
/-- the list in the n-th thing of the store, changed -/
def putL (n : Nat) (ds : List D) (a : D) : M D := fun st => .ok a (st.set n (.lst ds))
def appendD (d : D) (ds : List D) : M D := fun st => match d, ds with
  | .cell n, [y] => match st[n]? with
    | some (.lst xs) => if xs.length < sizeLine then putL n (xs ++ [y]) .non st else .bad
    | _ => .bad
  | _, _ => .bad
def popD (d : D) (ds : List D) : M D := fun st => match d, ds with
  | .cell n, [] => match st[n]? with
    | some (.lst xs) => match xs[xs.length - 1]? with
      | some y => putL n xs.dropLast y st
      | none => .bad
    | _ => .bad
  | _, _ => .bad
def popAtD (d : D) (ds : List D) : M D := fun st => match d, ds with
  | .cell n, [.int i] => match st[n]? with
    | some (.lst xs) => if -(2 ^ 63) ≤ i ∧ i < 2 ^ 63 then (match seqIndex? i xs.length with
      | some k => match xs[k]? with
        | some y => putL n (xs.eraseIdx k) y st
        | none => .bad
      | none => .bad) else .bad
    | _ => .bad
  | _, _ => .bad
def reverseD (d : D) (ds : List D) : M D := fun st => match d, ds with
  | .cell n, [] => match st[n]? with
    | some (.lst xs) => putL n xs.reverse .non st
    | _ => .bad
  | _, _ => .bad
def clearD (d : D) (ds : List D) : M D := fun st => match d, ds with
  | .cell n, [] => match st[n]? with
    | some (.lst xs) => putL n [] .non st
    | _ => .bad
  | _, _ => .bad
/-- xs[i] = e: the value, the list, the place -/
def sSetI (o i e : FE) : FS := fun env st => (e env st).to env fun y s1 => (o env s1).to env fun d s2 => (i env s2).to env fun k s3 => match d, k with
  | .cell n, .int j => match s3[n]? with
    | some (.lst xs) => match ixN xs.length j with
      | some m => .nx env (s3.set n (.lst (xs.set m y)))
      | none => .bad
    | _ => .bad
  | _, _ => .bad
/-! ### attributes -/
def fieldsOf (d : D) (st : Store) : Option (Nat × List D) := match d with
  | .ins c ds => some (c, ds)
  | .cell n => match st[n]? with
    | some (.obj c ds) => some (c, ds)
    | _ => none
  | _ => none
def xFld (cs : List Nat) (i : Nat) (o : FE) : FE := fun env st => (o env st).bind fun d s1 => match fieldsOf d s1 with
  | some (c, ds) => if c ∈ cs then (match ds[i]? with
    | some y => .ok y s1
    | none => .bad) else .bad
  | none => .bad
/-- a field stored: in its place, or behind the last one -/
def setF (ds : List D) (i : Nat) (y : D) : Option (List D) := if i < ds.length then some (ds.set i y) else if i = ds.length then some (ds ++ [y]) else none
def sFldSet (cs : List Nat) (i : Nat) (o e : FE) : FS := fun env st => (e env st).to env fun y s1 => (o env s1).to env fun d s2 => match d with
  | .cell n => match s2[n]? with
    | some (.obj c ds) => if c ∈ cs then (match setF ds i y with
      | some ds' => .nx env (s2.set n (.obj c ds'))
      | none => .bad) else .bad
    | _ => .bad
  | _ => .bad
def FldOk (Γ : Sig) (cs : List Nat) (i : Nat) (f : Str) : Prop := ∀ c ∈ cs, (Γ.fld c)[i]? = some f ∧ (Γ.fld c).Nodup ∧ (Γ.fld c).length < 1000 ∧ Cls Γ.K (Γ.cls c) ∧ NoAttr Γ.K (Γ.cls c) f

section
variable {X : Cx} {Γ : Sig} {W : WX} {w : Wd} {st : Store} {H : Hp} {o i e v : Expr} {es : List Expr} {fo fi fe fv : FE} {fr : DEnv → M (List D)} {pos apos cpos pos' : Pos} {name : Str}
theorem putL_ok {n : Nat} {a : Addr} {o : O} {ds : List D} {vs : List V} {y : D} {yv : V} {E : Value → Option Addr → Hp → Prop} {Q : VK} (R : Rel Γ w st H) (ha : w.ι[n]? = some a) (ho : st[n]? = some o) (lo : liveO o) (r : RepL Γ w ds vs) (ry : Rep Γ w y yv)
    (h : Post Γ w H (Rep Γ) E (putL n ds y st) Q) : Q yv (upd H a (.lst vs)) := h w yv _ (R.putStep ha) (R.put ho lo ha ⟨vs, upd_same, r⟩) ry
theorem cellL {n : Nat} {x : V} {xs : List D} (R : Rel Γ w st H) (r : Rep Γ w (.cell n) x) (h : st[n]? = some (.lst xs)) : ∃ a vs, x = .ref a ∧ w.ι[n]? = some a ∧ H a = some (.lst vs) ∧ RepL Γ w xs vs := by
  obtain ⟨a, rfl, hn⟩ := r.cell_inv
  obtain ⟨vs, e2, r2⟩ := R.reps n _ a h hn
  exact ⟨a, vs, rfl, hn, e2, r2⟩
theorem m_append : MtD Γ rAppend appendD := fun w st H d ds x vs E Q R r rs h => by
  unfold appendD at h
  split at h
  · split at h
    · rename_i n y _ xs hx
      split at h
      · rename_i hl
        obtain ⟨a, us, rfl, hn, e2, r2⟩ := cellL R r hx
        obtain ⟨v, ts, rfl, q1, q2⟩ := rs.cons_inv
        rw [q2.nil_inv]
        exact ⟨a, us, v, rfl, rfl, e2, by rw [r2.length]; exact hl, putL_ok R hn hx trivial (r2.append (.cons q1 .nil)) .non h⟩
      · exact h.elim
    · exact h.elim
  · exact h.elim
theorem dropLast_ok {ds : List D} {vs : List V} (r : RepL Γ w ds vs) : RepL Γ w ds.dropLast vs.dropLast := by
  rw [List.dropLast_eq_take, List.dropLast_eq_take, r.length]
  exact r.take _
theorem m_pop : MtD Γ rPop popD := fun w st H d ds x vs E Q R r rs h => by
  unfold popD at h
  split at h
  · split at h
    · rename_i n _ xs hx
      split at h
      · rename_i y hy
        obtain ⟨a, us, rfl, hn, e2, r2⟩ := cellL R r hx
        rw [rs.nil_inv]
        obtain ⟨v, hv, rv⟩ := r2.get hy
        exact ⟨a, us, v, rfl, rfl, e2, by rw [r2.length]; exact hv, putL_ok R hn hx trivial (dropLast_ok r2) rv h⟩
      · exact h.elim
    · exact h.elim
  · exact h.elim
theorem erase_ok {ds : List D} {vs : List V} (r : RepL Γ w ds vs) (k : Nat) : RepL Γ w (ds.eraseIdx k) (vs.eraseIdx k) := by
  rw [List.eraseIdx_eq_take_drop_succ, List.eraseIdx_eq_take_drop_succ]
  exact (r.take _).append (r.drop _)
theorem m_popAt : MtD Γ rPopAt popAtD := fun w st H d ds x vs E Q R r rs h => by
  unfold popAtD at h
  split at h
  · split at h
    · rename_i n i _ xs hx
      split at h
      · rename_i hb
        split at h
        · rename_i k hk
          split at h
          · rename_i y hy
            obtain ⟨a, us, rfl, hn, e2, r2⟩ := cellL R r hx
            obtain ⟨v, ts, rfl, q1, q2⟩ := rs.cons_inv
            rw [q1.int_inv, q2.nil_inv]
            obtain ⟨v, hv, rv⟩ := r2.get hy
            exact ⟨a, us, i, k, v, rfl, rfl, e2, hb.1, hb.2, by rw [r2.length]; exact hk, hv, putL_ok R hn hx trivial (erase_ok r2 k) rv h⟩
          · exact h.elim
        · exact h.elim
      · exact h.elim
    · exact h.elim
  · exact h.elim
theorem reverse_ok : ∀ {ds : List D} {vs : List V}, RepL Γ w ds vs → RepL Γ w ds.reverse vs.reverse
  | [], _, r => by rw [r.nil_inv]; exact .nil
  | d :: ds, _, r => by
    obtain ⟨v, us, rfl, q1, q2⟩ := r.cons_inv
    rw [List.reverse_cons, List.reverse_cons]
    exact (reverse_ok q2).append (.cons q1 .nil)
theorem m_reverse : MtD Γ rReverse reverseD := fun w st H d ds x vs E Q R r rs h => by
  unfold reverseD at h
  split at h
  · split at h
    · rename_i n _ xs hx
      obtain ⟨a, us, rfl, hn, e2, r2⟩ := cellL R r hx
      rw [rs.nil_inv]
      exact ⟨a, us, rfl, rfl, e2, putL_ok R hn hx trivial (reverse_ok r2) .non h⟩
    · exact h.elim
  · exact h.elim
theorem m_clear : MtD Γ rClear clearD := fun w st H d ds x vs E Q R r rs h => by
  unfold clearD at h
  split at h
  · split at h
    · rename_i n _ xs hx
      obtain ⟨a, us, rfl, hn, e2, r2⟩ := cellL R r hx
      rw [rs.nil_inv]
      exact ⟨a, us, rfl, rfl, e2, putL_ok R hn hx trivial .nil .non h⟩
    · exact h.elim
  · exact h.elim
theorem ty_lst {d : D} {x : V} (R : Rel Γ w st H) (r : Rep Γ w d x) (h : isLst d st = true) : tyV Γ.K "list" x H := by
  unfold isLst at h
  cases e : lstOf d st with
  | none => rw [e] at h; cases h
  | some xs =>
    obtain ⟨p, vs, rfl, s, _⟩ := lst_ok R r e
    exact .inl ⟨rfl, vs, .of s⟩
theorem ty_str {d : D} {x : V} (r : Rep Γ w d x) (h : isStr d st = true) : tyV Γ.K "str" x H := by
  cases d with
  | str z => rw [r.str_inv]; rfl
  | _ => cases h
theorem d_bm {T id : String} {r : V → List V → Hp → VK → Prop} {g : D → List D → M D} {ty : D → Store → Bool} (hK : X.K = Γ.K) (hty' : ∀ (w : Wd) (st : Store) (H : Hp) (d : D) (x : V), Rel Γ w st H → Rep Γ w d x → ty d st = true → tyV Γ.K T x H) (pa : PlainAttrs T) (slot : Slot T name id) (hty : typeOf (.builtin id) = pure (.type "method_descriptor")) (hm : MtR X id r) (hd : MtD Γ r g) (ho : DE X Γ W o fo) (ha : DA X Γ W (e :: es) fr)
    (hbase : attributeBase o name X.env (eval o X.env) = eval o X.env := by rfl)
    (hfew : ((backTo cpos (starEach (e :: es) X.env)).all (fun x => !x.1) && (backToKw cpos (keywordEach [] X.env)).all (fun x => x.1.isSome) && decide ((e :: es).length + ([] : List Keyword).length + (if ([] : List Keyword).isEmpty then 0 else 1) < 30)) = true := by rfl)
    (hline : (apos.endLine == cpos.line) = true := by rfl) (hs : starEach (e :: es) X.env = (false, eval e X.env) :: starEach es X.env := by rfl) (hplain : (backTo cpos (starEach es X.env)).any (·.1) = false := by rfl) :
    DE X Γ W (.Call (.Attribute o name apos) (e :: es) [] cpos) (xBMt ty g fo fr) := ⟨PE.imp (pe_bm pa slot hty hm ho.pe ha.pa hbase hfew hline hs hplain) fun σ H Q ⟨w, env, st, R, ev, h⟩ => by
  rw [hK]
  exact ⟨w, env, st, R, ev, Post.mid (rep' := Rep Γ) h fun w1 d st1 x H1 g1 R1 r1 h1 => by
    split at h1
    · rename_i ht
      exact ⟨hty' w1 st1 H1 d x R1 r1 ht, w1, env, st1, R1, ev.mono g1.grow, Post.mid (rep' := RepL Γ) h1 fun w2 ds st2 xs H2 g2 R2 r2 h2 => hd w2 st2 H2 d ds x xs _ Q R2 (r1.mono g2.grow) r2 h2⟩
    · exact h1.elim⟩⟩
theorem d_bm0 {T id : String} {r : V → List V → Hp → VK → Prop} {g : D → List D → M D} {ty : D → Store → Bool} (hK : X.K = Γ.K) (hty' : ∀ (w : Wd) (st : Store) (H : Hp) (d : D) (x : V), Rel Γ w st H → Rep Γ w d x → ty d st = true → tyV Γ.K T x H) (pa : PlainAttrs T) (slot : Slot T name id) (hty : typeOf (.builtin id) = pure (.type "method_descriptor")) (hm : MtR X id r) (hd : MtD Γ r g) (ho : DE X Γ W o fo)
    (hbase : attributeBase o name X.env (eval o X.env) = eval o X.env := by rfl) (hline : (apos.endLine == cpos.line) = true := by rfl) : DE X Γ W (.Call (.Attribute o name apos) [] [] cpos) (xBMt ty g fo aNil) := ⟨PE.imp (pe_bm0 pa slot hty hm ho.pe hbase hline) fun σ H Q ⟨w, env, st, R, ev, h⟩ => by
  rw [hK]
  exact ⟨w, env, st, R, ev, Post.mid (rep' := Rep Γ) h fun w1 d st1 x H1 g1 R1 r1 h1 => by
    split at h1
    · rename_i ht
      exact ⟨hty' w1 st1 H1 d x R1 r1 ht, hd w1 st1 H1 d [] x [] _ Q R1 r1 .nil h1⟩
    · exact h1.elim⟩⟩
theorem s_setI (he : DE X Γ W e fe) (ho : DE X Γ W o fo) (hi : DE X Γ W i fi) (hp : PG X (.Subscript o i pos') (gSub (tE Γ W fo) (tE Γ W fi) rSetL)) (hs : swapsWithSole [.Subscript o i pos'] e pos.line X.env = pure false := by rfl) (hw : swappedStores [.Subscript o i pos'] e X.env = pure none := by rfl)
    (h1 : (assignEach [.Subscript o i pos'] X.env).map (·.2) = [assign (.Subscript o i pos') X.env] := by rfl) : DS X Γ W (.Assign [.Subscript o i pos'] e pos) (sSetI fo fi fe) := ⟨PS.imp (ps_asg he.pe hp hs hw h1) fun N σ H ⟨w, env, st, R, ev, h⟩ =>
  ⟨w, env, st, R, ev, PostS.mid (rep := Rep Γ) ev h fun w1 y st1 yv H1 s1 R1 ry h1 =>
    ⟨w1, env, st1, R1, ev.mono s1.grow, PostS.mid (rep := Rep Γ) (ev.mono s1.grow) h1 fun w2 d st2 x H2 s2 R2 rd h2 =>
      ⟨w2, env, st2, R2, ev.mono (s1.trans s2).grow, PostS.mid (rep := Rep Γ) (ev.mono (s1.trans s2).grow) h2 fun w3 k st3 kv H3 s3 R3 rk h3 => by
        split at h3
        · rename_i n j
          split at h3
          · rename_i xs hx
            split at h3
            · rename_i m hm
              obtain ⟨a, us, rfl, hn, e2, r2⟩ := cellL R3 (rd.mono s3.grow) hx
              refine ⟨a, us, j, m, rfl, rk.int_inv, e2, by rw [r2.length]; exact hm, ?_⟩
              exact h3 w3 σ _ (R3.putStep hn) (R3.put hx trivial hn ⟨_, upd_same, r2.set (ry.mono (s2.trans s3).grow) m⟩) (ev.mono ((s1.trans s2).trans s3).grow)
            · exact h3.elim
          · exact h3.elim
        · exact h3.elim⟩⟩⟩⟩

theorem lookup_zip : ∀ {ks : List Str} {vs : List V} {i : Nat} {f : Str} {v : V}, ks.Nodup → ks[i]? = some f → vs[i]? = some v → (ks.zip vs).lookup f = some v
  | [], _, _, _, _, _, h, _ => by simp at h
  | _ :: _, [], _, _, _, _, _, h => by simp at h
  | k :: ks, u :: vs, 0, f, v, _, h1, h2 => by
    simp at h1 h2
    subst h1 h2
    simp [List.lookup]
  | k :: ks, u :: vs, i + 1, f, v, hn, h1, h2 => by
    have hn' := List.nodup_cons.mp hn
    have hf : f ∈ ks := List.mem_of_getElem? (by simpa using h1)
    have ne : (f == k) = false := beq_eq_false_iff_ne.mpr fun e => hn'.1 (e ▸ hf)
    rw [List.zip_cons_cons]
    simp only [List.lookup, ne]
    exact lookup_zip hn'.2 (by simpa using h1) (by simpa using h2)
theorem putF_zip_set : ∀ {ks : List Str} {vs : List V} {i : Nat} {f : Str} {v : V}, ks.Nodup → ks[i]? = some f → i < vs.length → putF f v (ks.zip vs) = ks.zip (vs.set i v)
  | [], _, _, _, _, _, h, _ => by simp at h
  | _ :: _, [], _, _, _, _, _, h => by simp at h
  | k :: ks, u :: vs, 0, f, v, _, h1, h2 => by
    simp at h1
    subst h1
    simp [putF]
  | k :: ks, u :: vs, i + 1, f, v, hn, h1, h2 => by
    have hn' := List.nodup_cons.mp hn
    have hf : f ∈ ks := List.mem_of_getElem? (by simpa using h1)
    have ne : ¬ k = f := fun e => hn'.1 (e ▸ hf)
    rw [List.zip_cons_cons]
    unfold putF
    rw [if_neg ne, putF_zip_set hn'.2 (by simpa using h1) (by simpa using h2)]
    simp
theorem putF_zip_app : ∀ {ks : List Str} {vs : List V} {f : Str} {v : V}, ks.Nodup → ks[vs.length]? = some f → putF f v (ks.zip vs) = ks.zip (vs ++ [v])
  | [], _, _, _, _, h => by simp at h
  | k :: ks, [], f, v, _, h1 => by
    simp at h1
    subst h1
    simp [putF]
  | k :: ks, u :: vs, f, v, hn, h1 => by
    have hn' := List.nodup_cons.mp hn
    have hf : f ∈ ks := List.mem_of_getElem? (i := vs.length) (by simpa using h1)
    have ne : ¬ k = f := fun e => hn'.1 (e ▸ hf)
    rw [List.zip_cons_cons]
    unfold putF
    rw [if_neg ne, putF_zip_app hn'.2 (by simpa using h1)]
    simp
theorem fields_ok {d : D} {x : V} {c : Nat} {ds : List D} (R : Rel Γ w st H) (r : Rep Γ w d x) (h : fieldsOf d st = some (c, ds)) : ∃ a dx vs, x = .ref a ∧ H a = some (.ins (Γ.cls c) dx ((Γ.fld c).zip vs)) ∧ RepL Γ w ds vs := by
  unfold fieldsOf at h
  cases d with
  | ins c' ds' =>
    cases h
    obtain ⟨a, dx, vs, rfl, s, q, _⟩ := r.ins_inv
    exact ⟨a, dx, vs, rfl, R.sub _ _ s, q⟩
  | cell n =>
    obtain ⟨a, rfl, hn⟩ := r.cell_inv
    dsimp only at h
    split at h
    · rename_i c' ds' he
      cases h
      obtain ⟨dx, vs, e2, r2, _⟩ := R.reps n _ a he hn
      exact ⟨a, dx, vs, rfl, e2, r2⟩
    · cases h
  | _ => cases h
theorem d_fld {cs : List Nat} {k : Nat} {f : Str} (hK : X.K = Γ.K) (hf : FldOk Γ cs k f) (ho : DE X Γ W o fo) (hb : attributeBase o f X.env (eval o X.env) = eval o X.env := by rfl) : DE X Γ W (.Attribute o f pos) (xFld cs k fo) := ⟨PE.imp (pe_fld ho.pe hb) fun σ H Q ⟨w, env, st, R, ev, h⟩ => by
  rw [hK]
  exact ⟨w, env, st, R, ev, Post.mid (rep' := Rep Γ) h fun w1 d st1 x H1 g1 R1 r1 h1 => by
    split at h1
    · rename_i c ds hd
      split at h1
      · rename_i hc
        split at h1
        · rename_i y hy
          obtain ⟨a, dx, vs, rfl, s, q⟩ := fields_ok R1 r1 hd
          obtain ⟨f1, f2, _, f3, f4⟩ := hf c hc
          obtain ⟨v, hv, rv⟩ := q.get hy
          exact ⟨a, _, dx, _, v, rfl, s, f3, f4, lookup_zip f2 f1 hv, Post.at h1 R1 rv⟩
        · exact h1.elim
      · exact h1.elim
    · exact h1.elim⟩⟩
theorem zip_len (ks : List Str) (vs : List V) : (ks.zip vs).length ≤ ks.length := by rw [List.length_zip]; omega
theorem s_fld {cs : List Nat} {k : Nat} {f : Str} (hK : X.K = Γ.K) (hf : FldOk Γ cs k f) (ho : DE X Γ W o fo) (hv : DE X Γ W v fv) (hs : swapsWith v (some (.Attribute o f pos')) pos.line X.env = pure false := by rfl) : DS X Γ W (.Assign [.Attribute o f pos'] v pos) (sFldSet cs k fo fv) := ⟨PS.imp (ps_fld ho.pe hv.pe hs) fun N σ H ⟨w, env, st, R, ev, h⟩ => by
  rw [hK]
  exact ⟨w, env, st, R, ev, PostS.mid (rep := Rep Γ) ev h fun w1 y st1 yv H1 s1 R1 ry h1 =>
    ⟨w1, env, st1, R1, ev.mono s1.grow, PostS.mid (rep := Rep Γ) (ev.mono s1.grow) h1 fun w2 d st2 x H2 s2 R2 rd h2 => by
      split at h2
      · rename_i n
        split at h2
        · rename_i c ds hd
          split at h2
          · rename_i hc
            split at h2
            · rename_i ds' hs'
              obtain ⟨a, rfl, hn⟩ := rd.cell_inv
              obtain ⟨dx, vs, e2, r2, l2⟩ := R2.reps n _ a hd hn
              obtain ⟨f1, f2, f0, f3, f4⟩ := hf c hc
              refine ⟨a, _, dx, _, rfl, e2, f3, f4, Nat.lt_of_le_of_lt (zip_len _ _) f0, ?_⟩
              have fin : ∀ us, putF f yv ((Γ.fld c).zip vs) = (Γ.fld c).zip us → RepL Γ w2 ds' us → ds'.length ≤ (Γ.fld c).length → N.nx σ (upd H2 a (.ins (Γ.cls c) dx (putF f yv ((Γ.fld c).zip vs)))) := fun us eu ru lu => by
                rw [eu]
                exact h2 w2 σ _ (R2.putStep hn) (R2.put hd trivial hn ⟨dx, us, upd_same, ru, lu⟩) (ev.mono (s1.trans s2).grow)
              unfold setF at hs'
              have hk := (List.getElem?_eq_some_iff.mp f1).1
              split at hs'
              · rename_i hlt
                cases hs'
                exact fin _ (putF_zip_set f2 f1 (by rw [r2.length]; exact hlt)) (r2.set (ry.mono s2.grow) k) (by rw [List.length_set]; exact l2)
              · split at hs'
                · rename_i heq
                  cases hs'
                  exact fin _ (putF_zip_app f2 (by rw [r2.length, ← heq]; exact f1)) (r2.append (.cons (ry.mono s2.grow) .nil)) (by rw [List.length_append, List.length_singleton, ← heq]; omega)
                · cases hs'
            · exact h2.elim
          · exact h2.elim
        · exact h2.elim
      · exact h2.elim⟩⟩⟩

/-! ### isinstance -/
inductive TyN where
  | non | bl | int | str | lst | tup | dct | own (c : Nat)
  deriving DecidableEq
def tyV' (Γ : Sig) : TyN → Value
  | .non => .type "NoneType"
  | .bl => .type "bool"
  | .int => .type "int"
  | .str => .type "str"
  | .lst => .type "list"
  | .tup => .type "tuple"
  | .dct => .type "dict"
  | .own c => .ref (Γ.cls c)
def tyOf (d : D) (st : Store) : Option TyN := match d with
  | .non => some .non
  | .bl _ => some .bl
  | .int _ => some .int
  | .str _ => some .str
  | .lst _ => some .lst
  | .tup _ => some .tup
  | .scr _ => none
  | .ins c _ => some (.own c)
  | .exn _ _ => none
  | .cell n => match st[n]? with
    | some (.lst _) => some .lst
    | some (.obj c _) => some (.own c)
    | some (.dct _) => some .dct
    | _ => none
/-- what a class must say for isinstance of its instances -/
structure InsC (K : PySem.W.Frag) (C : Addr) : Prop where
  cl : Cls K C
  ha : PySem.W.findIn K (.ref C) "__class__" = some (some (.builtin "object.__class__"))
  hn : PySem.W.specialIn K (.builtin "object.__class__") "__get__" = some (some (.builtin "getset_descriptor.__get__"))
  ht : PySem.W.takesIn K (.builtin "object.__class__") = some true
  hm : PySem.W.mroIn K C (.type "object") = some true
def xIsi (isa : TyN → Option Bool) (o : FE) : FE := fun env st => (o env st).bind fun d s1 => match tyOf d s1 with
  | some t => match isa t with
    | some b => .ok (.bl b) s1
    | none => .bad
  | none => .bad
theorem ty_ok {d : D} {x : V} {t : TyN} (hi : ∀ c, t = .own c → InsC Γ.K (Γ.cls c)) (R : Rel Γ w st H) (r : Rep Γ w d x) (h : tyOf d st = some t) : TyX Γ.K H x (tyV' Γ t) := by
  unfold tyOf at h
  cases d with
  | non => cases h; rw [r.non_inv]; exact .base .non
  | bl b => cases h; rw [r.bl_inv]; exact .base (.bl b)
  | int b => cases h; rw [r.int_inv]; exact .base (.int b)
  | str b => cases h; rw [r.str_inv]; exact .base (.str b)
  | lst b =>
    cases h
    obtain ⟨a, vs, rfl, s, _⟩ := r.lst_inv
    exact .base (.lst (R.sub _ _ s))
  | tup b =>
    cases h
    obtain ⟨a, vs, rfl, s, _⟩ := r.tup_inv
    rcases Same.tup R.sub s with (s | ⟨ob, s⟩) | ⟨ob, _, _, s, c, _⟩
    · exact .base (.tup s)
    · exact .fTuple s
    · exact .kTuple s c
  | scr _ => cases h
  | exn _ _ => cases h
  | ins c ds =>
    cases h
    obtain ⟨a, dx, vs, rfl, s, _⟩ := r.ins_inv
    have z := hi c rfl
    exact .base (.ins (R.sub _ _ s) z.cl z.ha z.hn z.ht z.hm)
  | cell n =>
    obtain ⟨a, rfl, hn⟩ := r.cell_inv
    dsimp only at h
    split at h
    · rename_i ds he
      cases h
      obtain ⟨vs, e2, _⟩ := R.reps n _ a he hn
      exact .base (.lst e2)
    · rename_i c ds he
      cases h
      obtain ⟨dx, vs, e2, _⟩ := R.reps n _ a he hn
      have z := hi c rfl
      exact .base (.ins e2 z.cl z.ha z.hn z.ht z.hm)
    · rename_i kvs he
      cases h
      obtain ⟨vs, e2, _⟩ := R.reps n _ a he hn
      exact .base (.dK e2)
    · cases h
/-- isinstance(o, C), C one class (cv: its value; isa: the answers that are known) -/
theorem d_isi {c : Expr} {cp : V} {cv : Value} {isa : TyN → Option Bool} {p : Pos} (hK : X.K = Γ.K) (hg : Gl X "isinstance") (hm : X.mg "isinstance" = none) (ho : DE X Γ W o fo) (hc : PE X c (tC cp)) (hcv : ClsV cp cv)
    (hisa : ∀ t b, isa t = some b → PySem.W.kitOne Γ.K (tyV' Γ t) cv = some b ∧ ∀ c, t = .own c → InsC Γ.K (Γ.cls c))
    (he : starEach [o, c] X.env = (false, eval o X.env) :: starEach [c] X.env := by rfl) (hpl : (backTo pos (starEach [c] X.env)).any (·.1) = false := by rfl) (hs : starEach [c] X.env = (false, eval c X.env) :: starEach [] X.env := by rfl) :
    DE X Γ W (.Call (.Name "isinstance" p) [o, c] [] pos) (xIsi isa fo) := ⟨PE.imp (pe_callB call_isi hg hm (by decide +kernel) (pa_cons ho.pe (pa_cons hc pa_nil hs) he) (by decide) (by decide) he hpl) fun σ H Q ⟨w, env, st, R, ev, h⟩ => by
  rw [hK]
  exact ⟨w, env, st, R, ev, Post.mid (rep' := Rep Γ) h fun w1 d st1 x H1 g1 R1 r1 h1 => by
    split at h1
    · rename_i t ht
      split at h1
      · rename_i b hb
        obtain ⟨k1, k2⟩ := hisa t b hb
        exact ⟨x, cp, tyV' Γ t, cv, b, rfl, hcv, ty_ok k2 R1 r1 ht, k1, Post.at h1 R1 .bl⟩
      · exact h1.elim
    · exact h1.elim⟩⟩
def isaInt : TyN → Option Bool
  | .int => some true
  | .bl => some true
  | .own _ => none
  | _ => some false
def isaBl : TyN → Option Bool
  | .bl => some true
  | .own _ => none
  | _ => some false
theorem isaInt_ok : ∀ t b, isaInt t = some b → PySem.W.kitOne Γ.K (tyV' Γ t) (.type "int") = some b ∧ ∀ c, t = .own c → InsC Γ.K (Γ.cls c) := fun t b h => by
  cases t <;> first
    | (cases h; exact ⟨kit_ty (by decide +kernel), fun _ z => nomatch z⟩)
    | cases h
theorem isaBl_ok : ∀ t b, isaBl t = some b → PySem.W.kitOne Γ.K (tyV' Γ t) (.type "bool") = some b ∧ ∀ c, t = .own c → InsC Γ.K (Γ.cls c) := fun t b h => by
  cases t <;> first
    | (cases h; exact ⟨kit_ty (by decide +kernel), fun _ z => nomatch z⟩)
    | cases h
end
end DS

namespace DS
open PySem L2 PySem.Spec PyProof.Rows

/-! ### defs -/
structure FnD (P : Program) (w : World) (Γ : Sig) (mg : Str → Option Value) (base : Heap) (k : Nat) (f : Addr) (fd : FuncData) (ps : List Str) (den : List D → M D) : Prop where
  len : ∀ (ds : List D) (st : Store), den ds st ≠ .bad → ds.length = ps.length
  run : ∀ (A : Around) (outer : List Env) (s : Shared) (H : Hp) (args : Args) (us : List Value) (vs : List V) (wd : Wd) (st : Store) (ds : List D) (Q : VK) (E : XK), Room k A → A.guards = some [] → Env0 P w Γ.K mg base A outer s H →
    BindsTo s fd args (ps.zip us) → Vals vs us → Rel Γ wd st H → RepL Γ wd ds vs → Post Γ wd H (Rep Γ) E (den ds st) Q → codeAny (model P w) A (.call (.ref f) args) (CR (L2.CX P w) outer P w H s Q E) s
theorem FnD.mono {P : Program} {w : World} {Γ : Sig} {mg : Str → Option Value} {base : Heap} {j k : Nat} {f : Addr} {fd : FuncData} {ps : List Str} {den : List D → M D} (F : FnD P w Γ mg base j f fd ps den) (h : j ≤ k) : FnD P w Γ mg base k f fd ps den :=
  ⟨F.len, fun A outer s H args us vs wd st ds Q E hr => F.run A outer s H args us vs wd st ds Q E (hr.mono h)⟩
def startE (N : List Str) (ds : List D) : DEnv := ds.map some ++ List.replicate (N.length - ds.length) none
/-- what a def's body makes of its arguments -/
def fnD (n : Nat) (N : List Str) (F : FS) : List D → M D := fun ds st => if ds.length = n then (match F (startE N ds) st with
  | .ret d s => .ok d s
  | .nx _ s => .ok .non s
  | .exn c fs _ s => .exn c fs s
  | _ => .bad) else .bad
theorem env_start {Γ : Sig} {wd : Wd} {N : List Str} {ds : List D} {vs : List V} (r : RepL Γ wd ds vs) (h : ds.length ≤ N.length) : EnvR Γ wd (startE N ds) (L2.start N vs) := ⟨by
  unfold startE L2.start
  simp only [List.length_append, List.length_map, List.length_replicate, r.length], fun i d e => by
  unfold startE at e
  unfold L2.start
  have hi : i < ds.length := by
    by_cases hi : i < ds.length
    · exact hi
    · rw [List.getElem?_append_right (by simpa using hi), List.getElem?_replicate] at e
      split at e <;> cases e
  rw [List.getElem?_append_left (by simpa using hi), List.getElem?_map] at e
  cases q : ds[i]? with
  | none => rw [q] at e; cases e
  | some d' =>
    rw [q] at e
    cases e
    obtain ⟨v, hv, rv⟩ := r.get q
    refine ⟨v, ?_, rv⟩
    rw [List.getElem?_append_left (by rw [List.length_map, r.length]; exact hi), List.getElem?_map, hv]
    rfl⟩
section
variable {P : Program} {w : World} {Γ : Sig} {mg : Str → Option Value} {base : Heap}
/-- a def of the text by its body's meaning -/
theorem fnD_of {x qual : Str} {st : Stmt} {f : Addr} {fd : FuncData} {N ps : List Str} {k : Nat} {F : FS} (Fn : Fun Γ.K x qual st f fd) (S : FnScope N ps (defScope st))
    (hbody : ∀ (cdv : Value) (A : Around) (outer : List Env) (s : Shared) (H : Hp) (E : XK), Room k (A.deeper (envOfC qual (defScope st) s.heap.objs.size f cdv)) → A.guards = some [] →
      DB (cxOf (L2.CX P w) P w Γ.K mg base N qual (defScope st) f cdv A outer s H E) Γ (fun cls d _ H => E cls d H) (defBody st) F) : FnD P w Γ mg base (k + 1) f fd ps (fnD ps.length N F) := by
  obtain ⟨oc, od, kV, doc, pm, an, cdv, ct, osl, rfl, lk, hcd⟩ := Fn.ex
  have lenP : ∀ (ds : List D) (st' : Store), fnD ps.length N F ds st' ≠ .bad → ds.length = ps.length := fun ds st' hn => by
    unfold fnD at hn
    split at hn
    · assumption
    · exact (hn rfl).elim
  have hpl : ps.length ≤ N.length := by
    have q := congrArg List.length S.pre
    rw [List.length_take] at q
    omega
  refine ⟨lenP, fun A outer s H args us vs wd st' ds Q E hr hgd e0 hb r R rp hsp => ?_⟩
  have nb : fnD ps.length N F ds st' ≠ .bad := fun z => by rw [z] at hsp; exact hsp
  have hds := lenP ds st' nb
  have hvs : vs.length = ps.length := rp.length.trans hds
  have inK : Γ.K.In s.heap := e0.mod.kin.keeps fun b o e => (e0.bs b o e).1
  have nolim : s.heap.NoLimit := e0.mod.nolimit.keeps fun b o e => (e0.bs b o e).1
  have kinds : ∀ y ∈ ps.zip us, (defScope st).names.lookup y.1 = some .local ∨ ((defScope st).names.lookup y.1 = some .cell ∧ ((cellsFrom (s.heap.objs.size + 1) (defScope st).names []).lookup y.1).isSome = true) := by
    rintro ⟨n, v⟩ hy
    rcases S.par n (List.of_mem_zip hy).1 with q | q
    · exact .inl q
    · exact .inr ⟨q, PySem.W.cellsFrom_some _ _ _ (.inl q)⟩
  refine codeAny_call_function hr.depth (inK _ _ lk) rfl S.co S.gen rfl
    (PySem.W.codeRec_of inK hcd) (hb _ _ _ _ ?_)
  refine wpAny_newFunctionEnv_cells S.kind kinds
    fun env he s1 x => ?_
  subst he
  refine ⟨nolim.keeps x.toInCall.keep, codeAny_func ?_⟩
  have body := hbody cdv A outer s H E (hr.deeper _) hgd
  have I := inv_start (CX := L2.CX P w) (E := E) (qual := qual) (f := f) (cd := cdv) S hr.hd e0 hvs r x
  -- the body's reading
  have rd : tS Γ (fun cls d _ H => E cls d H) F { nx := fun _ H' => Q .non H', rt := Q } (L2.start N vs) H := by
    refine ⟨wd, startE N ds, st', R, env_start rp (by omega), ?_⟩
    unfold fnD at hsp
    rw [if_pos hds] at hsp
    cases e : F (startE N ds) st' with
    | nx env1 st1 =>
      rw [e] at hsp
      exact fun w' σ H' g R' _ => hsp w' .non H' g R' .non
    | ret d st1 =>
      rw [e] at hsp
      exact fun w' v H' g R' r' => hsp w' v H' g R' r'
    | bk env1 st1 => rw [e] at hsp; exact hsp.elim
    | ct env1 st1 => rw [e] at hsp; exact hsp.elim
    | exn c fs env1 st1 =>
      rw [e] at hsp
      exact fun w' σ H' cv dx g R' _ xr => hsp w' cv dx H' g R' xr
    | bad => rw [e] at hsp; exact hsp.elim
  refine wpAny_mono (body.pss.run [] s1 (L2.start N vs) H _ I rd)
    (fun fl s' hs => ?_) fun e s' hs => hs
  cases fl with
  | ret u =>
    obtain ⟨v, σ', H', J, rv, q⟩ := hs
    exact ⟨v, H', J.os, J.bare, J.base, J.hok, rv, q⟩
  | next =>
    obtain ⟨σ', H', J, q⟩ := hs
    exact ⟨V.non, H', J.os, J.bare, J.base, J.hok, rfl, q⟩
  | brk =>
    obtain ⟨_, _, _, q⟩ := hs
    exact q.elim
  | cont =>
    obtain ⟨_, _, _, q⟩ := hs
    exact q.elim
/-- a def's meaning told otherwise: less defined, or with what it left behind forgotten -/
def clD (n : Nat) : D → Prop
  | .cell m => m < n
  | .lst _ => True
  | _ => True
end

/-! ### calls of defs -/
/-- the module's name x holds a def -/
structure FD (P : Program) (w : World) (Γ : Sig) (mg : Str → Option Value) (base : Heap) (k : Nat) (x : Str) (den : List D → M D) : Prop where
  ex : ∃ (fa : Addr) (fd : FuncData) (ps : List Str), mg x = some (.ref fa) ∧ PySem.W.keepIn Γ.K (.ref fa) = true ∧ FnD P w Γ mg base k fa fd ps den ∧ Binds Γ.K fd ps []
structure MD (P : Program) (w : World) (Γ : Sig) (mg : Str → Option Value) (base : Heap) (k : Nat) (c : Nat) (m : Str) (den : List D → M D) : Prop where
  ex : ∃ (fa : Addr) (fd : FuncData) (ps : List Str), Cls Γ.K (Γ.cls c) ∧ Meth Γ.K (Γ.cls c) m fa ∧ FnD P w Γ mg base k fa fd ps den ∧ Binds Γ.K fd ps [] ∧ m ∉ Γ.fld c
theorem FD.mono {P : Program} {w : World} {Γ : Sig} {mg : Str → Option Value} {base : Heap} {j k : Nat} {x : Str} {den : List D → M D} (F : FD P w Γ mg base j x den) (h : j ≤ k) : FD P w Γ mg base k x den :=
  let ⟨fa, fd, ps, a, b, c, d⟩ := F.ex
  ⟨fa, fd, ps, a, b, c.mono h, d⟩
theorem MD.mono {P : Program} {w : World} {Γ : Sig} {mg : Str → Option Value} {base : Heap} {j k c : Nat} {m : Str} {den : List D → M D} (F : MD P w Γ mg base j c m den) (h : j ≤ k) : MD P w Γ mg base k c m den :=
  let ⟨fa, fd, ps, a, b, c, d, e⟩ := F.ex
  ⟨fa, fd, ps, a, b, c.mono h, d, e⟩
def xCall (den : List D → M D) (f : DEnv → M (List D)) : FE := fun env st => (f env st).bind fun ds s1 => den ds s1
/-- a method: its meaning by the object's class -/
def xMeth (tb : List (Nat × (List D → M D))) (o : FE) (f : DEnv → M (List D)) : FE := fun env st => (o env st).bind fun d s1 => match fieldsOf d s1 with
  | some (c, _) => match tb.lookup c with
    | some den => (f env s1).bind fun ds s2 => den (d :: ds) s2
    | none => .bad
  | none => .bad
section
variable {X : Cx} {Γ : Sig} {W : WX} {k : Nat} {x m : Str} {p pos apos : Pos} {e o : Expr} {es : List Expr} {fo : FE} {fr : DEnv → M (List D)} {den : List D → M D}
theorem run_fnD {pins : List (Addr × Obj)} {σ : L2.St} {H : Hp} {s : Shared} {Q : VK} {fa : Addr} {fd : FuncData} {ps : List Str} {wd : Wd} {st : Store} {ds : List D} {args : Args} {us : List Value} {vs : List V} (hK : X.K = Γ.K) (F : FnD X.prog X.w Γ X.mg X.base k fa fd ps den) (hr : Room k X.A) (hgd : X.A.guards = some []) (tk : Takes X W)
    (I : Inv X pins σ H s) (hb : BindsTo s fd args (ps.zip us)) (r : Vals vs us) (R : Rel Γ wd st H) (rp : RepL Γ wd ds vs) (h : Post Γ wd H (Rep Γ) (fun cv dx H' => W cv dx σ H') (den ds st) Q) : wpAny (model X.prog X.w) X.A (call (.ref fa) args.pos args.kw) (EP X pins σ Q) X.xe s := by
  have e0 := I.env0
  rw [hK] at e0
  refine wpAny_call (codeAny_mono (F.run X.A X.stack s H args us vs wd st ds Q (WE W σ) hr hgd e0 hb r R rp h)
    fun r s' hq => ?_)
  cases r with
  | error e => exact passAt tk σ pins H s e s' I hq
  | ok fl =>
    cases fl with
    | ret u => exact I.after hq
    | next => exact hq.elim
    | brk => exact hq.elim
    | cont => exact hq.elim
theorem d_call (hK : X.K = Γ.K) (F : FD X.prog X.w Γ X.mg X.base k x den) (hr : Room k X.A) (hgd : X.A.guards = some []) (tk : Takes X W) (hg : Gl X x) (ha : DA X Γ W (e :: es) fr) (hdb : (x == ("__debug__" : Str)) = false := by decide)
    (he : starEach (e :: es) X.env = (false, eval e X.env) :: starEach es X.env := by rfl) (hpl : (backTo pos (starEach es X.env)).any (·.1) = false := by rfl) : DE X Γ W (.Call (.Name x p) (e :: es) [] pos) (xCall den fr) := by
  obtain ⟨fa, fd, ps, hm, hk, Fn, hb⟩ := F.ex
  refine ⟨⟨fun pins s σ H Q I ⟨w, env, st, R, ev, h⟩ => ?_⟩⟩
  refine wpAny_Call_Name_kw (ld_glob I hg hm ?_ hdb)
  rw [← hK] at hk
  refine PySem.W.callWith_K (h₀ := X.base) I.ok.mod.kin hk (thn (ha.pa.run pos pins s σ H (fun vs H1 => ∃ w1 ds st1, Rel Γ w1 st1 H1 ∧ RepL Γ w1 ds vs ∧ Post Γ w1 H1 (Rep Γ) (fun cv dx H' => W cv dx σ H') (den ds st1) Q) I
    ⟨w, env, st, R, ev, Post.mid (rep' := RepL Γ) h fun w1 ds st1 vs H1 g R1 r1 h1 => ⟨w1, ds, st1, R1, r1, h1⟩⟩) fun us s1 ⟨vs, H1, I1, r, w1, ds, st1, R1, r1, h1⟩ => ⟨I1.kIn, ?_⟩) he hpl
  have nb : den ds st1 ≠ .bad := fun z => by rw [z] at h1; exact h1
  have hl : us.length = ps.length := by rw [← r.length, r1.length]; exact Fn.len ds st1 nb
  have b := hb s1 us (by rw [← hK]; exact I1.kIn) (by rw [List.append_nil]; exact hl)
  rw [List.append_nil] at b
  exact run_fnD (args := ⟨us, []⟩) hK Fn hr hgd tk I1 b r R1 r1 h1
theorem d_call0 (hK : X.K = Γ.K) (F : FD X.prog X.w Γ X.mg X.base k x den) (hr : Room k X.A) (hgd : X.A.guards = some []) (tk : Takes X W) (hg : Gl X x) (hdb : (x == ("__debug__" : Str)) = false := by decide) : DE X Γ W (.Call (.Name x p) [] [] pos) (xCall den aNil) := by
  obtain ⟨fa, fd, ps, hm, hk, Fn, hb⟩ := F.ex
  refine ⟨⟨fun pins s σ H Q I ⟨w, env, st, R, ev, h⟩ => ?_⟩⟩
  refine wpAny_Call_Name_kw (ld_glob I hg hm ?_ hdb)
  rw [← hK] at hk
  have h : Post Γ w H (Rep Γ) (fun cv dx H' => W cv dx σ H') (den [] st) Q := h
  have nb : den [] st ≠ .bad := fun z => by rw [z] at h; exact h
  have b := hb s [] (by rw [← hK]; exact I.kIn) (Fn.len [] st nb)
  exact PySem.W.callWith_K0 I.kIn hk (run_fnD (args := ⟨[], []⟩) hK Fn hr hgd tk I b .nil R .nil h)
/-- the methods of the classes that may come -/
def MOk (X : Cx) (Γ : Sig) (k : Nat) (m : Str) (tb : List (Nat × (List D → M D))) : Prop := ∀ c den, tb.lookup c = some den → MD X.prog X.w Γ X.mg X.base k c m den
theorem lookup_none : ∀ {ks : List Str} {vs : List V} {f : Str}, f ∉ ks → (ks.zip vs).lookup f = none
  | [], _, _, _ => by simp
  | _ :: _, [], _, _ => by simp
  | k :: ks, u :: vs, f, h => by
    have ne : (f == k) = false := beq_eq_false_iff_ne.mpr fun e => h (e ▸ List.mem_cons_self)
    rw [List.zip_cons_cons]
    simp only [List.lookup, ne]
    exact lookup_none fun z => h (List.mem_cons_of_mem _ z)
theorem d_meth {pl : Sem Bool} {tb : List (Nat × (List D → M D))} (hK : X.K = Γ.K) (F : MOk X Γ k m tb) (hr : Room k X.A) (hgd : X.A.guards = some []) (tk : Takes X W) (ho : DE X Γ W o fo) (ha : DA X Γ W (e :: es) fr)
    (hst : starEach (e :: es) X.env = (false, eval e X.env) :: starEach es X.env := by rfl) (hpl : (backTo pos (starEach es X.env)).any (·.1) = false := by rfl)
    (ht : eval (.Call (.Attribute o m apos) (e :: es) [] pos) X.env = (do
      let ov ← eval o X.env
      standAt apos.atName
      let (f, first) ← holding [ov] (getMethod ov m pl)
      callWith pos f first (backTo pos (starEach (e :: es) X.env)) (backToKw pos (keywordEach [] X.env))) := by rfl) : DE X Γ W (.Call (.Attribute o m apos) (e :: es) [] pos) (xMeth tb fo fr) := by
  refine ⟨⟨fun pins s σ H Q I ⟨w, env, st, R, ev, h⟩ => ?_⟩⟩
  refine PySem.W.methodCall_KW (pl := pl) (thn (ho.pe.run pins s σ H (fun v H1 => ∃ w1 d st1, Rel Γ w1 st1 H1 ∧ EnvR Γ w1 env σ ∧ Rep Γ w1 d v ∧ Post Γ w1 H1 (Rep Γ) (fun cv dx H' => W cv dx σ H') (match fieldsOf d st1 with
      | some (c, _) => match tb.lookup c with
        | some den => (fr env st1).bind fun ds s2 => den (d :: ds) s2
        | none => .bad
      | none => .bad) Q) I
    ⟨w, env, st, R, ev, Post.mid (rep' := Rep Γ) h fun w1 d st1 v H1 g R1 r1 h1 => ⟨w1, d, st1, R1, ev.mono g.grow, r1, h1⟩⟩) fun u s1 ⟨v, H1, I1, rv, w1, d, st1, R1, ev1, r1, h1⟩ => ?_) ht
  split at h1
  · rename_i c ds0 hd
    split at h1
    · rename_i den hden
      obtain ⟨fa, fd, ps, cl, hm, Fn, hb, nf⟩ := (F c den hden).ex
      obtain ⟨a, dx, vs0, rfl, ha0, _⟩ := fields_ok R1 r1 hd
      obtain rfl : u = Value.ref a := rv
      refine getmeth_ok I1 ha0 (by rw [hK]; exact cl) (by rw [hK]; exact hm) (lookup_none nf) ?_
      refine PySem.W.callWith_K (first := [.ref a]) (h₀ := X.base) I.ok.mod.kin (by rw [hK]; exact hm.kp) (thn (ha.pa.run pos pins s1 σ H1 (fun vs H2 => ∃ w2 ds st2, Rel Γ w2 st2 H2 ∧ Rep Γ w2 d (.ref a) ∧ RepL Γ w2 ds vs ∧ Post Γ w2 H2 (Rep Γ) (fun cv dx H' => W cv dx σ H') (den (d :: ds) st2) Q) I1
        ⟨w1, env, st1, R1, ev1, Post.mid (rep' := RepL Γ) h1 fun w2 ds st2 vs H2 g R2 r2 h2 => ⟨w2, ds, st2, R2, r1.mono g.grow, r2, h2⟩⟩) fun us s2 ⟨vs, H2, I2, rr, w2, ds, st2, R2, rd, r2, h2⟩ => ⟨I2.kIn, ?_⟩) hst hpl
      have nb : den (d :: ds) st2 ≠ .bad := fun z => by rw [z] at h2; exact h2
      have rA : RepL Γ w2 (d :: ds) (.ref a :: vs) := .cons rd r2
      have rV : Vals (V.ref a :: vs) (Value.ref a :: us) := .cons rfl rr
      have hl : (Value.ref a :: us).length = ps.length := by rw [← rV.length, rA.length]; exact Fn.len _ st2 nb
      have b := hb s2 (.ref a :: us) (by rw [← hK]; exact I2.kIn) (by rw [List.append_nil]; exact hl)
      rw [List.append_nil] at b
      exact run_fnD (args := ⟨.ref a :: us, []⟩) hK Fn hr hgd tk I2 b rV R2 rA h2
    · exact h1.elim
  · exact h1.elim
theorem d_meth0 {pl : Sem Bool} {tb : List (Nat × (List D → M D))} (hK : X.K = Γ.K) (F : MOk X Γ k m tb) (hr : Room k X.A) (hgd : X.A.guards = some []) (tk : Takes X W) (ho : DE X Γ W o fo)
    (ht : eval (.Call (.Attribute o m apos) [] [] pos) X.env = (do
      let ov ← eval o X.env
      standAt apos.atName
      let (f, first) ← holding [ov] (getMethod ov m pl)
      callWith pos f first (backTo pos (starEach [] X.env)) (backToKw pos (keywordEach [] X.env))) := by rfl) : DE X Γ W (.Call (.Attribute o m apos) [] [] pos) (xMeth tb fo aNil) := by
  refine ⟨⟨fun pins s σ H Q I ⟨w, env, st, R, ev, h⟩ => ?_⟩⟩
  refine PySem.W.methodCall_KW (pl := pl) (thn (ho.pe.run pins s σ H (fun v H1 => ∃ w1 d st1, Rel Γ w1 st1 H1 ∧ Rep Γ w1 d v ∧ Post Γ w1 H1 (Rep Γ) (fun cv dx H' => W cv dx σ H') (match fieldsOf d st1 with
      | some (c, _) => match tb.lookup c with
        | some den => den [d] st1
        | none => .bad
      | none => .bad) Q) I
    ⟨w, env, st, R, ev, Post.mid (rep' := Rep Γ) h fun w1 d st1 v H1 g R1 r1 h1 => ⟨w1, d, st1, R1, r1, h1⟩⟩) fun u s1 ⟨v, H1, I1, rv, w1, d, st1, R1, r1, h1⟩ => ?_) ht
  split at h1
  · rename_i c ds0 hd
    split at h1
    · rename_i den hden
      obtain ⟨fa, fd, ps, cl, hm, Fn, hb, nf⟩ := (F c den hden).ex
      obtain ⟨a, dx, vs0, rfl, ha0, _⟩ := fields_ok R1 r1 hd
      obtain rfl : u = Value.ref a := rv
      refine getmeth_ok I1 ha0 (by rw [hK]; exact cl) (by rw [hK]; exact hm) (lookup_none nf) ?_
      have nb : den [d] st1 ≠ .bad := fun z => by rw [z] at h1; exact h1
      have rA : RepL Γ w1 [d] [.ref a] := .cons r1 .nil
      have rV : Vals [V.ref a] [Value.ref a] := .cons rfl .nil
      have hl : [Value.ref a].length = ps.length := by rw [← rV.length, rA.length]; exact Fn.len _ st1 nb
      have b := hb s1 [.ref a] (by rw [← hK]; exact I1.kIn) (by rw [List.append_nil]; exact hl)
      rw [List.append_nil] at b
      exact PySem.W.callWith_K0 (first := [.ref a]) I1.kIn (by rw [hK]; exact hm.kp) (run_fnD (args := ⟨[.ref a], []⟩) hK Fn hr hgd tk I1 b rV R1 rA h1)
    · exact h1.elim
  · exact h1.elim
end
end DS

namespace DS
open PySem L2 PySem.Spec PyProof.Rows

/-! ### what refers to no thing of the store from the n-th on -/
mutual
def clB (n : Nat) : D → Bool
  | .cell m => decide (m < n)
  | .lst ds => clBL n ds
  | .tup ds => clBL n ds
  | .ins _ ds => clBL n ds
  | .exn _ ds => clBL n ds
  | _ => true
def clBL (n : Nat) : List D → Bool
  | [] => true
  | d :: ds => clB n d && clBL n ds
end
def clO (n : Nat) : O → Bool
  | .lst ds => clBL n ds
  | .obj _ ds => clBL n ds
  | .dct kvs => clBL n (kvs.map (·.2))
  | .gone => true
theorem clBL_iff {n : Nat} : ∀ {ds : List D}, clBL n ds = true ↔ ∀ d ∈ ds, clB n d = true
  | [] => by simp [clBL]
  | d :: ds => by simp [clBL, clBL_iff (ds := ds)]
section
variable {Γ : Sig} {w : Wd}
mutual
theorem Rep.closed : ∀ {d : D} {v : V}, Rep Γ w d v → clB w.ι.length d = true
  | .non, _, _ => rfl
  | .bl _, _, _ => rfl
  | .int _, _, _ => rfl
  | .str _, _, _ => rfl
  | .scr _, _, _ => rfl
  | .lst ds, _, h => by
    obtain ⟨a, vs, _, _, r⟩ := h.lst_inv
    unfold clB
    exact RepL.closed r
  | .tup ds, _, h => by
    obtain ⟨a, vs, _, _, r⟩ := h.tup_inv
    unfold clB
    exact RepL.closed r
  | .cell n, _, h => by
    obtain ⟨a, _, e⟩ := h.cell_inv
    unfold clB
    exact decide_eq_true (List.getElem?_eq_some_iff.mp e).1
  | .ins c ds, _, h => by
    obtain ⟨a, dx, vs, _, _, r, _⟩ := h.ins_inv
    unfold clB
    exact RepL.closed r
  | .exn c ds, _, h => by
    unfold Rep at h
    unfold clB
    obtain ⟨a, _, ⟨n, s⟩ | ⟨d, vs, s, s2, r, l⟩⟩ := h
    · rw [n]; rfl
    · exact RepL.closed r
theorem RepL.closed : ∀ {ds : List D} {vs : List V}, RepL Γ w ds vs → clBL w.ι.length ds = true
  | [], _, _ => rfl
  | d :: ds, _, h => by
    obtain ⟨v, us, _, q1, q2⟩ := h.cons_inv
    unfold clBL
    rw [Rep.closed q1, RepL.closed q2]
    rfl
end
mutual
theorem Rep.crop {n : Nat} : ∀ {d : D} {v : V}, clB n d = true → Rep Γ w d v → Rep Γ ⟨w.G, w.ι.take n⟩ d v
  | .non, _, _, h => by unfold Rep at h ⊢; exact h
  | .bl _, _, _, h => by unfold Rep at h ⊢; exact h
  | .int _, _, _, h => by unfold Rep at h ⊢; exact h
  | .str _, _, _, h => by unfold Rep at h ⊢; exact h
  | .scr _, _, _, h => by unfold Rep at h ⊢; exact h
  | .lst ds, _, c, h => by
    unfold clB at c
    unfold Rep at h ⊢
    obtain ⟨a, vs, e, s, r⟩ := h
    exact ⟨a, vs, e, s, RepL.crop c r⟩
  | .tup ds, _, c, h => by
    unfold clB at c
    unfold Rep at h ⊢
    obtain ⟨a, vs, e, s, r⟩ := h
    exact ⟨a, vs, e, s, RepL.crop c r⟩
  | .cell m, _, c, h => by
    unfold clB at c
    unfold Rep at h ⊢
    obtain ⟨a, e, s⟩ := h
    refine ⟨a, e, ?_⟩
    show (w.ι.take n)[m]? = some a
    rw [List.getElem?_take_of_lt (of_decide_eq_true c)]
    exact s
  | .ins _ ds, _, c, h => by
    unfold clB at c
    unfold Rep at h ⊢
    obtain ⟨a, dx, vs, e, s, r, l⟩ := h
    exact ⟨a, dx, vs, e, s, RepL.crop c r, l⟩
  | .exn _ ds, _, c, h => by
    unfold clB at c
    unfold Rep at h ⊢
    obtain ⟨a, e, ⟨q, s⟩ | ⟨d, vs, s, s2, r, l⟩⟩ := h
    · exact ⟨a, e, .inl ⟨q, s⟩⟩
    · exact ⟨a, e, .inr ⟨d, vs, s, s2, RepL.crop c r, l⟩⟩
theorem RepL.crop {n : Nat} : ∀ {ds : List D} {vs : List V}, clBL n ds = true → RepL Γ w ds vs → RepL Γ ⟨w.G, w.ι.take n⟩ ds vs
  | [], _, _, h => by rw [h.nil_inv]; exact .nil
  | d :: ds, _, c, h => by
    unfold clBL at c
    obtain ⟨c1, c2⟩ := Bool.and_eq_true_iff.mp c
    obtain ⟨v, us, rfl, q1, q2⟩ := h.cons_inv
    exact .cons (Rep.crop c1 q1) (RepL.crop c2 q2)
end
theorem clO_of {st : Store} {H : Hp} {a : Addr} {o : O} (h : RepO Γ w H a o) : clO w.ι.length o = true := by
  cases o with
  | lst ds => obtain ⟨vs, _, r⟩ := h; exact r.closed
  | obj c ds => obtain ⟨dx, vs, _, r, _⟩ := h; exact r.closed
  | dct kvs => obtain ⟨vs, _, r⟩ := h; exact r.closed
  | gone => rfl
theorem RepO.cut {n : Nat} {H : Hp} {a : Addr} {o : O} (c : clO n o = true) (h : RepO Γ w H a o) : RepO Γ ⟨w.G, w.ι.take n⟩ H a o := by
  cases o with
  | lst ds => obtain ⟨vs, e, r⟩ := h; exact ⟨vs, e, r.crop c⟩
  | obj c ds => obtain ⟨dx, vs, e, r, l⟩ := h; exact ⟨dx, vs, e, r.crop c, l⟩
  | dct kvs => obtain ⟨vs, e, r⟩ := h; exact ⟨vs, e, r.crop c⟩
  | gone => trivial
/-- what was made since is forgotten -/
theorem Rel.cut {st : Store} {H : Hp} {n : Nat} (R : Rel Γ w st H) (hn : n ≤ st.length) (c : ∀ (i : Nat) (o : O), (st.take n)[i]? = some o → clO n o = true) : Rel Γ ⟨w.G, w.ι.take n⟩ (st.take n) H := by
  have up : ∀ {i : Nat} {a : Addr}, (w.ι.take n)[i]? = some a → w.ι[i]? = some a ∧ i < n := fun {i a} h => by
    have hl := (List.getElem?_eq_some_iff.mp h).1
    rw [List.length_take] at hl
    have hi : i < n := by omega
    rw [List.getElem?_take_of_lt hi] at h
    exact ⟨h, hi⟩
  have lv : ∀ {i : Nat}, i < n → Live (st.take n) i → Live st i := fun {i} hi ⟨o, h, l⟩ => ⟨o, by rw [List.getElem?_take_of_lt hi] at h; exact h, l⟩
  exact ⟨R.sub, by rw [List.length_take, List.length_take, R.len], fun i j a h1 h2 l1 l2 => R.inj i j a (up h1).1 (up h2).1 (lv (up h1).2 l1) (lv (up h2).2 l2), fun i a h l => R.off i a (up h).1 (lv (up h).2 l),
    fun i o a h1 h2 => by
      have hi := (up h2).2
      have h1' := h1
      rw [List.getElem?_take_of_lt hi] at h1'
      exact (R.reps i o a h1' (up h2).1).cut (c i o h1), fun p hp => R.dom p (List.mem_of_mem_take hp)⟩
theorem Step.cut {w1 w2 : Wd} {H1 H2 : Hp} (s : Step w1 H1 w2 H2) : Step w1 H1 ⟨w2.G, w2.ι.take w1.ι.length⟩ H2 := by
  obtain ⟨t, e, f⟩ := s.ι
  exact ⟨s.G, ⟨[], by show w2.ι.take _ = _; rw [e, List.take_left, List.append_nil], fun _ z => nomatch z⟩, s.keep, s.dom, s.gnew⟩
/-- a thing of the store is given out as what never changes -/
theorem Rel.frz {st : Store} {H : Hp} {n : Nat} {a : Addr} {o : O} {u : HO} (R : Rel Γ w st H) (ha : w.ι[n]? = some a) (ho : st[n]? = some o) (lo : liveO o) (hu : H a = some u) : Rel Γ ⟨upd w.G a u, w.ι⟩ (st.set n .gone) H ∧ Grow w ⟨upd w.G a u, w.ι⟩ := by
  have gp := R.off n a ha ⟨o, ho, lo⟩
  have g : Grow w ⟨upd w.G a u, w.ι⟩ := ⟨fun b x q => by
    show upd w.G a u b = some x
    rw [upd_ne (ne_of_none q gp)]
    exact q, [], (List.append_nil _).symm⟩
  have down : ∀ {i : Nat} {x : O}, (st.set n .gone)[i]? = some x → liveO x → i ≠ n ∧ st[i]? = some x := fun {i x} h l => by
    by_cases hi : i = n
    · subst hi
      rw [List.getElem?_set_self (List.getElem?_eq_some_iff.mp ho).1] at h
      cases h
      exact l.elim
    · rw [List.getElem?_set_ne (Ne.symm hi)] at h
      exact ⟨hi, h⟩
  refine ⟨⟨fun b x q => ?_, by rw [List.length_set]; exact R.len, fun i j b h1 h2 ⟨x, hx, lx⟩ ⟨y, hy, ly⟩ => R.inj i j b h1 h2 ⟨x, (down hx lx).2, lx⟩ ⟨y, (down hy ly).2, ly⟩, fun i b h ⟨x, hx, lx⟩ => ?_, fun i x b h1 h2 => ?_, R.dom⟩, g⟩
  · by_cases hb : b = a
    · subst hb
      have q : upd w.G b u b = some x := q
      rw [upd_same] at q
      cases q
      exact hu
    · have q : upd w.G a u b = some x := q
      rw [upd_ne hb] at q
      exact R.sub _ _ q
  · obtain ⟨ni, hx'⟩ := down hx lx
    show upd w.G a u b = none
    rw [upd_ne fun z => ni (by subst z; exact R.inj i n b h ha ⟨x, hx', lx⟩ ⟨o, ho, lo⟩)]
    exact R.off i b h ⟨x, hx', lx⟩
  · by_cases l : liveO x
    · exact (R.reps i x b (down h1 l).2 h2).mono g
    · cases x with
      | gone => trivial
      | lst _ => exact (l trivial).elim
      | obj _ _ => exact (l trivial).elim
      | dct _ => exact (l trivial).elim
end

/-! ### a meaning told otherwise -/
/-- from the arguments ds and the store st: the result r may be told as r' -/
inductive Ref (Γ : Sig) (ds : List D) (st : Store) : Res D → Res D → Prop
  | bad (r : Res D) : Ref Γ ds st r .bad
  | same (r : Res D) : Ref Γ ds st r r
  /-- what was made since is forgotten -/
  | cut (d : D) (st1 junk : Store) (hl : st1.length = st.length) (hd : d ∈ ds ∨ clB st.length d = true) (hs : ∀ (i : Nat) (o : O), st1[i]? = some o → st[i]? = some o ∨ clO st.length o = true) : Ref Γ ds st (.ok d (st1 ++ junk)) (.ok d st1)
  /-- .. and a new list is handed out -/
  | lst (k : Nat) (xs : List D) (st1 junk : Store) (hl : st1.length = st.length) (hk : junk[k]? = some (.lst xs)) (hd : ∀ d ∈ xs, d ∈ ds ∨ clB st.length d = true) (hs : ∀ (i : Nat) (o : O), st1[i]? = some o → st[i]? = some o ∨ clO st.length o = true) :
      Ref Γ ds st (.ok (.cell (st.length + k)) (st1 ++ junk)) (.ok (.lst xs) st1)
  /-- .. or a new object that won't change any more -/
  | obj (k c : Nat) (xs : List D) (st1 junk : Store) (hl : st1.length = st.length) (hk : junk[k]? = some (.obj c xs)) (hn : xs.length = (Γ.fld c).length) (hd : ∀ d ∈ xs, d ∈ ds ∨ clB st.length d = true) (hs : ∀ (i : Nat) (o : O), st1[i]? = some o → st[i]? = some o ∨ clO st.length o = true) :
      Ref Γ ds st (.ok (.cell (st.length + k)) (st1 ++ junk)) (.ok (.ins c xs) st1)
  | cutX (c : Nat) (fs : List D) (st1 junk : Store) (hl : st1.length = st.length) (hd : ∀ d ∈ fs, d ∈ ds ∨ clB st.length d = true) (hs : ∀ (i : Nat) (o : O), st1[i]? = some o → st[i]? = some o ∨ clO st.length o = true) : Ref Γ ds st (.exn c fs (st1 ++ junk)) (.exn c fs st1)
section
variable {Γ : Sig} {w : Wd} {st : Store} {H : Hp} {ds : List D} {vs : List V}
theorem cl_args (R : Rel Γ w st H) (r : RepL Γ w ds vs) {d : D} (h : d ∈ ds ∨ clB st.length d = true) : clB st.length d = true := by
  rcases h with h | h
  · have := r.closed
    rw [R.len] at this
    exact clBL_iff.mp this d h
  · exact h
theorem cl_store (R : Rel Γ w st H) {i : Nat} {o : O} (h : st[i]? = some o ∨ clO st.length o = true) : clO st.length o = true := by
  rcases h with h | h
  · obtain ⟨a, ha⟩ := R.addr h
    have := clO_of (st := st) (R.reps i o a h ha)
    rw [R.len] at this
    exact this
  · exact h
theorem Ref.post {r r' : Res D} {E : Value → Option Addr → Hp → Prop} {Q : VK} (R : Rel Γ w st H) (ra : RepL Γ w ds vs) (f : Ref Γ ds st r r') (h : Post Γ w H (Rep Γ) E r' Q) : Post Γ w H (Rep Γ) E r Q := by
  have tk : ∀ (st1 junk : Store), st1.length = st.length → (st1 ++ junk).take st.length = st1 := fun st1 junk hl => by rw [← hl, List.take_left]
  cases f with
  | bad r => exact h.elim
  | same r => exact h
  | cut d st1 junk hl hd hs =>
    intro w' v H' g R' rp
    have R2 := R'.cut (n := st.length) (by rw [List.length_append]; omega) (by rw [tk st1 junk hl]; exact fun i o e => cl_store R (hs i o e))
    rw [tk st1 junk hl] at R2
    have gc := g.cut
    rw [R.len] at gc
    exact h _ v H' gc R2 (rp.crop (cl_args R ra hd))
  | lst k xs st1 junk hl hk hd hs =>
    intro w' v H' g R' rp
    obtain ⟨a, rfl, ha⟩ := rp.cell_inv
    have ho : (st1 ++ junk)[st.length + k]? = some (.lst xs) := by
      rw [List.getElem?_append_right (by omega), hl, Nat.add_sub_cancel_left]
      exact hk
    obtain ⟨us, hu, ru⟩ := R'.reps _ _ a ho ha
    obtain ⟨R2, g2⟩ := R'.frz ha ho trivial hu
    have e1 : ((st1 ++ junk).set (st.length + k) .gone).take st.length = st1 := by
      rw [List.set_append_right _ _ (by omega), ← hl, List.take_left]
    have R3 := R2.cut (n := st.length) (by rw [List.length_set, List.length_append]; omega) (by rw [e1]; exact fun i o e => cl_store R (hs i o e))
    rw [e1] at R3
    obtain ⟨tl, et, ft⟩ := g.ι
    have hw : w.ι.length = st.length := R.len
    have gc : Step w H ⟨upd w'.G a (.lst us), w'.ι.take st.length⟩ H' := by
      refine ⟨fun b o q => g2.G _ _ (g.G b o q), ⟨[], by show w'.ι.take _ = _; rw [et, ← hw, List.take_left, List.append_nil], fun _ z => nomatch z⟩, g.keep, g.dom, fun b o q => ?_⟩
      by_cases hb : b = a
      · have : a ∈ tl := by
          rw [et, List.getElem?_append_right (by rw [hw]; omega)] at ha
          exact List.mem_of_getElem? ha
        exact .inr (.inl (by rw [hb]; exact ft a this))
      · have q : upd w'.G a (.lst us) b = some o := q
        rw [upd_ne hb] at q
        exact g.gnew b o q
    refine h _ _ H' gc R3 (.mk_lst (vs := us) upd_same ?_)
    have ru2 : RepL Γ ⟨upd w'.G a (.lst us), w'.ι⟩ xs us := ru.mono g2
    exact ru2.crop (clBL_iff.mpr fun d hd' => cl_args R ra (hd d hd'))
  | obj k c xs st1 junk hl hk hn hd hs =>
    intro w' v H' g R' rp
    obtain ⟨a, rfl, ha⟩ := rp.cell_inv
    have ho : (st1 ++ junk)[st.length + k]? = some (.obj c xs) := by
      rw [List.getElem?_append_right (by omega), hl, Nat.add_sub_cancel_left]
      exact hk
    obtain ⟨dx, us, hu, ru, _⟩ := R'.reps _ _ a ho ha
    obtain ⟨R2, g2⟩ := R'.frz ha ho trivial hu
    have e1 : ((st1 ++ junk).set (st.length + k) .gone).take st.length = st1 := by
      rw [List.set_append_right _ _ (by omega), ← hl, List.take_left]
    have R3 := R2.cut (n := st.length) (by rw [List.length_set, List.length_append]; omega) (by rw [e1]; exact fun i o e => cl_store R (hs i o e))
    rw [e1] at R3
    obtain ⟨tl, et, ft⟩ := g.ι
    have hw : w.ι.length = st.length := R.len
    have gc : Step w H ⟨upd w'.G a (.ins (Γ.cls c) dx ((Γ.fld c).zip us)), w'.ι.take st.length⟩ H' := by
      refine ⟨fun b o q => g2.G _ _ (g.G b o q), ⟨[], by show w'.ι.take _ = _; rw [et, ← hw, List.take_left, List.append_nil], fun _ z => nomatch z⟩, g.keep, g.dom, fun b o q => ?_⟩
      by_cases hb : b = a
      · have : a ∈ tl := by
          rw [et, List.getElem?_append_right (by rw [hw]; omega)] at ha
          exact List.mem_of_getElem? ha
        exact .inr (.inl (by rw [hb]; exact ft a this))
      · have q : upd w'.G a (.ins (Γ.cls c) dx ((Γ.fld c).zip us)) b = some o := q
        rw [upd_ne hb] at q
        exact g.gnew b o q
    refine h _ _ H' gc R3 (.mk_ins (vs := us) upd_same ?_ hn)
    have ru2 : RepL Γ ⟨upd w'.G a (.ins (Γ.cls c) dx ((Γ.fld c).zip us)), w'.ι⟩ xs us := ru.mono g2
    exact ru2.crop (clBL_iff.mpr fun d hd' => cl_args R ra (hd d hd'))
  | cutX c fs st1 junk hl hd hs =>
    intro w' cv dx H' g R' xr
    have R2 := R'.cut (n := st.length) (by rw [List.length_append]; omega) (by rw [tk st1 junk hl]; exact fun i o e => cl_store R (hs i o e))
    rw [tk st1 junk hl] at R2
    have gc := g.cut
    rw [R.len] at gc
    refine h _ cv dx H' gc R2 ?_
    obtain ⟨e, x | ⟨d, us, e2, s, r, l⟩⟩ := xr
    · exact ⟨e, .inl x⟩
    · exact ⟨e, .inr ⟨d, us, e2, s, r.crop (clBL_iff.mpr fun d hd' => cl_args R ra (hd d hd')), l⟩⟩
theorem Ref.of_bad {r r' : Res D} (h : Ref Γ ds st r r') (e : r = .bad) : r' = .bad := by
  cases h with
  | bad r => rfl
  | same r => exact e
  | cut _ _ _ _ _ _ => cases e
  | lst _ _ _ _ _ _ _ _ => cases e
  | obj _ _ _ _ _ _ _ _ _ _ => cases e
  | cutX _ _ _ _ _ _ _ => cases e
theorem FnD.ref {P : Program} {W' : World} {mg : Str → Option Value} {base : Heap} {k : Nat} {f : Addr} {fd : FuncData} {ps : List Str} {den den' : List D → M D} (F : FnD P W' Γ mg base k f fd ps den) (h : ∀ ds st, Ref Γ ds st (den ds st) (den' ds st)) : FnD P W' Γ mg base k f fd ps den' :=
  ⟨fun ds st n => F.len ds st fun z => n ((h ds st).of_bad z), fun A outer s H args us vs wd st ds Q E hr hg e0 hb r R rp hp => F.run A outer s H args us vs wd st ds Q E hr hg e0 hb r R rp ((h ds st).post R rp hp)⟩
theorem FD.ref {P : Program} {W' : World} {mg : Str → Option Value} {base : Heap} {k : Nat} {x : Str} {den den' : List D → M D} (F : FD P W' Γ mg base k x den) (h : ∀ ds st, Ref Γ ds st (den ds st) (den' ds st)) : FD P W' Γ mg base k x den' :=
  let ⟨fa, fd, ps, a, b, c, d⟩ := F.ex
  ⟨fa, fd, ps, a, b, c.ref h, d⟩
theorem MD.ref {P : Program} {W' : World} {mg : Str → Option Value} {base : Heap} {k c : Nat} {m : Str} {den den' : List D → M D} (F : MD P W' Γ mg base k c m den) (h : ∀ ds st, Ref Γ ds st (den ds st) (den' ds st)) : MD P W' Γ mg base k c m den' :=
  let ⟨fa, fd, ps, a, b, c, d, e⟩ := F.ex
  ⟨fa, fd, ps, a, b, c.ref h, d, e⟩
end
end DS

namespace DS
open PySem L2 PySem.Spec PyProof.Rows

/-! ### objects are made -/
def rawMk (c : Nat) (init : List D → M D) : List D → M D := fun ds st => (init (.cell st.length :: ds) (st ++ [.obj c []])).bind fun d s1 => match d with
  | .non => .ok (.cell st.length) s1
  | _ => .bad
/-- the module's name x holds the class c; called it gives den -/
structure CD (P : Program) (w : World) (Γ : Sig) (mg : Str → Option Value) (base : Heap) (k : Nat) (x : Str) (den : List D → M D) : Prop where
  ex : ∃ (c : Nat) (f : Addr) (fd : FuncData) (ps : List Str) (init : List D → M D), mg x = some (.ref (Γ.cls c)) ∧ Mk Γ.K (Γ.cls c) f ∧ FnD P w Γ mg base k f fd ps init ∧ Binds Γ.K fd ps [] ∧ ∀ ds st, Ref Γ ds st (rawMk c init ds st) (den ds st)
theorem CD.mono {P : Program} {w : World} {Γ : Sig} {mg : Str → Option Value} {base : Heap} {j k : Nat} {x : Str} {den : List D → M D} (F : CD P w Γ mg base j x den) (h : j ≤ k) : CD P w Γ mg base k x den :=
  let ⟨c, f, fd, ps, i, a, b, d, e, g⟩ := F.ex
  ⟨c, f, fd, ps, i, a, b, d.mono h, e, g⟩
def pick {α : Type} (ix : List Nat) (xs : List α) : List α := ix.filterMap fun i => xs[i]?
section
variable {X : Cx} {Γ : Sig} {W : WX} {k c : Nat} {x m : Str} {p pos apos : Pos} {e o : Expr} {es : List Expr} {fo fe : FE} {fr : DEnv → M (List D)} {den init : List D → M D}
theorem run_mk {pins : List (Addr × Obj)} {σ : L2.St} {H : Hp} {s : Shared} {Q : VK} {f : Addr} {fd : FuncData} {ps : List Str} {wd : Wd} {st : Store} {ds : List D} {us : List Value} {vs : List V} (hK : X.K = Γ.K) (Mk' : Mk Γ.K (Γ.cls c) f) (F : FnD X.prog X.w Γ X.mg X.base k f fd ps init) (hb : Binds Γ.K fd ps []) (hr : Room (k + 1) X.A) (hgd : X.A.guards = some []) (tk : Takes X W)
    (I : Inv X pins σ H s) (r : Vals vs us) (R : Rel Γ wd st H) (rp : RepL Γ wd ds vs) (h : Post Γ wd H (Rep Γ) (fun cv dx H' => W cv dx σ H') (rawMk c init ds st) Q) : wpAny (model X.prog X.w) X.A (call (.ref (Γ.cls c)) us) (EP X pins σ Q) X.xe s := by
  have nx : H (s.heap.objs.size + 1) = none := I.hok.fresh (Nat.le_succ _)
  have ndx : H s.heap.objs.size = none := I.hok.fresh (Nat.le_refl _)
  have ne : s.heap.objs.size + 1 ≠ s.heap.objs.size := Nat.succ_ne_self _
  have I2 := Inv.made (C := Γ.cls c) I
  -- the new instance in the store
  have sm : Same H (upd H s.heap.objs.size (.own (s.heap.objs.size + 1))) := fun b o q => by rw [upd_ne (ne_of_none q ndx)]; exact q
  have Ra := R.same sm
  obtain ⟨w2, s2, R2, e2⟩ := Ra.lay2 (p := s.heap.objs.size + 1) (u := .ins (Γ.cls c) s.heap.objs.size []) (o := .obj c []) (by rw [upd_ne ne]; exact nx) ⟨s.heap.objs.size, [], by rw [upd_same, List.zip_nil_right], .nil, Nat.zero_le _⟩
  have s3 : Step wd H w2 (upd (upd H s.heap.objs.size (.own (s.heap.objs.size + 1))) (s.heap.objs.size + 1) (.ins (Γ.cls c) s.heap.objs.size [])) := (Step.same sm).trans s2
  have rA : RepL Γ w2 (.cell st.length :: ds) (.ref (s.heap.objs.size + 1) :: vs) := .cons (.mk_cell e2) (rp.mono s3.grow)
  have rV : Vals (V.ref (s.heap.objs.size + 1) :: vs) (Value.ref (s.heap.objs.size + 1) :: us) := .cons rfl r
  have hp : Post Γ w2 _ (Rep Γ) (fun cv dx H' => W cv dx σ H') (init (.cell st.length :: ds) (st ++ [.obj c []])) (fun v H2 => v = .non ∧ Q (.ref (s.heap.objs.size + 1)) H2) :=
    Post.mid (rep' := Rep Γ) (Post.grow s3 h) fun w1 d st1 v H1 g R1 r1 h1 => by
      cases d with
      | non => exact ⟨r1.non_inv, Post.at h1 R1 (.mk_cell (g.grow.at e2))⟩
      | _ => exact h1.elim
  have nb : init (.cell st.length :: ds) (st ++ [.obj c []]) ≠ .bad := fun z => by rw [z] at hp; exact hp
  have hl : (Value.ref (s.heap.objs.size + 1) :: us).length = ps.length := by rw [← rV.length, rA.length]; exact F.len _ _ nb
  have b := hb { s with heap := (s.heap.push PySem.W.emptyDict).push (PySem.W.instObj (Γ.cls c) s.heap.objs.size) } (Value.ref (s.heap.objs.size + 1) :: us) (by rw [← hK]; exact I2.kIn) (by rw [List.append_nil]; exact hl)
  rw [List.append_nil] at b
  have e0 := I2.env0.make (Γ.cls c) us []
  rw [hK] at e0
  have hgd' : (X.A.under (.builtin "type.__call__" ⟨.ref (Γ.cls c) :: us, []⟩)).guards = some [] := by
    have hq : (Code.builtin "type.__call__" ⟨.ref (Γ.cls c) :: us, []⟩).guards = [] := by first | rfl | simp [Code.guards, Code.isGuard, guardIds]
    first
      | (show pushGuards _ X.A.guards = _; rw [hgd, hq]; rfl)
      | simp [Around.under, pushGuards, hgd, hq]
  have kin := I.kIn
  rw [hK] at kin
  refine wpAny_call (make_map (f := f) kin Mk'.makes Mk'.init (beq_iff_eq.mp Mk'.fn)
    (codeAny_mono (F.run _ X.stack _ _ ⟨_, []⟩ _ _ w2 _ _ _ (WE W σ) (hr.make (Γ.cls c) us []) hgd' e0 b rV R2 rA hp) fun r s' hq' => ?_))
  cases r with
  | error e => exact passAt tk σ pins _ _ e s' I2 hq'
  | ok fl =>
    cases fl with
    | ret u =>
      obtain ⟨v, H', I3, rv, ev, q3⟩ := I2.after hq'
      subst ev
      exact ⟨rv, ⟨V.ref (s.heap.objs.size + 1), H', I3, rfl, q3⟩⟩
    | next => exact hq'.elim
    | brk => exact hq'.elim
    | cont => exact hq'.elim
theorem d_make (hK : X.K = Γ.K) (F : CD X.prog X.w Γ X.mg X.base k x den) (hr : Room (k + 1) X.A) (hgd : X.A.guards = some []) (tk : Takes X W) (hg : Gl X x) (ha : DA X Γ W (e :: es) fr) (hdb : (x == ("__debug__" : Str)) = false := by decide)
    (he : starEach (e :: es) X.env = (false, eval e X.env) :: starEach es X.env := by rfl) (hpl : (backTo pos (starEach es X.env)).any (·.1) = false := by rfl) : DE X Γ W (.Call (.Name x p) (e :: es) [] pos) (xCall den fr) := by
  obtain ⟨c, f, fd, ps, init, hm, M', Fn, hb, hf⟩ := F.ex
  refine ⟨⟨fun pins s σ H Q I ⟨w, env, st, R, ev, h⟩ => ?_⟩⟩
  refine wpAny_Call_Name_kw (ld_glob I hg hm ?_ hdb)
  refine PySem.W.callWith_K (h₀ := X.base) I.ok.mod.kin (by rw [hK]; exact M'.kp) (thn (ha.pa.run pos pins s σ H (fun vs H1 => ∃ w1 ds st1, Rel Γ w1 st1 H1 ∧ RepL Γ w1 ds vs ∧ Post Γ w1 H1 (Rep Γ) (fun cv dx H' => W cv dx σ H') (den ds st1) Q) I
    ⟨w, env, st, R, ev, Post.mid (rep' := RepL Γ) h fun w1 ds st1 vs H1 g R1 r1 h1 => ⟨w1, ds, st1, R1, r1, h1⟩⟩) fun us s1 ⟨vs, H1, I1, r, w1, ds, st1, R1, r1, h1⟩ => ⟨I1.kIn, ?_⟩) he hpl
  exact run_mk hK M' Fn hb hr hgd tk I1 r R1 r1 ((hf ds st1).post R1 r1 h1)
theorem d_make0 (hK : X.K = Γ.K) (F : CD X.prog X.w Γ X.mg X.base k x den) (hr : Room (k + 1) X.A) (hgd : X.A.guards = some []) (tk : Takes X W) (hg : Gl X x) (hdb : (x == ("__debug__" : Str)) = false := by decide) : DE X Γ W (.Call (.Name x p) [] [] pos) (xCall den aNil) := by
  obtain ⟨c, f, fd, ps, init, hm, M', Fn, hb, hf⟩ := F.ex
  refine ⟨⟨fun pins s σ H Q I ⟨w, env, st, R, ev, h⟩ => ?_⟩⟩
  refine wpAny_Call_Name_kw (ld_glob I hg hm ?_ hdb)
  have h : Post Γ w H (Rep Γ) (fun cv dx H' => W cv dx σ H') (den [] st) Q := h
  exact PySem.W.callWith_K0 I.kIn (by rw [hK]; exact M'.kp) (run_mk hK M' Fn hb hr hgd tk I .nil R .nil ((hf [] st).post R .nil h))

/-! ### keywords -/
structure DK (X : Cx) (Γ : Sig) (W : WX) (ks : List Keyword) (f : DEnv → M (List D)) : Prop where
  pk : PK X ks (tA Γ W f)
theorem dk_nil : DK X Γ W [] aNil := ⟨⟨fun pos pins s σ H Q I ⟨w, env, st, R, ev, h⟩ => pk_nil.run pos pins s σ H Q I (Post.at h R .nil)⟩⟩
theorem dk_cons {kws : List Keyword} {nm : Option Str} {kp : Pos} (ha : DE X Γ W e fe) (hr : DK X Γ W kws fr) : DK X Γ W (⟨nm, e, kp⟩ :: kws) (aCons fe fr) := ⟨⟨fun pos pins s σ H Q I ⟨w, env, st, R, ev, h⟩ => (pk_cons ha.pe hr.pk).run pos pins s σ H Q I
  ⟨w, env, st, R, ev, Post.mid (rep' := Rep Γ) h fun w1 d st1 x H1 g1 R1 r1 h1 => ⟨w1, env, st1, R1, ev.mono g1.grow, Post.mid (rep' := RepL Γ) h1 fun w2 ds st2 xs H2 g2 R2 r2 h2 => Post.at h2 R2 (.cons (r1.mono g2.grow) r2)⟩⟩⟩⟩
/-- how the keywords ks bind, behind n values by position -/
def KB (K : PySem.W.Frag) (fd : FuncData) (ps ks : List Str) (ix : List Nat) (n : Nat) : Prop := ∀ (s : Shared) (us ws : List Value), K.In s.heap → us.length = n → ws.length = ks.length → BindsTo s fd ⟨us, ks.zip ws⟩ (ps.zip (us ++ pick ix ws))
theorem pick_rel {α β : Type} {F : List α → List β → Prop} (P1 : α → β → Prop) : ∀ (ix : List Nat) {xs : List α} {ys : List β}, (∀ (i : Nat) (x : α), xs[i]? = some x → ∃ y, ys[i]? = some y ∧ P1 x y) → (∀ (i : Nat), xs[i]? = none → ys[i]? = none) → F [] [] → (∀ x y xs ys, P1 x y → F xs ys → F (x :: xs) (y :: ys)) → F (pick ix xs) (pick ix ys)
  | [], _, _, _, _, h0, _ => h0
  | i :: ix, xs, ys, h1, h2, h0, hc => by
    have ih := pick_rel P1 ix h1 h2 h0 hc
    unfold pick at ih ⊢
    cases e : xs[i]? with
    | none => simp only [List.filterMap_cons, e, h2 i e]; exact ih
    | some x =>
      obtain ⟨y, ey, r⟩ := h1 i x e
      simp only [List.filterMap_cons, e, ey]
      exact hc _ _ _ _ r ih
theorem pick_vals (ix : List Nat) {vs : List V} {us : List Value} (r : Vals vs us) : Vals (pick ix vs) (pick ix us) := pick_rel (F := Vals) RelV ix (fun i x h => r.get h) (fun i h => r.none_of h) .nil fun _ _ _ _ a b => .cons a b
theorem pick_rep (ix : List Nat) {w : Wd} {ds : List D} {vs : List V} (r : RepL Γ w ds vs) : RepL Γ w (pick ix ds) (pick ix vs) := pick_rel (F := RepL Γ w) (Rep Γ w) ix (fun i x h => r.get h) (fun i h => List.getElem?_eq_none_iff.mpr (by rw [r.length]; exact List.getElem?_eq_none_iff.mp h)) .nil fun _ _ _ _ a b => .cons a b
/-- the module's name x holds a def that is called by the keywords ks -/
structure FDK (P : Program) (w : World) (Γ : Sig) (mg : Str → Option Value) (base : Heap) (k : Nat) (x : Str) (ks : List Str) (ix : List Nat) (den : List D → M D) : Prop where
  ex : ∃ (fa : Addr) (fd : FuncData) (ps : List Str), mg x = some (.ref fa) ∧ PySem.W.keepIn Γ.K (.ref fa) = true ∧ FnD P w Γ mg base k fa fd ps den ∧ KB Γ.K fd ps ks ix 0
structure MDK (P : Program) (w : World) (Γ : Sig) (mg : Str → Option Value) (base : Heap) (k : Nat) (c : Nat) (m : Str) (ks : List Str) (ix : List Nat) (den : List D → M D) : Prop where
  ex : ∃ (fa : Addr) (fd : FuncData) (ps : List Str), Cls Γ.K (Γ.cls c) ∧ Meth Γ.K (Γ.cls c) m fa ∧ FnD P w Γ mg base k fa fd ps den ∧ KB Γ.K fd ps ks ix 1 ∧ m ∉ Γ.fld c
theorem FDK.mono {P : Program} {w : World} {Γ : Sig} {mg : Str → Option Value} {base : Heap} {j k : Nat} {x : Str} {ks : List Str} {ix : List Nat} {den : List D → M D} (F : FDK P w Γ mg base j x ks ix den) (h : j ≤ k) : FDK P w Γ mg base k x ks ix den :=
  let ⟨fa, fd, ps, a, b, c, d⟩ := F.ex
  ⟨fa, fd, ps, a, b, c.mono h, d⟩
theorem MDK.mono {P : Program} {w : World} {Γ : Sig} {mg : Str → Option Value} {base : Heap} {j k c : Nat} {m : Str} {ks : List Str} {ix : List Nat} {den : List D → M D} (F : MDK P w Γ mg base j c m ks ix den) (h : j ≤ k) : MDK P w Γ mg base k c m ks ix den :=
  let ⟨fa, fd, ps, a, b, c, d, e⟩ := F.ex
  ⟨fa, fd, ps, a, b, c.mono h, d, e⟩
def xCallK (ix : List Nat) (den : List D → M D) (f : DEnv → M (List D)) : FE := fun env st => (f env st).bind fun ds s1 => den (pick ix ds) s1
def xMethK (c : Nat) (ix : List Nat) (den : List D → M D) (o : FE) (f : DEnv → M (List D)) : FE := fun env st => (o env st).bind fun d s1 => match fieldsOf d s1 with
  | some (c', _) => if c' = c then (f env s1).bind fun ds s2 => den (d :: pick ix ds) s2 else .bad
  | none => .bad
theorem d_callK {kws : List Keyword} {ks : List Str} {ix : List Nat} (hK : X.K = Γ.K) (F : FDK X.prog X.w Γ X.mg X.base k x ks ix den) (hr : Room k X.A) (hgd : X.A.guards = some []) (tk : Takes X W) (hg : Gl X x) (hk : DK X Γ W kws fr)
    (hall : (backToKw pos (keywordEach kws X.env)).all (·.1.isSome) = true := by rfl) (hks : (backToKw pos (keywordEach kws X.env)).filterMap (·.1) = ks := by rfl) (hlen : ((backToKw pos (keywordEach kws X.env)).map (·.2)).length = ks.length := by rfl) (hdb : (x == ("__debug__" : Str)) = false := by decide)
    (hpl : ((backTo pos (starEach [] X.env)).any (·.1) || (backToKw pos (keywordEach kws X.env)).any (·.1.isNone)) = false := by rfl) (hfl : ∀ ds env st st1, fr env st = .ok ds st1 → ds.length = ks.length) : DE X Γ W (.Call (.Name x p) [] kws pos) (xCallK ix den fr) := by
  obtain ⟨fa, fd, ps, hm, hkp, Fn, hb⟩ := F.ex
  refine ⟨⟨fun pins s σ H Q I ⟨w, env, st, R, ev, h⟩ => ?_⟩⟩
  refine wpAny_Call_Name_kw (ld_glob I hg hm ?_ hdb)
  rw [← hK] at hkp
  refine PySem.W.callWith_KW0 (h₀ := X.base) I.ok.mod.kin hkp hall (thn (hk.pk.run pos pins s σ H (fun vs H1 => ∃ w1 ds st1, ds.length = ks.length ∧ Rel Γ w1 st1 H1 ∧ RepL Γ w1 ds vs ∧ Post Γ w1 H1 (Rep Γ) (fun cv dx H' => W cv dx σ H') (den (pick ix ds) st1) Q) I
    ⟨w, env, st, R, ev, ?_⟩) fun us s1 ⟨vs, H1, I1, r, w1, ds, st1, l1, R1, r1, h1⟩ => ⟨I1.kIn, ?_⟩) hpl
  · cases er : fr env st with
    | bad => unfold xCallK at h; rw [er] at h; exact h.elim
    | exn c fs s1 => unfold xCallK at h; rw [er] at h; exact h
    | ok ds s1 =>
      unfold xCallK at h
      rw [er] at h
      exact fun w1 v H1 g R1 r1 => ⟨w1, ds, s1, hfl ds env st s1 er, R1, r1, Post.grow g h⟩
  rw [hks]
  have b := hb s1 [] us (by rw [← hK]; exact I1.kIn) rfl (by rw [← r.length, r1.length, l1])
  exact run_fnD (args := ⟨[], ks.zip us⟩) hK Fn hr hgd tk I1 b (pick_vals ix r) R1 (pick_rep ix r1) h1
theorem d_methK {pl : Sem Bool} {kws : List Keyword} {ks : List Str} {ix : List Nat} (hK : X.K = Γ.K) (F : MDK X.prog X.w Γ X.mg X.base k c m ks ix den) (hr : Room k X.A) (hgd : X.A.guards = some []) (tk : Takes X W) (ho : DE X Γ W o fo) (hk : DK X Γ W kws fr)
    (hfl : ∀ ds env st st1, fr env st = .ok ds st1 → ds.length = ks.length)
    (hall : (backToKw pos (keywordEach kws X.env)).all (·.1.isSome) = true := by rfl) (hks : (backToKw pos (keywordEach kws X.env)).filterMap (·.1) = ks := by rfl)
    (hpl : ((backTo pos (starEach [] X.env)).any (·.1) || (backToKw pos (keywordEach kws X.env)).any (·.1.isNone)) = false := by rfl)
    (ht : eval (.Call (.Attribute o m apos) [] kws pos) X.env = (do
      let ov ← eval o X.env
      standAt apos.atName
      let (f, first) ← holding [ov] (getMethod ov m pl)
      callWith pos f first (backTo pos (starEach [] X.env)) (backToKw pos (keywordEach kws X.env))) := by rfl) : DE X Γ W (.Call (.Attribute o m apos) [] kws pos) (xMethK c ix den fo fr) := by
  obtain ⟨fa, fd, ps, cl, hm, Fn, hb, nf⟩ := F.ex
  refine ⟨⟨fun pins s σ H Q I ⟨w, env, st, R, ev, h⟩ => ?_⟩⟩
  refine PySem.W.methodCall_KW (pl := pl) (thn (ho.pe.run pins s σ H (fun v H1 => ∃ w1 d st1, Rel Γ w1 st1 H1 ∧ EnvR Γ w1 env σ ∧ Rep Γ w1 d v ∧ Post Γ w1 H1 (Rep Γ) (fun cv dx H' => W cv dx σ H') (match fieldsOf d st1 with
      | some (c', _) => if c' = c then (fr env st1).bind fun ds s2 => den (d :: pick ix ds) s2 else .bad
      | none => .bad) Q) I
    ⟨w, env, st, R, ev, Post.mid (rep' := Rep Γ) h fun w1 d st1 v H1 g R1 r1 h1 => ⟨w1, d, st1, R1, ev.mono g.grow, r1, h1⟩⟩) fun u s1 ⟨v, H1, I1, rv, w1, d, st1, R1, ev1, r1, h1⟩ => ?_) ht
  split at h1
  · rename_i c' ds0 hd
    split at h1
    · rename_i hc
      subst hc
      obtain ⟨a, dx, vs0, rfl, ha0, _⟩ := fields_ok R1 r1 hd
      obtain rfl : u = Value.ref a := rv
      refine getmeth_ok I1 ha0 (by rw [hK]; exact cl) (by rw [hK]; exact hm) (lookup_none nf) ?_
      refine PySem.W.callWith_KW0 (first := [.ref a]) (h₀ := X.base) I.ok.mod.kin (by rw [hK]; exact hm.kp) hall (thn (hk.pk.run pos pins s1 σ H1 (fun vs H2 => ∃ w2 ds st2, ds.length = ks.length ∧ Rel Γ w2 st2 H2 ∧ Rep Γ w2 d (.ref a) ∧ RepL Γ w2 ds vs ∧ Post Γ w2 H2 (Rep Γ) (fun cv dx H' => W cv dx σ H') (den (d :: pick ix ds) st2) Q) I1
        ⟨w1, env, st1, R1, ev1, ?_⟩) fun us s2 ⟨vs, H2, I2, rr, w2, ds, st2, l2, R2, rd, r2, h2⟩ => ⟨I2.kIn, ?_⟩) hpl
      · cases er : fr env st1 with
        | bad => rw [er] at h1; exact h1.elim
        | exn c fs s2 => rw [er] at h1; exact h1
        | ok ds s2 =>
          rw [er] at h1
          exact fun w2 v H2 g R2 r2 => ⟨w2, ds, s2, hfl ds env st1 s2 er, R2, r1.mono g.grow, r2, Post.grow g h1⟩
      rw [hks]
      have b := hb s2 [.ref a] us (by rw [← hK]; exact I2.kIn) rfl (by rw [← rr.length, r2.length, l2])
      have rV : Vals (V.ref a :: pick ix vs) (Value.ref a :: pick ix us) := .cons rfl (pick_vals ix rr)
      exact run_fnD (args := ⟨[.ref a], ks.zip us⟩) hK Fn hr hgd tk I2 b rV R2 (.cons rd (pick_rep ix r2)) h2
    · exact h1.elim
  · exact h1.elim
theorem aNil_len : ∀ ds (env : DEnv) (st st1 : Store), aNil env st = .ok ds st1 → ds.length = 0 := fun ds env st st1 h => by cases h; rfl
theorem aCons_len {n : Nat} (h : ∀ ds (env : DEnv) (st st1 : Store), fr env st = .ok ds st1 → ds.length = n) : ∀ ds (env : DEnv) (st st1 : Store), aCons fe fr env st = .ok ds st1 → ds.length = n + 1 := fun ds env st st1 q => by
  unfold aCons at q
  cases e1 : fe env st with
  | bad => rw [e1] at q; cases q
  | exn _ _ _ => rw [e1] at q; cases q
  | ok d s1 =>
    rw [e1] at q
    have q : (fr env s1).bind (fun xs s2 => Res.ok (d :: xs) s2) = .ok ds st1 := q
    cases e2 : fr env s1 with
    | bad => rw [e2] at q; cases q
    | exn _ _ _ => rw [e2] at q; cases q
    | ok xs s2 =>
      rw [e2] at q
      cases q
      rw [List.length_cons, h xs env s1 _ e2]

/-! ### stars, raise, repr -/
def aStar (a : FE) (r : DEnv → M (List D)) : DEnv → M (List D) := fun env st => (a env st).bind fun d s1 => match seqOf d s1 with
  | some xs => (r env s1).bind fun ys s2 => .ok (xs ++ ys) s2
  | none => .bad
theorem da_star (hK : X.K = Γ.K) (ha : DE X Γ W e fe) (hr : DA X Γ W es fr) (hs : starEach (.Starred e p :: es) X.env = (true, eval e X.env) :: starEach es X.env := by rfl) : DA X Γ W (.Starred e p :: es) (aStar fe fr) := ⟨PA.imp (StX.pa_star ha.pe hr.pa hs) fun σ H Q ⟨w, env, st, R, ev, h⟩ => by
  rw [hK]
  exact ⟨w, env, st, R, ev, Post.mid (rep' := Rep Γ) h fun w1 d st1 x H1 g1 R1 r1 h1 => by
    split at h1
    · rename_i xs hx
      obtain ⟨a, vs, rfl, s, q⟩ := seq_ok R1 r1 hx
      exact ⟨a, vs, rfl, s.symm, w1, env, st1, R1, ev.mono g1.grow, Post.mid (rep' := RepL Γ) h1 fun w2 ds st2 ys H2 g2 R2 r2 h2 => Post.at h2 R2 ((q.mono g2.grow).append r2)⟩
    · exact h1.elim⟩⟩
def sRaise (c : Nat) : FS := fun env st => .exn c [] env st
/-- what an own exception class without __init__ must say -/
structure ExcOk (X : Cx) (x : Str) (C : Addr) : Prop where
  gC : X.mg x = some (.ref C)
  xC : PySem.W.excIn X.K C [.type "ValueError", .type "Exception", .type "BaseException", .type "object"] "ValueError.__new__" = true
  kC : PySem.W.keepIn X.K (.ref C) = true
  bC : PySem.W.subIn X.K (.ref C) (.type "BaseException") = some true
  tC : PySem.W.typeIn X.K (.ref C) = some (.type "type")
theorem s_raise {j : Nat} {p2 cpos : Pos} {msg : Str} (hc : X.calm = true) (tk : Takes X W) (q : ExcOk X x (Γ.cls c)) (hg : Gl X x) (hdb : (x == ("__debug__" : Str)) = false := by decide) : DS X Γ W (.Raise (some (.Call (.Name x p) [.Constant (.str msg) j p2] [] cpos)) none pos) (sRaise c) :=
  ⟨PS.imp (ps_raise hc tk (pmk_own PySem.F.excBase_ValueError q.xC q.gC q.kC (raises_own q.bC q.tC) hg hdb)) fun N σ H ⟨w, env, st, R, ev, h⟩ => h w σ H _ _ (Step.refl _ _) R ev ⟨rfl, .inl ⟨rfl, rfl⟩⟩⟩
def reprD (ds : List D) : M D := fun st => match ds with
  | [d] => match toPy 3 st d with
    | some p => if p.showable = true ∧ p.shown.length ≤ sizeLine ∧ p.hasDict = false ∧ p.depth ≤ 60 then .ok (.str p.shown) st else .bad
    | none => .bad
  | _ => .bad
def rRepr (K : PySem.W.Frag) : List V → Hp → VK → Prop := fun xs H Q => ∃ x d, xs = [x] ∧ Dp K H x d ∧ d.showable = true ∧ d.shown.length ≤ sizeLine ∧ d.hasDict = false ∧ d.depth ≤ 60 ∧ Q (.str d.shown) H
theorem c_repr (hu : X.A.units + 64 < cLine) (hgd : X.A.guards = some []) : CallR X (.builtin "repr") (rRepr X.K) := fun pins s σ H xs us Q I r h => by
  obtain ⟨x, d, rfl, hd, hs, hz, hn, hdp, q⟩ := h
  obtain ⟨u, rfl, rx⟩ := vals1 r
  obtain ⟨as, rd⟩ := Dp.reads I d x u hd rx
  have go : ∀ a, u = .ref a → wpAny (model X.prog X.w) X.A (call (.builtin "repr") [u]) (EP X pins σ Q) X.xe s := fun a ea => by
    subst ea
    exact repr_of_reads' rd hs (fun z => by rw [hn] at z; cases z) hgd (by omega) (fun _ _ e => e) (fun h' u tk hk => ⟨.str _, H, I.kept hk, ⟨_, rfl⟩, q⟩) hz
  cases rd with
  | none => exact PySem.P.repr_of_none ⟨.str _, H, I.tok _, ⟨_, rfl⟩, q⟩
  | bool b => exact PySem.P.repr_of_bool ⟨.str _, H, I.tok _, ⟨_, rfl⟩, q⟩
  | int i t => exact PySem.P.repr_of_int (by simpa [PyData.showable] using hs) ⟨.str _, H, I.tok _, ⟨_, rfl⟩, q⟩
  | str x t => exact PySem.P.repr_of_str ⟨.str _, H, I.tok _, ⟨_, rfl⟩, q⟩ hz
  | list _ _ _ _ => exact go _ rfl
  | tuple _ _ _ _ => exact go _ rfl
  | dict _ _ _ _ _ => exact go _ rfl
theorem g_repr : CallD Γ (rRepr Γ.K) reprD := fun w st H ds vs E Q R r h => by
  unfold reprD at h
  split at h
  · obtain ⟨v, us, rfl, q1, q2⟩ := r.cons_inv
    rw [q2.nil_inv]
    split at h
    · rename_i p hp
      split at h
      · rename_i hb
        exact ⟨v, p, rfl, toPy_ok R _ _ _ _ hp q1, hb.1, hb.2.1, hb.2.2.1, hb.2.2.2, h.at R .str⟩
      · exact h.elim
    · exact h.elim
  · exact h.elim
end
end DS

namespace DS
open PySem L2 PySem.Spec PyProof.Rows

/-! ### the law's own call, with nothing under way in a repr -/
section
variable {P : Program} {w : World} {Γ : Sig} {mg mb : Str → Option Value} {k : Nat} {fa a : Addr} {fd : FuncData} {x : Str} {den : List D → M D} {s₁ : Shared} {vs : List Value} {ns : List Int}
/-- one way of tracking the script: H tracks the script alone or nothing -/
theorem call_core {H : Hp} (kin : Γ.K.In s₁.heap) (hns : s₁.heap.Ns mainGlobals mg) (hb : s₁.heap.Ns builtinsNs mb) (hbb : ∀ x : Str, x ≠ "__name__" → mb x = bootBuiltins x) (hlim : s₁.heap.NoLimit) (hg : s₁.gens = #[])
    (ha : s₁.heap.get? a = some { cls := .type "list", data := .seq vs.toArray }) (hr : Room k callerA) (F : ∀ base : Heap, Γ.K.In base → base.Ns mainGlobals mg → FnD P w Γ mg base k fa fd [x] den)
    (hbind : ∀ (s : Shared) (u : Value), BindsTo s fd ⟨[u], []⟩ [(x, u)]) (hden : ∃ st, den [.scr ns] [] = .ok (.bl true) st)
    (only : ∀ b, H b = none ∨ ∃ o xs, H b = some (.frz o (.lst xs))) (hS : SqL Γ.K H a (ns.map V.int)) (hok : HOk P w H s₁.heap) (hA : ∀ b, H b ≠ none → b = a) (hK : H a ≠ none → Γ.K.lookup a = none) :
    codeAny (model P w) callerA (.call (.ref fa) ⟨[.ref a], []⟩) (fun r s' => r = .ok (.ret (.bool true)) ∧ OldK s₁.heap s'.heap ∧ s'.os = s₁.os ∧ AllBare s'.gens) s₁ := by
  have free : ∀ {b : Addr} {o : Obj}, s₁.heap.get? b = some o → (b = a → False) → H b = none := fun {b o} _ hn => by
    cases q : H b with
    | none => rfl
    | some u => exact (hn (hA b (by rw [q]; exact fun z => nomatch z))).elim
  have dict : ∀ {b : Addr} {m : Str → Option Value}, s₁.heap.Ns b m → (hidT s₁.heap H).Ns b m := by
    rintro b m ⟨o, es, ep, e, d, r⟩
    refine ⟨o, es, ep, hidT_get e (free e ?_), d, r⟩
    intro z
    subst z
    rw [ha] at e
    cases e
    exact nomatch d
  have kinB : Γ.K.In (hidT s₁.heap H) := by
    intro b o e
    refine hidT_get (kin b o e) ?_
    cases q : H b with
    | none => rfl
    | some u =>
      have z : b = a := hA b (by rw [q]; exact fun z => nomatch z)
      subst z
      rw [hK (by rw [q]; exact fun z => nomatch z)] at e
      cases e
  have md : Mod Γ.K mg (hidT s₁.heap H) := by
    obtain ⟨mc, h1, h2⟩ := hlim
    exact ⟨kinB, dict hns, ⟨mb, dict hb, hbb⟩, ⟨mc, dict h1, h2⟩⟩
  have e0 : Env0 P w Γ.K mg (hidT s₁.heap H) callerA [] s₁ H :=
    ⟨rfl, md, fun b o e => of_hidT e, Nat.le_of_eq (hidT_size _ _), trivial, (fun b hb => nomatch hb), hok, .of_eq hg⟩
  obtain ⟨st', hden⟩ := hden
  have R : Rel Γ ⟨H, []⟩ [] H := ⟨Same.refl _, rfl, (fun i j b h => by simp at h), (fun i b h => by simp at h), (fun i o b h => by simp at h), (fun p h => by simp at h)⟩
  refine codeAny_mono ((F _ kinB (dict hns)).run callerA [] s₁ H ⟨[.ref a], []⟩ [.ref a] [.ref a] ⟨H, []⟩ [] [.scr ns] (fun v _ => v = .bl true) (fun _ _ _ => False) hr rfl e0
    (hbind s₁ (.ref a)) (.cons rfl .nil) R (.cons (.mk_scr hS) .nil) (by rw [hden]; exact fun w' v H' _ _ r => r.bl_inv)) fun r s' h => ?_
  cases r with
  | error e =>
    obtain ⟨_, _, _, _, _, _, _, _, _, _, _, _, z⟩ := h
    exact z.elim
  | ok fl =>
    cases fl with
    | ret u =>
      obtain ⟨v, H', os, bare, un, hok', r', q⟩ := h
      have q : v = .bl true := q
      subst q
      obtain rfl : u = Value.bool true := r'
      refine ⟨rfl, OldK.of_keep fun b o e => ?_, os, bare⟩
      cases q : H b with
      | none => exact un.keep b o e q (fun z => nomatch z) (fun z => nomatch z)
      | some u =>
        rcases only b with z | ⟨ob, xs, z⟩
        · rw [q] at z
          cases z
        · obtain ⟨e1, _⟩ := hok b _ z
          obtain ⟨e2, _⟩ := hok' b _ (un.frzs b ob _ z)
          rw [e] at e1
          cases e1
          exact e2
    | next => exact h.elim
    | brk => exact h.elim
    | cont => exact h.elim
theorem law_callD (kin : Γ.K.In s₁.heap) (hns : s₁.heap.Ns mainGlobals mg) (hb : s₁.heap.Ns builtinsNs mb) (hbb : ∀ x : Str, x ≠ "__name__" → mb x = bootBuiltins x) (hlim : s₁.heap.NoLimit) (hg : s₁.gens = #[])
    (ha : s₁.heap.get? a = some { cls := .type "list", data := .seq vs.toArray }) (hi : IntsAre vs ns) (hl : ns.length ≤ sizeLine) (hr : Room k callerA) (F : ∀ base : Heap, Γ.K.In base → base.Ns mainGlobals mg → FnD P w Γ mg base k fa fd [x] den)
    (hbind : ∀ (s : Shared) (u : Value), BindsTo s fd ⟨[u], []⟩ [(x, u)]) (hden : ∃ st, den [.scr ns] [] = .ok (.bl true) st) :
    codeAny (model P w) callerA (.call (.ref fa) ⟨[.ref a], []⟩) (fun r s' => r = .ok (.ret (.bool true)) ∧ OldK s₁.heap s'.heap ∧ s'.os = s₁.os ∧ AllBare s'.gens) s₁ := by
  have rv := vals_ints hi
  cases hk : Γ.K.lookup a with
  | some o =>
    have e := kin a o hk
    rw [ha] at e
    cases e
    exact call_core (H := fun _ => none) kin hns hb hbb hlim hg ha hr F hbind hden (fun _ => .inl rfl) (.inr ⟨_, vs.toArray, _, hk, rfl, rfl, rfl, by rw [List.size_toArray, hi.length]; exact hl, by simpa using rv⟩)
      (fun b u z => nomatch z) (fun b z => (z rfl).elim) fun z => (z rfl).elim
  | none =>
    have here : ∀ {b : Addr}, b = a → (fun b => if b = a then some (HO.frz { cls := .type "list", data := .seq vs.toArray } (.lst (ns.map V.int))) else none) b = some (.frz { cls := .type "list", data := .seq vs.toArray } (.lst (ns.map V.int))) := fun h => if_pos h
    refine call_core (H := fun b => if b = a then some (.frz { cls := .type "list", data := .seq vs.toArray } (.lst (ns.map V.int))) else none) kin hns hb hbb hlim hg ha hr F hbind hden (fun b => ?_) (.inl (.inr ⟨_, here rfl⟩)) (fun b u z => ?_) (fun b z => ?_) fun _ => hk
    · by_cases q : b = a
      · exact .inr ⟨_, _, here q⟩
      · exact .inl (if_neg q)
    · by_cases q : b = a
      · have z' := (here q).symm.trans z
        cases z'
        subst q
        exact ⟨ha, by rw [List.length_map]; exact hl, vs, _, rv, ha⟩
      · have z' := (if_neg q).symm.trans z
        cases z'
    · by_cases q : b = a
      · exact q
      · exact (z (if_neg q)).elim
end
/-- the goal that k_head leaves, from the law's meaning -/
theorem walkD {l : PySem.W.OpenLaw} {n k : Nat} {q : Program} {loose : List Str} {XP : (Str → Option Value) → Heap → Prop} {YP : World → Heap → Prop} {d : DefRec} {K : Params → PySem.W.Frag} {den : List D → M D} {x : Str}
    (hn : l.most = some n) (hn2 : n ≤ sizeLine) (hdf : d.params.defaults = []) (hr : Room k callerA) (hY : ∀ (w : World) (h : Heap), YP w h → (K w.params).In h)
    (F : ∀ (w : World) (mg : Str → Option Value) (fa : Addr) (h : Heap), (K w.params).In h → h.Ns mainGlobals mg → mg d.name = some (.ref fa) →
      ∃ (Γ : Sig) (fd : FuncData), Γ.K = K w.params ∧ (∀ (s : Shared) (u : Value), BindsTo s fd ⟨[u], []⟩ [(x, u)]) ∧ ∀ base : Heap, Γ.K.In base → base.Ns mainGlobals mg → FnD l.prog w Γ mg base k fa fd [x] den)
    (hden : ∀ ns : List Int, ns.length ≤ n → ∃ st, den [.scr ns] [] = .ok (.bl true) st) : PySem.W.WalkO q loose XP YP l.row.toRowW d [] (fun f vs => PySem.call f vs) := by
  refine Att.attach_call hn hdf fun w s₀ s₁ mg mb fa o pm cd doc a vs ns G Y ho hd hcd hmg hobj hints hlen hg => ?_
  have kin := hY w _ Y
  obtain ⟨Γ, fd, eK, hb, hF⟩ := F w mg fa _ kin G.T.g hmg
  rw [← eK] at kin
  exact law_callD kin G.T.g G.T.b G.T.builtins G.T.nolimit hg hobj hints (Nat.le_trans hlen hn2) hr hF hb (hden ns hlen)
end DS

namespace DS
open PySem L2 PySem.Spec PyProof.Rows

/-! ### a op b op c; a, b = x, y; a op= e -/
def xChain (g g' : D → D → M D) (a b c : FE) : FE := fun env st => (a env st).bind fun x s1 => (b env s1).bind fun y s2 => (g x y s2).bind fun z s3 => match z with
  | .bl k => if k = true then (c env s3).bind fun u s4 => g' y u s4 else .ok (.bl false) s3
  | _ => .bad
section
variable {X : Cx} {Γ : Sig} {W : WX} {a b c e : Expr} {fa fb fc fe : FE} {fr : DEnv → M (List D)} {pos : Pos}
/-- an operation by values that raises nothing -/
def OpE (Γ : Sig) (r : R2) (g : D → D → M D) : Prop := ∀ (w : Wd) (st : Store) (H : Hp) (d e : D) (x y : V) (E : Value → Option Addr → Hp → Prop) (Q : VK), Rel Γ w st H → Rep Γ w d x → Rep Γ w e y → Post Γ w H (Rep Γ) E (g d e st) Q → r x y H Q
theorem t_chain {r r' : R2} {g g' : D → D → M D} (hg : OpD Γ r g) (hg' : OpD Γ r' g') : ∀ σ H Q, tE Γ W (xChain g g' fa fb fc) σ H Q → tChain r r' (tE Γ W fa) (tE Γ W fb) (tE Γ W fc) σ H Q := fun σ H Q ⟨w, env, st, R, ev, h⟩ =>
  ⟨w, env, st, R, ev, Post.mid (rep' := Rep Γ) h fun w1 d st1 x H1 g1 R1 r1 h1 => ⟨w1, env, st1, R1, ev.mono g1.grow, Post.mid (rep' := Rep Γ) h1 fun w2 e st2 y H2 g2 R2 r2 h2 =>
    hg w2 st2 H2 d e x y _ _ R2 (r1.mono g2.grow) r2 (Post.mid (rep' := Rep Γ) h2 fun w3 z st3 zv H3 g3 R3 r3 h3 => by
      cases z with
      | bl k =>
        refine ⟨k, r3.bl_inv, ?_⟩
        cases k with
        | true => exact ⟨w3, env, st3, R3, ev.mono ((g1.trans g2).trans g3).grow, Post.mid (rep' := Rep Γ) h3 fun w4 u st4 uv H4 g4 R4 r4 h4 => hg' w4 st4 H4 e u y uv _ Q R4 (r2.mono (g3.trans g4).grow) r4 h4⟩
        | false => exact Post.at h3 R3 .bl
      | _ => exact h3.elim)⟩⟩
theorem d_chain {op op' : CmpOp} {r r' : R2} {g g' : D → D → M D} (ho : OpR X (compareOp op) r) (ho' : OpR X (compareOp op') r') (hg : OpD Γ r g) (hg' : OpD Γ r' g') (ha : DE X Γ W a fa) (hb : DE X Γ W b fb) (hc : DE X Γ W c fc)
    (hm : lastMarks [op, op'] [b, c] = false := by with_unfolding_all rfl) : DE X Γ W (.Compare a [op, op'] [b, c] pos) (xChain g g' fa fb fc) := ⟨PE.imp (pe_chain ho ho' ha.pe hb.pe hc.pe hm) (t_chain hg hg')⟩
theorem b_chain {op op' : CmpOp} {r r' : R2} {g g' : D → D → M D} (ho : OpR X (compareOp op) r) (ho' : OpR X (compareOp op') r') (hg : OpD Γ r g) (hg' : OpD Γ r' g') (ha : DE X Γ W a fa) (hb : DE X Γ W b fb) (hc : DE X Γ W c fc)
    (hm : lastMarks [op, op'] [b, c] = false := by with_unfolding_all rfl) : DT X Γ W (.Compare a [op, op'] [b, c] pos) (bTest (xChain g g' fa fb fc)) := ⟨PT.imp (pt_chain ho ho' ha.pe hb.pe hc.pe hm) fun σ H Q ⟨w, env, st, R, ev, h⟩ =>
  t_chain (W := W) hg hg' σ H _ ⟨w, env, st, R, ev, Post.mid (rep' := Rep Γ) h fun w1 d st1 x H1 g1 R1 r1 h1 => by
    cases d with
    | bl k => exact ⟨k, r1.bl_inv, Post.at h1 R1 rfl⟩
    | _ => exact h1.elim⟩⟩
theorem s_par2 {i j : Nat} {x y : Str} {px py pt : Pos} {kt k2 pt2} (hc : X.calm = true) (hN : X.N.Nodup) (hi : X.N[i]? = some x) (hj : X.N[j]? = some y) (hij : i ≠ j) (hx : X.env.scope.names.lookup x = some .local) (hy : X.env.scope.names.lookup y = some .local) (ha : DA X Γ W [a, b] fr)
    (hw : swappedStores [.Tuple [.Name x px, .Name y py] kt pt] (.Tuple [a, b] k2 pt2) X.env = pure (some [x, y]) := by rfl) (hs : swapsWithSole [.Tuple [.Name x px, .Name y py] kt pt] (.Tuple [a, b] k2 pt2) pos.line X.env = pure false := by rfl) :
    DS X Γ W (.Assign [.Tuple [.Name x px, .Name y py] kt pt] (.Tuple [a, b] k2 pt2) pos) (sPar [i, j] fr) := ⟨PS.imp (ps_par hc hN hi hj hij hx hy ha.pa hw hs) fun N σ H ⟨w, env, st, R, ev, h⟩ =>
  ⟨w, env, st, R, ev, PostS.mid (rep := RepL Γ) ev h fun w1 ds st1 vs H1 g R1 r1 h1 => by
    have hl : ∀ env', gNms [i, j] env ds = some env' → ds.length = 2 := fun env' e => gNms_len e
    match ds, r1, h1, hl with
    | [d1, d2], r1, h1, _ =>
      obtain ⟨v, us, rfl, q1, q2⟩ := r1.cons_inv
      obtain ⟨u, ts, rfl, q3, q4⟩ := q2.cons_inv
      rw [q4.nil_inv]
      exact ⟨v, u, rfl, PostS.nxt h1 R1 (((ev.mono g.grow).set q1).set q3)⟩
    | [], _, h1, _ => exact h1.elim
    | [_], _, h1, _ => exact h1.elim
    | _ :: _ :: _ :: _, _, h1, _ => exact h1.elim⟩⟩
theorem s_par3 {i j l : Nat} {x y z : Str} {px py pz pt : Pos} {kt k2 pt2} (hc : X.calm = true) (hN : X.N.Nodup) (hi : X.N[i]? = some x) (hj : X.N[j]? = some y) (hl : X.N[l]? = some z) (hij : i ≠ j) (hil : i ≠ l) (hjl : j ≠ l)
    (hx : X.env.scope.names.lookup x = some .local) (hy : X.env.scope.names.lookup y = some .local) (hz : X.env.scope.names.lookup z = some .local) (ha : DA X Γ W [a, b, c] fr)
    (hw : swappedStores [.Tuple [.Name x px, .Name y py, .Name z pz] kt pt] (.Tuple [a, b, c] k2 pt2) X.env = pure (some [x, y, z]) := by rfl) (hs : swapsWithSole [.Tuple [.Name x px, .Name y py, .Name z pz] kt pt] (.Tuple [a, b, c] k2 pt2) pos.line X.env = pure false := by rfl) :
    DS X Γ W (.Assign [.Tuple [.Name x px, .Name y py, .Name z pz] kt pt] (.Tuple [a, b, c] k2 pt2) pos) (sPar [i, j, l] fr) := ⟨PS.imp (ps_par3 hc hN hi hj hl hij hil hjl hx hy hz ha.pa hw hs) fun N σ H ⟨w, env, st, R, ev, h⟩ =>
  ⟨w, env, st, R, ev, PostS.mid (rep := RepL Γ) ev h fun w1 ds st1 vs H1 g R1 r1 h1 => by
    match ds, r1, h1 with
    | [d1, d2, d3], r1, h1 =>
      obtain ⟨v, us, rfl, q1, q2⟩ := r1.cons_inv
      obtain ⟨u, ts, rfl, q3, q4⟩ := q2.cons_inv
      obtain ⟨t, rs, rfl, q5, q6⟩ := q4.cons_inv
      rw [q6.nil_inv]
      exact ⟨v, u, t, rfl, PostS.nxt h1 R1 ((((ev.mono g.grow).set q1).set q3).set q5)⟩
    | [], _, h1 => exact h1.elim
    | [_], _, h1 => exact h1.elim
    | [_, _], _, h1 => exact h1.elim
    | _ :: _ :: _ :: _ :: _, _, h1 => exact h1.elim⟩⟩
end
end DS

namespace DS
open PySem L2 PySem.Spec PyProof.Rows PySem.W

/-! ### names of the module, methods of several classes -/
section
variable {X : Cx} {Γ : Sig} {W : WX} {k : Nat} {x : Str} {pos : Pos}
theorem d_globI {n : Int} (hg : Gl X x) (hm : ∃ t, X.mg x = some (.int n t)) (hd : (x == ("__debug__" : Str)) = false := by decide) : DE X Γ W (.Name x pos) (xC (.int n)) := by
  obtain ⟨t, hm⟩ := hm
  exact ⟨PE.imp (pe_glob (v := .int n) hg hm ⟨_, rfl⟩ hd) fun σ H Q ⟨w, env, st, R, ev, h⟩ => Post.at h R .int⟩
theorem d_globS {z : Str} (hg : Gl X x) (hm : ∃ t, X.mg x = some (.str z t)) (hd : (x == ("__debug__" : Str)) = false := by decide) : DE X Γ W (.Name x pos) (xC (.str z)) := by
  obtain ⟨t, hm⟩ := hm
  exact ⟨PE.imp (pe_glob (v := .str z) hg hm ⟨_, rfl⟩ hd) fun σ H Q ⟨w, env, st, R, ev, h⟩ => Post.at h R .str⟩
theorem hu64 {A : Around} (r : Room k A) : A.units + 64 < cLine := r.units
theorem mok1 {m : Str} {c1 : Nat} {f1 : List D → M D} (h1 : MD X.prog X.w Γ X.mg X.base k c1 m f1) : MOk X Γ k m [(c1, f1)] := fun c den h => by
  simp only [List.lookup] at h
  split at h
  · rename_i e; obtain rfl := eq_of_beq e; cases h; exact h1
  · cases h
theorem mokC {m : Str} {c1 : Nat} {f1 : List D → M D} {tb : List (Nat × (List D → M D))} (h1 : MD X.prog X.w Γ X.mg X.base k c1 m f1) (ht : MOk X Γ k m tb) : MOk X Γ k m ((c1, f1) :: tb) := fun c den h => by
  simp only [List.lookup] at h
  split at h
  · rename_i e; obtain rfl := eq_of_beq e; cases h; exact h1
  · exact ht c den h
end
/-! ### len of an own object -/
def lenO (tb : List (Nat × (List D → M D))) (d : D) : M D := fun st => match fieldsOf d st with
  | some (c, _) => match tb.lookup c with
    | some den => match den [d] st with
      | .ok (.int n) s => if 0 ≤ n ∧ n < 2 ^ 63 then .ok (.int n) s else .bad
      | _ => .bad
    | none => .bad
  | none => .bad
def xLenO (tb : List (Nat × (List D → M D))) (o : FE) : FE := fun env st => (o env st).bind fun d s1 => lenO tb d s1
section
variable {X : Cx} {Γ : Sig} {W : WX} {k : Nat} {p pos : Pos} {o : Expr} {fo : FE} {tb : List (Nat × (List D → M D))}
theorem len_at {prog : Program} {w : World} {A : Around} {s : Shared} {K : Frag} {C f : Addr} {x : Value} {E : Value → Shared → Prop} {Q : Value → Shared → Prop} (X : K.In s.heap) (ht : Looks (model prog w) s.heap (typeOf x) (.ref C)) (hl : findIn K (.ref C) "__len__" = some (some (.ref f)))
    (hf : typeIn K (.ref f) = some (.type "function"))
    (hcall : wpAny (model prog w) A.in1 (call (.ref f) [x]) (fun r s' => ∃ n u, r = .int n u ∧ 0 ≤ n ∧ n < 2 ^ 63 ∧ Q (.int n s'.toks) { s' with toks := s'.toks + 1 }) E s) :
    wpAny (model prog w) A (call (.builtin "len") [x]) Q E s := by
  have sp : Looks (model prog w) s.heap (specialOf x "__len__") (some (.ref f)) := ht.andThen (looks_findIn X hl)
  refine Calls.call_function_entry kind_len plain_len entry_len (args_len1 _) ?_
  unfold Builtin.«len»
  refine wpAny_bind (m := oneArg "len" _) (wpAny_pure ?_)
  refine wpAny_bind (m := callSpecial? x (Str.ofString "__len__")) ?_
  simp only [callSpecial?]
  refine wpAny_bind (sp.here ?_)
  refine wpAny_holding (wpAny_bind ((bind_fn X x hf).here ?_))
  refine wpAny_bind (wpAny_mono hcall (fun r s' hr => wpAny_pure ?_) fun _ _ y => y)
  obtain ⟨n, u, rfl, h0, h1, hq⟩ := hr
  refine wpAny_bind (wpAny_holding (wpAny_pure ?_))
  refine wpAny_bind (wpAny_letGo ?_)
  show wpAny _ _ (if n < 0 then _ else _) _ _ _
  rw [if_neg (by omega)]
  show wpAny _ _ (if n ≥ 2 ^ 63 then _ else _) _ _ _
  rw [if_neg (by omega)]
  exact wpAny_bind (wpAny_mkInt (wpAny_pure ⟨_, rfl, hq⟩))
theorem call_lenO (hK : X.K = Γ.K) (F : MOk X Γ k "__len__" tb) (hr : Room (k + 1) X.A) (hgd : X.A.guards = some []) : CallR X (.builtin "len") (fun xs H Q => ∃ w st d v, xs = [v] ∧ Rel Γ w st H ∧ Rep Γ w d v ∧ ∃ E, Post Γ w H (Rep Γ) E (lenO tb d st) Q) := by
  intro pins s σ H xs us Q I r ⟨w, st, d, v, hx, R, rd, E0, h⟩
  subst hx
  obtain ⟨u, rfl, ru⟩ := vals1 r
  unfold lenO at h
  split at h
  · rename_i c ds hd
    split at h
    · rename_i den hden
      split at h
      · rename_i n st' hn
        split at h
        · rename_i hb
          obtain ⟨fa, fd, ps, cl, hm, Fn, hbd, nf⟩ := (F c den hden).ex
          obtain ⟨a, dx, vs0, rfl, ha0, _⟩ := fields_ok R rd hd
          obtain rfl : u = Value.ref a := ru
          obtain ⟨_, O, _⟩ := ins_get I.hok ha0
          have hty : Looks (model X.prog X.w) s.heap (typeOf (.ref a)) (.ref (Γ.cls c)) := (Looks.ld O.obj).andThen .now
          refine len_at I.kIn hty (by rw [hK]; exact hm.at_) (by rw [hK]; exact beq_iff_eq.mp hm.fn) ?_
          have e0 := I.env0.in1
          rw [hK] at e0
          have nb : den [d] st ≠ .bad := by rw [hn]; exact fun z => nomatch z
          have hl : [Value.ref a].length = ps.length := by
            have q := Fn.len _ st nb
            simpa using q
          have b := hbd s [.ref a] (by rw [← hK]; exact I.kIn) (by rw [List.append_nil]; exact hl)
          rw [List.append_nil] at b
          have hp : Post Γ w H (Rep Γ) (fun _ _ _ => False) (den [d] st) (fun v H' => v = .int n ∧ Q (.int n) H') := by
            rw [hn]
            exact fun w' v H' g R' r' => ⟨r'.int_inv, h w' (.int n) H' g R' .int⟩
          refine wpAny_call (codeAny_mono (Fn.run X.A.in1 X.stack s H ⟨[.ref a], []⟩ [.ref a] [.ref a] w st [d] _ (fun _ _ _ => False) hr.in1 hgd e0 b (.cons rfl .nil) R (.cons rd .nil) hp) fun r s' hq => ?_)
          cases r with
          | error e =>
            obtain ⟨_, _, _, _, _, _, _, _, _, _, _, _, z⟩ := hq
            exact z.elim
          | ok fl =>
            cases fl with
            | ret u =>
              obtain ⟨v, H', I3, rv, ev, q3⟩ := I.after hq
              subst ev
              obtain ⟨t, rfl⟩ := rv
              exact ⟨n, t, rfl, hb.1, hb.2, .int n, H', I3.tok _, ⟨_, rfl⟩, q3⟩
            | next => exact hq.elim
            | brk => exact hq.elim
            | cont => exact hq.elim
        · exact h.elim
      · exact h.elim
    · exact h.elim
  · exact h.elim
theorem d_lenO (hK : X.K = Γ.K) (F : MOk X Γ k "__len__" tb) (hr : Room (k + 1) X.A) (hgd : X.A.guards = some []) (hg : Gl X "len") (hm : X.mg "len" = none) (ho : DE X Γ W o fo)
    (he : starEach [o] X.env = (false, eval o X.env) :: starEach [] X.env := by rfl) (hpl : (backTo pos (starEach [] X.env)).any (·.1) = false := by rfl) : DE X Γ W (.Call (.Name "len" p) [o] [] pos) (xLenO tb fo) :=
  ⟨PE.imp (pe_callB (call_lenO hK F hr hgd) hg hm (by decide +kernel) (pa_cons ho.pe pa_nil he) (by decide) (by decide) he hpl) fun σ H Q ⟨w, env, st, R, ev, h⟩ =>
    ⟨w, env, st, R, ev, Post.mid (rep' := Rep Γ) h fun w1 d st1 x H1 g1 R1 r1 h1 => ⟨w1, st1, d, x, rfl, R1, r1, _, h1⟩⟩⟩
end
end DS

namespace DS
open PySem L2 PySem.Spec PyProof.Rows PySem.W

theorem kb_of {K : Frag} {x qual : Str} {st : Stmt} {f : Addr} {fd : FuncData} {ps ks : List Str} {ix : List Nat} {n : Nat} (F : L2.Fun K x qual st f fd)
    (h : ∀ (kV doc pm : Value) (an : Option Addr) (cdv ct : Value) (us ws : List Value), us.length = n → ws.length = ks.length → bindArgs (PySem.W.fnOf x qual (defArgs st) (defBody st) (defScope st) .none kV doc pm an cdv ct) ⟨us, ks.zip ws⟩ = pure (ps.zip (us ++ pick ix ws))) : KB K fd ps ks ix n := by
  obtain ⟨oc, od, kV, doc, pm, an, cdv, ct, osl, rfl, lk, hcd⟩ := F.ex
  exact fun s us ws _ h1 h2 => .of_eq (h kV doc pm an cdv ct us ws h1 h2)
theorem FldOk.nil {Γ : Sig} {i : Nat} {f : Str} : FldOk Γ [] i f := fun c h => nomatch h
theorem FldOk.cons {Γ : Sig} {c : Nat} {cs : List Nat} {i : Nat} {f : Str} (h1 : (Γ.fld c)[i]? = some f) (h2 : (Γ.fld c).Nodup) (h3 : (Γ.fld c).length < 1000) (h4 : Cls Γ.K (Γ.cls c)) (h5 : NoAttr Γ.K (Γ.cls c) f) (h : FldOk Γ cs i f) : FldOk Γ (c :: cs) i f := fun d hd => by
  rcases List.mem_cons.mp hd with rfl | hd
  · exact ⟨h1, h2, h3, h4, h5⟩
  · exact h d hd
/-- an own exception class, by the text's facts alone -/
structure ExcK (K : Frag) (mg : Str → Option Value) (x : Str) (C : Addr) : Prop where
  gC : mg x = some (.ref C)
  xC : PySem.W.excIn K C [.type "ValueError", .type "Exception", .type "BaseException", .type "object"] "ValueError.__new__" = true
  kC : PySem.W.keepIn K (.ref C) = true
  bC : PySem.W.subIn K (.ref C) (.type "BaseException") = some true
  tC : PySem.W.typeIn K (.ref C) = some (.type "type")
theorem ExcK.ok {X : Cx} {x : Str} {C : Addr} (h : ExcK X.K X.mg x C) : ExcOk X x C := ⟨h.gC, h.xC, h.kC, h.bC, h.tC⟩
end DS

namespace DS
open PySem L2 PySem.Spec PyProof.Rows PySem.W

/-! ### try .. except C: suite (the suite raises nothing, calls nothing) -/
def sTry (cs : Nat → Option Bool) (F G : FS) : FS := fun env st => match F env st with
  | .exn k fs env1 st1 => match cs k with
    | some true => (match G env1 st1 with
      | .exn _ _ _ _ => .bad
      | o => o)
    | some false => .exn k fs env1 st1
    | none => .bad
  | o => o
/-- which of the own exceptions the clause's class takes -/
def CatchOk (Γ : Sig) (c : Value) (cs : Nat → Option Bool) : Prop := ∀ k b, cs k = some b → exmOne Γ.K (.ref (Γ.cls k)) c = some b
section
variable {X : Cx} {Γ : Sig} {W : WX} {x : Str} {c : Value} {body suite : List Stmt} {b₀ : Stmt} {np pos pos' : Pos} {F G : FS} {cs : Nat → Option Bool}
theorem s_try (hK : X.K = Γ.K) (hs : X.stack = X.env :: X.outer) (hf : X.env.frame = some X.env.locals) (hc : Names X x c) (hcs : CatchOk Γ c cs) (tk : Takes X W)
    (hb : ∀ (W : WX) (pn : List (Addr × Obj)) (xe : Value → Shared → Prop), Takes (X.tr pn xe) W → PassesOwn (model X.prog X.w) X.A X.env xe → DB (X.tr pn xe) Γ W body F)
    (hsu : ∀ (a : Addr) (pn : List (Addr × Obj)), DB (X.suite a pn) Γ W0 (b₀ :: suite) G) : DS X Γ W (.Try body [.ExceptHandler (some (.Name x np)) none (b₀ :: suite) pos'] [] [] pos) (sTry cs F G) :=
  ⟨PS.imp (ps_try_only (tb := fun W => tS Γ W F) (ts := fun _ _ _ => tS Γ W0 G) hs hf hc tk (fun W pn xe tk hp => (hb W pn xe tk hp).pss) (fun a oe cls d pn _ _ => (hsu a _).pss)) fun N σ H ⟨w, env, st, R, ev, h⟩ => by
    refine ⟨w, env, st, R, ev, ?_⟩
    unfold sTry at h
    cases e : F env st with
    | nx env1 st1 => rw [e] at h; exact h
    | ret d st1 => rw [e] at h; exact h
    | bk env1 st1 => rw [e] at h; exact h
    | ct env1 st1 => rw [e] at h; exact h
    | bad => rw [e] at h; exact h
    | exn k fs env1 st1 =>
      rw [e] at h
      intro w1 σ1 H1 cv dx g R1 ev1 xr
      dsimp only at h
      cases hk : cs k with
      | none => rw [hk] at h; exact h.elim
      | some b =>
        rw [hk] at h
        have hx := hcs k b hk
        obtain ⟨rfl, xr2⟩ := xr
        refine ⟨b, by rw [hK]; exact hx, fun hb' a ha => ?_, fun hb' => ?_⟩
        · subst hb'
          dsimp only at h
          refine ⟨w1, env1, st1, R1, ev1, ?_⟩
          have h := PostS.grow g h
          cases e2 : G env1 st1 with
          | nx env2 st2 => rw [e2] at h; exact h
          | ret d st2 => rw [e2] at h; exact h
          | bk env2 st2 => rw [e2] at h; exact h
          | ct env2 st2 => rw [e2] at h; exact h
          | bad => rw [e2] at h; exact h
          | exn _ _ _ _ => rw [e2] at h; exact h.elim
        · subst hb'
          exact h w1 σ1 H1 _ dx g R1 ev1 ⟨rfl, xr2⟩⟩
/-- the clause's answers, one by one -/
theorem catch_nil : CatchOk Γ c (fun k => ([] : List (Nat × Bool)).lookup k) := fun k b h => nomatch h
theorem catch_cons {k0 : Nat} {b0 : Bool} {l : List (Nat × Bool)} (h : exmOne Γ.K (.ref (Γ.cls k0)) c = some b0) (hl : CatchOk Γ c (fun k => l.lookup k)) : CatchOk Γ c (fun k => ((k0, b0) :: l).lookup k) := fun k b e => by
  simp only [List.lookup] at e
  split at e
  · rename_i q
    cases e
    rw [eq_of_beq q]
    exact h
  · exact hl k b e
theorem exm_sub {K : Frag} {S T : Addr} {b : Bool} (h1 : subIn K (.ref S) (.type "BaseException") = some true) (h2 : isClsIn K S = true) (h3 : typeIn K (.ref S) = some (.type "type")) (h4 : subIn K (.ref T) (.ref S) = some b) : exmOne K (.ref T) (.ref S) = some b := by
  have e1 : (subIn K (.ref S) (.type "BaseException") == some true) = true := by rw [h1] <;> rfl
  have e2 : ((clsIn K S).isSome && typeIn K (.ref S) == some (.type "type")) = true := by
    have q : (clsIn K S).isSome = true := h2
    rw [q, h3] <;> rfl
  unfold exmOne
  rw [if_pos e1]
  show (if ((clsIn K S).isSome && typeIn K (.ref S) == some (.type "type")) = true then subIn K (.ref T) (.ref S) else none) = some b
  rw [if_pos e2]
  exact h4
end
end DS

namespace DS
open PySem L2 PySem.Spec PyProof.Rows PySem.W
/-! ### range downward -/
def rangeC (lo c : Int) (n : Nat) : List D := (List.range n).map fun i => D.int (lo + (i : Nat) * c)
def fRange3 (f : DEnv → M (List D)) : FI := fun env st => (f env st).bind fun ds s1 => match ds with
  | [.int i, .int j, .int c] => if c = -1 ∧ -(2 ^ 62) ≤ i ∧ i < 2 ^ 62 ∧ -(2 ^ 62) ≤ j ∧ j < 2 ^ 62 then .ok (rangeC i (-1) (i - j).toNat, []) s1 else .bad
  | _ => .bad
section
variable {X : Cx} {Γ : Sig} {W : WX} {w : Wd} {H : Hp} {tg a b c : Expr} {fa : DEnv → M (List D)}
theorem itc_ok (lo k : Int) (n : Nat) : ItOk Γ w H (rangeC lo k n) [] (Itc lo k n) where
  go := fun i w' st' H' d g R q e => by
    unfold rangeC at e
    rw [List.getElem?_map] at e
    have hi : i < n := by
      by_cases hi : i < n
      · exact hi
      · rw [List.getElem?_eq_none (by rw [List.length_range]; omega)] at e
        cases e
    rw [List.getElem?_range hi] at e
    cases e
    refine ⟨hi, fun x H2 ⟨eH, hx⟩ => ?_⟩
    subst eH hx
    exact ⟨w', Step.refl _ _, R, .int⟩
  stop := fun w' st' H' g R q => by
    show n ≤ _
    unfold rangeC
    rw [List.length_map, List.length_range]
    exact Nat.le_refl _
theorem di_range3 {p pos : Pos} (hg : Gl X "range") (hm : X.mg "range" = none) (ha : DA X Γ W [a, b, c] fa) (hs : starEach [a, b, c] X.env = (false, eval a X.env) :: starEach [b, c] X.env := by rfl) (hpl : (backTo pos (starEach [b, c] X.env)).any (·.1) = false := by rfl) :
    DI X Γ W tg (.Call (.Name "range" p) [a, b, c] [] pos) (fRange3 fa) (iRng3 (tA Γ W fa)) := ⟨pi_range3 hg hm ha.pa hs hpl, fun w env st σ H R R0 ev h =>
  ⟨w, env, st, R0, ev, PostI.mid (rep := RepL Γ) h fun w1 ds st1 vs H1 g R1 r1 h1 => by
    split at h1
    · rename_i i j k
      split at h1
      · rename_i hb
        obtain ⟨v, us, rfl, q1, q2⟩ := r1.cons_inv
        obtain ⟨u, ts, rfl, q3, q4⟩ := q2.cons_inv
        obtain ⟨u', ts', rfl, q5, q6⟩ := q4.cons_inv
        rw [q1.int_inv, q3.int_inv, q5.int_inv, q6.nil_inv]
        obtain ⟨rfl, b1, b2, b3, b4⟩ := hb
        exact ⟨i, j, -1, _, rfl, .neg b1 b2 b3 b4, PostI.at h1 R1 (itc_ok i (-1) _)⟩
      · exact h1.elim
    · exact h1.elim⟩⟩
end
end DS

namespace DS
open PySem L2 PySem.Spec PyProof.Rows PySem.W

/-! ### defs that are called while an exception is handled, and raise nothing -/
abbrev EN : XK := fun _ _ _ => False
structure FnDH (P : Program) (w : World) (Γ : Sig) (mg : Str → Option Value) (base : Heap) (k : Nat) (f : Addr) (fd : FuncData) (ps : List Str) (den : List D → M D) : Prop where
  len : ∀ (ds : List D) (st : Store), den ds st ≠ .bad → ds.length = ps.length
  run : ∀ (A : Around) (outer : List Env) (s : Shared) (H : Hp) (args : Args) (us : List Value) (vs : List V) (wd : Wd) (st : Store) (ds : List D) (Q : VK) (p : Addr × Obj), L2H.RoomH k A → A.guards = some [] → L2H.PinOk outer H s p → Env0 P w Γ.K mg base A outer s H →
    BindsTo s fd args (ps.zip us) → Vals vs us → Rel Γ wd st H → RepL Γ wd ds vs → Post Γ wd H (Rep Γ) EN (den ds st) Q → codeAny (model P w) A (.call (.ref f) args) (CR (L2.CX P w) outer P w H s Q EN) s
theorem FnDH.mono {P : Program} {w : World} {Γ : Sig} {mg : Str → Option Value} {base : Heap} {j k : Nat} {f : Addr} {fd : FuncData} {ps : List Str} {den : List D → M D} (F : FnDH P w Γ mg base j f fd ps den) (h : j ≤ k) : FnDH P w Γ mg base k f fd ps den :=
  ⟨F.len, fun A outer s H args us vs wd st ds Q p hr => F.run A outer s H args us vs wd st ds Q p (hr.mono h)⟩
theorem FnDH.ref {P : Program} {W' : World} {Γ : Sig} {mg : Str → Option Value} {base : Heap} {k : Nat} {f : Addr} {fd : FuncData} {ps : List Str} {den den' : List D → M D} (F : FnDH P W' Γ mg base k f fd ps den) (h : ∀ ds st, Ref Γ ds st (den ds st) (den' ds st)) : FnDH P W' Γ mg base k f fd ps den' :=
  ⟨fun ds st hn => F.len ds st fun z => hn ((h ds st).of_bad z), fun A outer s H args us vs wd st ds Q p hr hgd hp e0 hb r R rp hq => F.run A outer s H args us vs wd st ds Q p hr hgd hp e0 hb r R rp ((h ds st).post R rp hq)⟩
section
variable {P : Program} {w : World} {Γ : Sig} {mg : Str → Option Value} {base : Heap}
theorem fnDH_of {x qual : Str} {st : Stmt} {f : Addr} {fd : FuncData} {N ps : List Str} {k : Nat} {F : FS} (Fn : L2.Fun Γ.K x qual st f fd) (S : FnScope N ps (defScope st))
    (hbody : ∀ (cdv : Value) (A : Around) (outer : List Env) (s : Shared) (H : Hp) (p : Addr × Obj), L2H.RoomH k (A.deeper (envOfC qual (defScope st) s.heap.objs.size f cdv)) → A.guards = some [] →
      DB (L2H.cxH (L2.CX P w) P w Γ.K mg base N qual (defScope st) f cdv A outer s H EN p) Γ W0 (defBody st) F) : FnDH P w Γ mg base (k + 1) f fd ps (fnD ps.length N F) := by
  obtain ⟨oc, od, kV, doc, pm, an, cdv, ct, osl, rfl, lk, hcd⟩ := Fn.ex
  have lenP : ∀ (ds : List D) (st' : Store), fnD ps.length N F ds st' ≠ .bad → ds.length = ps.length := fun ds st' hn => by
    unfold fnD at hn
    split at hn
    · assumption
    · exact (hn rfl).elim
  have hpl : ps.length ≤ N.length := by
    have q := congrArg List.length S.pre
    rw [List.length_take] at q
    omega
  refine ⟨lenP, fun A outer s H args us vs wd st' ds Q p hr hgd hpin e0 hb r R rp hsp => ?_⟩
  have nb : fnD ps.length N F ds st' ≠ .bad := fun z => by rw [z] at hsp; exact hsp
  have hds := lenP ds st' nb
  have hvs : vs.length = ps.length := rp.length.trans hds
  have inK : Γ.K.In s.heap := e0.mod.kin.keeps fun b o e => (e0.bs b o e).1
  have nolim : s.heap.NoLimit := e0.mod.nolimit.keeps fun b o e => (e0.bs b o e).1
  have kinds : ∀ y ∈ ps.zip us, (defScope st).names.lookup y.1 = some .local ∨ ((defScope st).names.lookup y.1 = some .cell ∧ ((cellsFrom (s.heap.objs.size + 1) (defScope st).names []).lookup y.1).isSome = true) := by
    rintro ⟨n, v⟩ hy
    rcases S.par n (List.of_mem_zip hy).1 with q | q
    · exact .inl q
    · exact .inr ⟨q, PySem.W.cellsFrom_some _ _ _ (.inl q)⟩
  refine codeAny_call_function hr.depth (inK _ _ lk) rfl S.co S.gen rfl
    (PySem.W.codeRec_of inK hcd) (hb _ _ _ _ ?_)
  refine wpAny_newFunctionEnv_cells S.kind kinds
    fun env he s1 x => ?_
  subst he
  refine ⟨nolim.keeps x.toInCall.keep, codeAny_func ?_⟩
  have body := hbody cdv A outer s H p (hr.deeper _) hgd
  have I : Inv (L2H.cxH (L2.CX P w) P w Γ.K mg base N qual (defScope st) f cdv A outer s H EN p) [] (L2.start N vs) H s1 := L2H.inv_startH S hpin e0 hvs r x
  have rd : tS Γ W0 F { nx := fun _ H' => Q .non H', rt := Q } (L2.start N vs) H := by
    refine ⟨wd, startE N ds, st', R, env_start rp (by omega), ?_⟩
    unfold fnD at hsp
    rw [if_pos hds] at hsp
    cases e : F (startE N ds) st' with
    | nx env1 st1 =>
      rw [e] at hsp
      exact fun w' σ H' g R' _ => hsp w' .non H' g R' .non
    | ret d st1 =>
      rw [e] at hsp
      exact fun w' v H' g R' r' => hsp w' v H' g R' r'
    | bk env1 st1 => rw [e] at hsp; exact hsp.elim
    | ct env1 st1 => rw [e] at hsp; exact hsp.elim
    | exn c fs env1 st1 =>
      rw [e] at hsp
      exact fun w' σ H' cv dx g R' _ xr => hsp w' cv dx H' g R' xr
    | bad => rw [e] at hsp; exact hsp.elim
  refine wpAny_mono (body.pss.run [] s1 (L2.start N vs) H _ I rd)
    (fun fl s' hs => ?_) fun e s' hs => hs
  cases fl with
  | ret u =>
    obtain ⟨v, σ', H', J, rv, q⟩ := hs
    exact ⟨v, H', J.os, J.bare, J.base, J.hok, rv, q⟩
  | next =>
    obtain ⟨σ', H', J, q⟩ := hs
    exact ⟨V.non, H', J.os, J.bare, J.base, J.hok, rfl, q⟩
  | brk =>
    obtain ⟨_, _, _, q⟩ := hs
    exact q.elim
  | cont =>
    obtain ⟨_, _, _, q⟩ := hs
    exact q.elim
end
/-- something is pinned: the handled exception -/
def PinX (X : Cx) : Prop := ∃ p : Addr × Obj, p ∈ X.pn
structure FDH (P : Program) (w : World) (Γ : Sig) (mg : Str → Option Value) (base : Heap) (k : Nat) (x : Str) (den : List D → M D) : Prop where
  ex : ∃ (fa : Addr) (fd : FuncData) (ps : List Str), mg x = some (.ref fa) ∧ PySem.W.keepIn Γ.K (.ref fa) = true ∧ FnDH P w Γ mg base k fa fd ps den ∧ Binds Γ.K fd ps []
structure MDH (P : Program) (w : World) (Γ : Sig) (mg : Str → Option Value) (base : Heap) (k : Nat) (c : Nat) (m : Str) (den : List D → M D) : Prop where
  ex : ∃ (fa : Addr) (fd : FuncData) (ps : List Str), Cls Γ.K (Γ.cls c) ∧ Meth Γ.K (Γ.cls c) m fa ∧ FnDH P w Γ mg base k fa fd ps den ∧ Binds Γ.K fd ps [] ∧ m ∉ Γ.fld c
structure CDH (P : Program) (w : World) (Γ : Sig) (mg : Str → Option Value) (base : Heap) (k : Nat) (x : Str) (den : List D → M D) : Prop where
  ex : ∃ (c : Nat) (f : Addr) (fd : FuncData) (ps : List Str) (init : List D → M D), mg x = some (.ref (Γ.cls c)) ∧ Mk Γ.K (Γ.cls c) f ∧ FnDH P w Γ mg base k f fd ps init ∧ Binds Γ.K fd ps [] ∧ ∀ ds st, Ref Γ ds st (rawMk c init ds st) (den ds st)
theorem FDH.mono {P : Program} {w : World} {Γ : Sig} {mg : Str → Option Value} {base : Heap} {j k : Nat} {x : Str} {den : List D → M D} (F : FDH P w Γ mg base j x den) (h : j ≤ k) : FDH P w Γ mg base k x den :=
  let ⟨fa, fd, ps, a, b, c, d⟩ := F.ex
  ⟨fa, fd, ps, a, b, c.mono h, d⟩
theorem MDH.mono {P : Program} {w : World} {Γ : Sig} {mg : Str → Option Value} {base : Heap} {j k c : Nat} {m : Str} {den : List D → M D} (F : MDH P w Γ mg base j c m den) (h : j ≤ k) : MDH P w Γ mg base k c m den :=
  let ⟨fa, fd, ps, a, b, c, d, e⟩ := F.ex
  ⟨fa, fd, ps, a, b, c.mono h, d, e⟩
theorem CDH.mono {P : Program} {w : World} {Γ : Sig} {mg : Str → Option Value} {base : Heap} {j k : Nat} {x : Str} {den : List D → M D} (F : CDH P w Γ mg base j x den) (h : j ≤ k) : CDH P w Γ mg base k x den :=
  let ⟨c, f, fd, ps, i, a, b, d, e, g⟩ := F.ex
  ⟨c, f, fd, ps, i, a, b, d.mono h, e, g⟩
def MOkH (X : Cx) (Γ : Sig) (k : Nat) (m : Str) (tb : List (Nat × (List D → M D))) : Prop := ∀ c den, tb.lookup c = some den → MDH X.prog X.w Γ X.mg X.base k c m den
section
variable {X : Cx} {Γ : Sig} {W : WX} {k : Nat} {x m : Str} {p pos apos : Pos} {e o : Expr} {es : List Expr} {fo : FE} {fr : DEnv → M (List D)} {den : List D → M D} {tb : List (Nat × (List D → M D))}
theorem mokH1 {c1 : Nat} {f1 : List D → M D} (h1 : MDH X.prog X.w Γ X.mg X.base k c1 m f1) : MOkH X Γ k m [(c1, f1)] := fun c den h => by
  simp only [List.lookup] at h
  split at h
  · rename_i e; obtain rfl := eq_of_beq e; cases h; exact h1
  · cases h
theorem run_fnDH {pins : List (Addr × Obj)} {σ : L2.St} {H : Hp} {s : Shared} {Q : VK} {fa : Addr} {fd : FuncData} {ps : List Str} {wd : Wd} {st : Store} {ds : List D} {args : Args} {us : List Value} {vs : List V} (hK : X.K = Γ.K) (F : FnDH X.prog X.w Γ X.mg X.base k fa fd ps den) (hr : L2H.RoomH k X.A) (hgd : X.A.guards = some []) (hpx : PinX X)
    (I : Inv X pins σ H s) (hb : BindsTo s fd args (ps.zip us)) (r : Vals vs us) (R : Rel Γ wd st H) (rp : RepL Γ wd ds vs) (h : Post Γ wd H (Rep Γ) EN (den ds st) Q) : wpAny (model X.prog X.w) X.A (call (.ref fa) args.pos args.kw) (EP X pins σ Q) X.xe s := by
  have e0 := I.env0
  rw [hK] at e0
  obtain ⟨p, hp⟩ := hpx
  have P1 := I.pin p (List.mem_append_left _ hp)
  have hpin : L2H.PinOk X.stack H s p := ⟨P1.1, P1.2.1, fun hm => (List.mem_cons.mp (I.stkSub p.1 hm)).elim P1.2.2.1 P1.2.2.2.1, P1.2.2.2.2⟩
  refine wpAny_call (codeAny_mono (F.run X.A X.stack s H args us vs wd st ds Q p hr hgd hpin e0 hb r R rp h)
    fun r s' hq => ?_)
  cases r with
  | error e =>
    obtain ⟨_, _, _, _, _, _, _, _, _, _, _, _, z⟩ := hq
    exact z.elim
  | ok fl =>
    cases fl with
    | ret u => exact I.after hq
    | next => exact hq.elim
    | brk => exact hq.elim
    | cont => exact hq.elim
end
end DS

namespace DS
open PySem L2 PySem.Spec PyProof.Rows PySem.W
theorem roomH_in1 {k : Nat} {A : Around} (r : L2H.RoomH (k + 1) A) : L2H.RoomH k A.in1 := ⟨by have := r.dp; show A.depth + 3 * k + 5 < _; omega, by have := r.un; show A.units + 1 + 16 * k + 200 < _; omega⟩
theorem roomH_make {k : Nat} {A : Around} (r : L2H.RoomH (k + 1) A) (C : Addr) (us : List Value) (kw : List (Str × Value)) : L2H.RoomH k (A.under (.builtin "type.__call__" ⟨.ref C :: us, kw⟩)) :=
  ⟨by have := r.dp; rw [make_depth]; omega, by have := r.un; rw [make_units]; omega⟩
theorem hu64H {k : Nat} {A : Around} (r : L2H.RoomH k A) : A.units + 64 < cLine := by have := r.un; omega
section
variable {X : Cx} {Γ : Sig} {k c : Nat} {x m : Str} {p pos apos : Pos} {e o : Expr} {es : List Expr} {fo fe : FE} {fr : DEnv → M (List D)} {den init : List D → M D} {tb : List (Nat × (List D → M D))}
theorem d_callH (hK : X.K = Γ.K) (F : FDH X.prog X.w Γ X.mg X.base k x den) (hr : L2H.RoomH k X.A) (hgd : X.A.guards = some []) (hpx : PinX X) (hg : Gl X x) (ha : DA X Γ W0 (e :: es) fr) (hdb : (x == ("__debug__" : Str)) = false := by decide)
    (he : starEach (e :: es) X.env = (false, eval e X.env) :: starEach es X.env := by rfl) (hpl : (backTo pos (starEach es X.env)).any (·.1) = false := by rfl) : DE X Γ W0 (.Call (.Name x p) (e :: es) [] pos) (xCall den fr) := by
  obtain ⟨fa, fd, ps, hm, hk, Fn, hb⟩ := F.ex
  refine ⟨⟨fun pins s σ H Q I ⟨w, env, st, R, ev, h⟩ => ?_⟩⟩
  refine wpAny_Call_Name_kw (ld_glob I hg hm ?_ hdb)
  rw [← hK] at hk
  refine PySem.W.callWith_K (h₀ := X.base) I.ok.mod.kin hk (thn (ha.pa.run pos pins s σ H (fun vs H1 => ∃ w1 ds st1, Rel Γ w1 st1 H1 ∧ RepL Γ w1 ds vs ∧ Post Γ w1 H1 (Rep Γ) (fun cv dx H' => W0 cv dx σ H') (den ds st1) Q) I
    ⟨w, env, st, R, ev, Post.mid (rep' := RepL Γ) h fun w1 ds st1 vs H1 g R1 r1 h1 => ⟨w1, ds, st1, R1, r1, h1⟩⟩) fun us s1 ⟨vs, H1, I1, r, w1, ds, st1, R1, r1, h1⟩ => ⟨I1.kIn, ?_⟩) he hpl
  have nb : den ds st1 ≠ .bad := fun z => by rw [z] at h1; exact h1
  have hl : us.length = ps.length := by rw [← r.length, r1.length]; exact Fn.len ds st1 nb
  have b := hb s1 us (by rw [← hK]; exact I1.kIn) (by rw [List.append_nil]; exact hl)
  rw [List.append_nil] at b
  exact run_fnDH (args := ⟨us, []⟩) hK Fn hr hgd hpx I1 b r R1 r1 h1
theorem d_call0H (hK : X.K = Γ.K) (F : FDH X.prog X.w Γ X.mg X.base k x den) (hr : L2H.RoomH k X.A) (hgd : X.A.guards = some []) (hpx : PinX X) (hg : Gl X x) (hdb : (x == ("__debug__" : Str)) = false := by decide) : DE X Γ W0 (.Call (.Name x p) [] [] pos) (xCall den aNil) := by
  obtain ⟨fa, fd, ps, hm, hk, Fn, hb⟩ := F.ex
  refine ⟨⟨fun pins s σ H Q I ⟨w, env, st, R, ev, h⟩ => ?_⟩⟩
  refine wpAny_Call_Name_kw (ld_glob I hg hm ?_ hdb)
  rw [← hK] at hk
  have h : Post Γ w H (Rep Γ) (fun cv dx H' => W0 cv dx σ H') (den [] st) Q := h
  have nb : den [] st ≠ .bad := fun z => by rw [z] at h; exact h
  have b := hb s [] (by rw [← hK]; exact I.kIn) (Fn.len [] st nb)
  exact PySem.W.callWith_K0 I.kIn hk (run_fnDH (args := ⟨[], []⟩) hK Fn hr hgd hpx I b .nil R .nil h)
theorem d_methH {pl : Sem Bool} {tb : List (Nat × (List D → M D))} (hK : X.K = Γ.K) (F : MOkH X Γ k m tb) (hr : L2H.RoomH k X.A) (hgd : X.A.guards = some []) (hpx : PinX X) (ho : DE X Γ W0 o fo) (ha : DA X Γ W0 (e :: es) fr)
    (hst : starEach (e :: es) X.env = (false, eval e X.env) :: starEach es X.env := by rfl) (hpl : (backTo pos (starEach es X.env)).any (·.1) = false := by rfl)
    (ht : eval (.Call (.Attribute o m apos) (e :: es) [] pos) X.env = (do
      let ov ← eval o X.env
      standAt apos.atName
      let (f, first) ← holding [ov] (getMethod ov m pl)
      callWith pos f first (backTo pos (starEach (e :: es) X.env)) (backToKw pos (keywordEach [] X.env))) := by rfl) : DE X Γ W0 (.Call (.Attribute o m apos) (e :: es) [] pos) (xMeth tb fo fr) := by
  refine ⟨⟨fun pins s σ H Q I ⟨w, env, st, R, ev, h⟩ => ?_⟩⟩
  refine PySem.W.methodCall_KW (pl := pl) (thn (ho.pe.run pins s σ H (fun v H1 => ∃ w1 d st1, Rel Γ w1 st1 H1 ∧ EnvR Γ w1 env σ ∧ Rep Γ w1 d v ∧ Post Γ w1 H1 (Rep Γ) (fun cv dx H' => W0 cv dx σ H') (match fieldsOf d st1 with
      | some (c, _) => match tb.lookup c with
        | some den => (fr env st1).bind fun ds s2 => den (d :: ds) s2
        | none => .bad
      | none => .bad) Q) I
    ⟨w, env, st, R, ev, Post.mid (rep' := Rep Γ) h fun w1 d st1 v H1 g R1 r1 h1 => ⟨w1, d, st1, R1, ev.mono g.grow, r1, h1⟩⟩) fun u s1 ⟨v, H1, I1, rv, w1, d, st1, R1, ev1, r1, h1⟩ => ?_) ht
  split at h1
  · rename_i c ds0 hd
    split at h1
    · rename_i den hden
      obtain ⟨fa, fd, ps, cl, hm, Fn, hb, nf⟩ := (F c den hden).ex
      obtain ⟨a, dx, vs0, rfl, ha0, _⟩ := fields_ok R1 r1 hd
      obtain rfl : u = Value.ref a := rv
      refine getmeth_ok I1 ha0 (by rw [hK]; exact cl) (by rw [hK]; exact hm) (lookup_none nf) ?_
      refine PySem.W.callWith_K (first := [.ref a]) (h₀ := X.base) I.ok.mod.kin (by rw [hK]; exact hm.kp) (thn (ha.pa.run pos pins s1 σ H1 (fun vs H2 => ∃ w2 ds st2, Rel Γ w2 st2 H2 ∧ Rep Γ w2 d (.ref a) ∧ RepL Γ w2 ds vs ∧ Post Γ w2 H2 (Rep Γ) (fun cv dx H' => W0 cv dx σ H') (den (d :: ds) st2) Q) I1
        ⟨w1, env, st1, R1, ev1, Post.mid (rep' := RepL Γ) h1 fun w2 ds st2 vs H2 g R2 r2 h2 => ⟨w2, ds, st2, R2, r1.mono g.grow, r2, h2⟩⟩) fun us s2 ⟨vs, H2, I2, rr, w2, ds, st2, R2, rd, r2, h2⟩ => ⟨I2.kIn, ?_⟩) hst hpl
      have nb : den (d :: ds) st2 ≠ .bad := fun z => by rw [z] at h2; exact h2
      have rA : RepL Γ w2 (d :: ds) (.ref a :: vs) := .cons rd r2
      have rV : Vals (V.ref a :: vs) (Value.ref a :: us) := .cons rfl rr
      have hl : (Value.ref a :: us).length = ps.length := by rw [← rV.length, rA.length]; exact Fn.len _ st2 nb
      have b := hb s2 (.ref a :: us) (by rw [← hK]; exact I2.kIn) (by rw [List.append_nil]; exact hl)
      rw [List.append_nil] at b
      exact run_fnDH (args := ⟨.ref a :: us, []⟩) hK Fn hr hgd hpx I2 b rV R2 rA h2
    · exact h1.elim
  · exact h1.elim
theorem d_meth0H {pl : Sem Bool} {tb : List (Nat × (List D → M D))} (hK : X.K = Γ.K) (F : MOkH X Γ k m tb) (hr : L2H.RoomH k X.A) (hgd : X.A.guards = some []) (hpx : PinX X) (ho : DE X Γ W0 o fo)
    (ht : eval (.Call (.Attribute o m apos) [] [] pos) X.env = (do
      let ov ← eval o X.env
      standAt apos.atName
      let (f, first) ← holding [ov] (getMethod ov m pl)
      callWith pos f first (backTo pos (starEach [] X.env)) (backToKw pos (keywordEach [] X.env))) := by rfl) : DE X Γ W0 (.Call (.Attribute o m apos) [] [] pos) (xMeth tb fo aNil) := by
  refine ⟨⟨fun pins s σ H Q I ⟨w, env, st, R, ev, h⟩ => ?_⟩⟩
  refine PySem.W.methodCall_KW (pl := pl) (thn (ho.pe.run pins s σ H (fun v H1 => ∃ w1 d st1, Rel Γ w1 st1 H1 ∧ Rep Γ w1 d v ∧ Post Γ w1 H1 (Rep Γ) (fun cv dx H' => W0 cv dx σ H') (match fieldsOf d st1 with
      | some (c, _) => match tb.lookup c with
        | some den => den [d] st1
        | none => .bad
      | none => .bad) Q) I
    ⟨w, env, st, R, ev, Post.mid (rep' := Rep Γ) h fun w1 d st1 v H1 g R1 r1 h1 => ⟨w1, d, st1, R1, r1, h1⟩⟩) fun u s1 ⟨v, H1, I1, rv, w1, d, st1, R1, r1, h1⟩ => ?_) ht
  split at h1
  · rename_i c ds0 hd
    split at h1
    · rename_i den hden
      obtain ⟨fa, fd, ps, cl, hm, Fn, hb, nf⟩ := (F c den hden).ex
      obtain ⟨a, dx, vs0, rfl, ha0, _⟩ := fields_ok R1 r1 hd
      obtain rfl : u = Value.ref a := rv
      refine getmeth_ok I1 ha0 (by rw [hK]; exact cl) (by rw [hK]; exact hm) (lookup_none nf) ?_
      have nb : den [d] st1 ≠ .bad := fun z => by rw [z] at h1; exact h1
      have rA : RepL Γ w1 [d] [.ref a] := .cons r1 .nil
      have rV : Vals [V.ref a] [Value.ref a] := .cons rfl .nil
      have hl : [Value.ref a].length = ps.length := by rw [← rV.length, rA.length]; exact Fn.len _ st1 nb
      have b := hb s1 [.ref a] (by rw [← hK]; exact I1.kIn) (by rw [List.append_nil]; exact hl)
      rw [List.append_nil] at b
      exact PySem.W.callWith_K0 (first := [.ref a]) I1.kIn (by rw [hK]; exact hm.kp) (run_fnDH (args := ⟨[.ref a], []⟩) hK Fn hr hgd hpx I1 b rV R1 rA h1)
    · exact h1.elim
  · exact h1.elim
theorem run_mkH {pins : List (Addr × Obj)} {σ : L2.St} {H : Hp} {s : Shared} {Q : VK} {f : Addr} {fd : FuncData} {ps : List Str} {wd : Wd} {st : Store} {ds : List D} {us : List Value} {vs : List V} (hK : X.K = Γ.K) (Mk' : Mk Γ.K (Γ.cls c) f) (F : FnDH X.prog X.w Γ X.mg X.base k f fd ps init) (hb : Binds Γ.K fd ps []) (hr : L2H.RoomH (k + 1) X.A) (hgd : X.A.guards = some []) (hpx : PinX X)
    (I : Inv X pins σ H s) (r : Vals vs us) (R : Rel Γ wd st H) (rp : RepL Γ wd ds vs) (h : Post Γ wd H (Rep Γ) (fun cv dx H' => W0 cv dx σ H') (rawMk c init ds st) Q) : wpAny (model X.prog X.w) X.A (call (.ref (Γ.cls c)) us) (EP X pins σ Q) X.xe s := by
  have nx : H (s.heap.objs.size + 1) = none := I.hok.fresh (Nat.le_succ _)
  have ndx : H s.heap.objs.size = none := I.hok.fresh (Nat.le_refl _)
  have ne : s.heap.objs.size + 1 ≠ s.heap.objs.size := Nat.succ_ne_self _
  have I2 := Inv.made (C := Γ.cls c) I
  -- the new instance in the store
  have sm : Same H (upd H s.heap.objs.size (.own (s.heap.objs.size + 1))) := fun b o q => by rw [upd_ne (ne_of_none q ndx)]; exact q
  have Ra := R.same sm
  obtain ⟨w2, s2, R2, e2⟩ := Ra.lay2 (p := s.heap.objs.size + 1) (u := .ins (Γ.cls c) s.heap.objs.size []) (o := .obj c []) (by rw [upd_ne ne]; exact nx) ⟨s.heap.objs.size, [], by rw [upd_same, List.zip_nil_right], .nil, Nat.zero_le _⟩
  have s3 : Step wd H w2 (upd (upd H s.heap.objs.size (.own (s.heap.objs.size + 1))) (s.heap.objs.size + 1) (.ins (Γ.cls c) s.heap.objs.size [])) := (Step.same sm).trans s2
  have rA : RepL Γ w2 (.cell st.length :: ds) (.ref (s.heap.objs.size + 1) :: vs) := .cons (.mk_cell e2) (rp.mono s3.grow)
  have rV : Vals (V.ref (s.heap.objs.size + 1) :: vs) (Value.ref (s.heap.objs.size + 1) :: us) := .cons rfl r
  have hp : Post Γ w2 _ (Rep Γ) (fun cv dx H' => W0 cv dx σ H') (init (.cell st.length :: ds) (st ++ [.obj c []])) (fun v H2 => v = .non ∧ Q (.ref (s.heap.objs.size + 1)) H2) :=
    Post.mid (rep' := Rep Γ) (Post.grow s3 h) fun w1 d st1 v H1 g R1 r1 h1 => by
      cases d with
      | non => exact ⟨r1.non_inv, Post.at h1 R1 (.mk_cell (g.grow.at e2))⟩
      | _ => exact h1.elim
  have nb : init (.cell st.length :: ds) (st ++ [.obj c []]) ≠ .bad := fun z => by rw [z] at hp; exact hp
  have hl : (Value.ref (s.heap.objs.size + 1) :: us).length = ps.length := by rw [← rV.length, rA.length]; exact F.len _ _ nb
  have b := hb { s with heap := (s.heap.push PySem.W.emptyDict).push (PySem.W.instObj (Γ.cls c) s.heap.objs.size) } (Value.ref (s.heap.objs.size + 1) :: us) (by rw [← hK]; exact I2.kIn) (by rw [List.append_nil]; exact hl)
  rw [List.append_nil] at b
  have e0 := I2.env0.make (Γ.cls c) us []
  rw [hK] at e0
  have hgd' : (X.A.under (.builtin "type.__call__" ⟨.ref (Γ.cls c) :: us, []⟩)).guards = some [] := by
    have hq : (Code.builtin "type.__call__" ⟨.ref (Γ.cls c) :: us, []⟩).guards = [] := by first | rfl | simp [Code.guards, Code.isGuard, guardIds]
    first
      | (show pushGuards _ X.A.guards = _; rw [hgd, hq]; rfl)
      | simp [Around.under, pushGuards, hgd, hq]
  obtain ⟨p1, hp1⟩ := hpx
  have P1 := I2.pin p1 (List.mem_append_left _ hp1)
  have hpin : L2H.PinOk X.stack _ _ p1 := ⟨P1.1, P1.2.1, fun hm => (List.mem_cons.mp (I2.stkSub p1.1 hm)).elim P1.2.2.1 P1.2.2.2.1, P1.2.2.2.2⟩
  have kin := I.kIn
  rw [hK] at kin
  refine wpAny_call (make_map (f := f) kin Mk'.makes Mk'.init (beq_iff_eq.mp Mk'.fn)
    (codeAny_mono (F.run _ X.stack _ _ ⟨_, []⟩ _ _ w2 _ _ _ p1 (roomH_make hr (Γ.cls c) us []) hgd' hpin e0 b rV R2 rA hp) fun r s' hq' => ?_))
  cases r with
  | error e =>
      obtain ⟨_, _, _, _, _, _, _, _, _, _, _, _, z⟩ := hq'
      exact z.elim
  | ok fl =>
    cases fl with
    | ret u =>
      obtain ⟨v, H', I3, rv, ev, q3⟩ := I2.after hq'
      subst ev
      exact ⟨rv, ⟨V.ref (s.heap.objs.size + 1), H', I3, rfl, q3⟩⟩
    | next => exact hq'.elim
    | brk => exact hq'.elim
    | cont => exact hq'.elim
theorem d_makeH (hK : X.K = Γ.K) (F : CDH X.prog X.w Γ X.mg X.base k x den) (hr : L2H.RoomH (k + 1) X.A) (hgd : X.A.guards = some []) (hpx : PinX X) (hg : Gl X x) (ha : DA X Γ W0 (e :: es) fr) (hdb : (x == ("__debug__" : Str)) = false := by decide)
    (he : starEach (e :: es) X.env = (false, eval e X.env) :: starEach es X.env := by rfl) (hpl : (backTo pos (starEach es X.env)).any (·.1) = false := by rfl) : DE X Γ W0 (.Call (.Name x p) (e :: es) [] pos) (xCall den fr) := by
  obtain ⟨c, f, fd, ps, init, hm, M', Fn, hb, hf⟩ := F.ex
  refine ⟨⟨fun pins s σ H Q I ⟨w, env, st, R, ev, h⟩ => ?_⟩⟩
  refine wpAny_Call_Name_kw (ld_glob I hg hm ?_ hdb)
  refine PySem.W.callWith_K (h₀ := X.base) I.ok.mod.kin (by rw [hK]; exact M'.kp) (thn (ha.pa.run pos pins s σ H (fun vs H1 => ∃ w1 ds st1, Rel Γ w1 st1 H1 ∧ RepL Γ w1 ds vs ∧ Post Γ w1 H1 (Rep Γ) (fun cv dx H' => W0 cv dx σ H') (den ds st1) Q) I
    ⟨w, env, st, R, ev, Post.mid (rep' := RepL Γ) h fun w1 ds st1 vs H1 g R1 r1 h1 => ⟨w1, ds, st1, R1, r1, h1⟩⟩) fun us s1 ⟨vs, H1, I1, r, w1, ds, st1, R1, r1, h1⟩ => ⟨I1.kIn, ?_⟩) he hpl
  exact run_mkH hK M' Fn hb hr hgd hpx I1 r R1 r1 ((hf ds st1).post R1 r1 h1)
theorem d_make0H (hK : X.K = Γ.K) (F : CDH X.prog X.w Γ X.mg X.base k x den) (hr : L2H.RoomH (k + 1) X.A) (hgd : X.A.guards = some []) (hpx : PinX X) (hg : Gl X x) (hdb : (x == ("__debug__" : Str)) = false := by decide) : DE X Γ W0 (.Call (.Name x p) [] [] pos) (xCall den aNil) := by
  obtain ⟨c, f, fd, ps, init, hm, M', Fn, hb, hf⟩ := F.ex
  refine ⟨⟨fun pins s σ H Q I ⟨w, env, st, R, ev, h⟩ => ?_⟩⟩
  refine wpAny_Call_Name_kw (ld_glob I hg hm ?_ hdb)
  have h : Post Γ w H (Rep Γ) (fun cv dx H' => W0 cv dx σ H') (den [] st) Q := h
  exact PySem.W.callWith_K0 I.kIn (by rw [hK]; exact M'.kp) (run_mkH hK M' Fn hb hr hgd hpx I .nil R .nil ((hf [] st).post R .nil h))

theorem call_lenOH (hK : X.K = Γ.K) (F : MOkH X Γ k "__len__" tb) (hr : L2H.RoomH (k + 1) X.A) (hgd : X.A.guards = some []) (hpx : PinX X) : CallR X (.builtin "len") (fun xs H Q => ∃ w st d v, xs = [v] ∧ Rel Γ w st H ∧ Rep Γ w d v ∧ ∃ E, Post Γ w H (Rep Γ) E (lenO tb d st) Q) := by
  intro pins s σ H xs us Q I r ⟨w, st, d, v, hx, R, rd, E0, h⟩
  subst hx
  obtain ⟨u, rfl, ru⟩ := vals1 r
  unfold lenO at h
  split at h
  · rename_i c ds hd
    split at h
    · rename_i den hden
      split at h
      · rename_i n st' hn
        split at h
        · rename_i hb
          obtain ⟨fa, fd, ps, cl, hm, Fn, hbd, nf⟩ := (F c den hden).ex
          obtain ⟨a, dx, vs0, rfl, ha0, _⟩ := fields_ok R rd hd
          obtain rfl : u = Value.ref a := ru
          obtain ⟨_, O, _⟩ := ins_get I.hok ha0
          have hty : Looks (model X.prog X.w) s.heap (typeOf (.ref a)) (.ref (Γ.cls c)) := (Looks.ld O.obj).andThen .now
          refine len_at I.kIn hty (by rw [hK]; exact hm.at_) (by rw [hK]; exact beq_iff_eq.mp hm.fn) ?_
          have e0 := I.env0.in1
          rw [hK] at e0
          obtain ⟨p1, hp1⟩ := hpx
          have P1 := I.pin p1 (List.mem_append_left _ hp1)
          have hpin : L2H.PinOk X.stack H s p1 := ⟨P1.1, P1.2.1, fun hm => (List.mem_cons.mp (I.stkSub p1.1 hm)).elim P1.2.2.1 P1.2.2.2.1, P1.2.2.2.2⟩
          have nb : den [d] st ≠ .bad := by rw [hn]; exact fun z => nomatch z
          have hl : [Value.ref a].length = ps.length := by
            have q := Fn.len _ st nb
            simpa using q
          have b := hbd s [.ref a] (by rw [← hK]; exact I.kIn) (by rw [List.append_nil]; exact hl)
          rw [List.append_nil] at b
          have hp : Post Γ w H (Rep Γ) (fun _ _ _ => False) (den [d] st) (fun v H' => v = .int n ∧ Q (.int n) H') := by
            rw [hn]
            exact fun w' v H' g R' r' => ⟨r'.int_inv, h w' (.int n) H' g R' .int⟩
          refine wpAny_call (codeAny_mono (Fn.run X.A.in1 X.stack s H ⟨[.ref a], []⟩ [.ref a] [.ref a] w st [d] _ p1 (roomH_in1 hr) hgd hpin e0 b (.cons rfl .nil) R (.cons rd .nil) hp) fun r s' hq => ?_)
          cases r with
          | error e =>
            obtain ⟨_, _, _, _, _, _, _, _, _, _, _, _, z⟩ := hq
            exact z.elim
          | ok fl =>
            cases fl with
            | ret u =>
              obtain ⟨v, H', I3, rv, ev, q3⟩ := I.after hq
              subst ev
              obtain ⟨t, rfl⟩ := rv
              exact ⟨n, t, rfl, hb.1, hb.2, .int n, H', I3.tok _, ⟨_, rfl⟩, q3⟩
            | next => exact hq.elim
            | brk => exact hq.elim
            | cont => exact hq.elim
        · exact h.elim
      · exact h.elim
    · exact h.elim
  · exact h.elim
theorem d_lenOH (hK : X.K = Γ.K) (F : MOkH X Γ k "__len__" tb) (hr : L2H.RoomH (k + 1) X.A) (hgd : X.A.guards = some []) (hpx : PinX X) (hg : Gl X "len") (hm : X.mg "len" = none) (ho : DE X Γ W0 o fo)
    (he : starEach [o] X.env = (false, eval o X.env) :: starEach [] X.env := by rfl) (hpl : (backTo pos (starEach [] X.env)).any (·.1) = false := by rfl) : DE X Γ W0 (.Call (.Name "len" p) [o] [] pos) (xLenO tb fo) :=
  ⟨PE.imp (pe_callB (call_lenOH hK F hr hgd hpx) hg hm (by decide +kernel) (pa_cons ho.pe pa_nil he) (by decide) (by decide) he hpl) fun σ H Q ⟨w, env, st, R, ev, h⟩ =>
    ⟨w, env, st, R, ev, Post.mid (rep' := Rep Γ) h fun w1 d st1 x H1 g1 R1 r1 h1 => ⟨w1, st1, d, x, rfl, R1, r1, _, h1⟩⟩⟩
end
theorem roomH_mark {k : Nat} {A : Around} {v : Option Value} (r : Room k A) : L2H.RoomH k (A.mark v) := ⟨r.dp, r.un⟩
section
variable {X : Cx} {Γ : Sig} {W : WX} {x : Str} {c : Value} {body suite : List Stmt} {b₀ : Stmt} {np pos pos' : Pos} {F G : FS} {cs : Nat → Option Bool}
/-- try .. except C: suite, the suite calls defs that raise nothing -/
theorem s_tryH (hK : X.K = Γ.K) (hs : X.stack = X.env :: X.outer) (hf : X.env.frame = some X.env.locals) (hc : Names X x c) (hcs : CatchOk Γ c cs) (tk : Takes X W)
    (hb : ∀ (W : WX) (pn : List (Addr × Obj)) (xe : Value → Shared → Prop), Takes (X.tr pn xe) W → PassesOwn (model X.prog X.w) X.A X.env xe → DB (X.tr pn xe) Γ W body F)
    (hsu : ∀ (a : Addr) (pn : List (Addr × Obj)), PinX (X.suite a pn) → DB (X.suite a pn) Γ W0 (b₀ :: suite) G) : DS X Γ W (.Try body [.ExceptHandler (some (.Name x np)) none (b₀ :: suite) pos'] [] [] pos) (sTry cs F G) :=
  ⟨PS.imp (ps_try_only (tb := fun W => tS Γ W F) (ts := fun _ _ _ => tS Γ W0 G) hs hf hc tk (fun W pn xe tk hp => (hb W pn xe tk hp).pss) (fun a oe cls d pn _ _ => (hsu a _ ⟨(a, oe), List.mem_cons_self⟩).pss)) fun N σ H ⟨w, env, st, R, ev, h⟩ => by
    refine ⟨w, env, st, R, ev, ?_⟩
    unfold sTry at h
    cases e : F env st with
    | nx env1 st1 => rw [e] at h; exact h
    | ret d st1 => rw [e] at h; exact h
    | bk env1 st1 => rw [e] at h; exact h
    | ct env1 st1 => rw [e] at h; exact h
    | bad => rw [e] at h; exact h
    | exn k fs env1 st1 =>
      rw [e] at h
      intro w1 σ1 H1 cv dx g R1 ev1 xr
      dsimp only at h
      cases hk : cs k with
      | none => rw [hk] at h; exact h.elim
      | some b =>
        rw [hk] at h
        have hx := hcs k b hk
        obtain ⟨rfl, xr2⟩ := xr
        refine ⟨b, by rw [hK]; exact hx, fun hb' a ha => ?_, fun hb' => ?_⟩
        · subst hb'
          dsimp only at h
          refine ⟨w1, env1, st1, R1, ev1, ?_⟩
          have h := PostS.grow g h
          cases e2 : G env1 st1 with
          | nx env2 st2 => rw [e2] at h; exact h
          | ret d st2 => rw [e2] at h; exact h
          | bk env2 st2 => rw [e2] at h; exact h
          | ct env2 st2 => rw [e2] at h; exact h
          | bad => rw [e2] at h; exact h
          | exn _ _ _ _ => rw [e2] at h; exact h.elim
        · subst hb'
          exact h w1 σ1 H1 _ dx g R1 ev1 ⟨rfl, xr2⟩⟩
end
end DS

namespace DS
open PySem L2

/-! ### running a meaning: each word at its slots and store -/
section
variable {α β : Type} {env : DEnv} {st s s1 : Store} {a b c o i e : FE} {d x y : D} {ds : List D} {f : DEnv → M (List D)} {t u : DEnv → M Bool} {F G : FS} {n m k : Nat}
@[simp] theorem bind_ok {z : α} {g : α → Store → Res β} : (Res.ok z s).bind g = g z s := rfl
@[simp] theorem bind_exn {k : Nat} {fs : List D} {g : α → Store → Res β} : (Res.exn k fs s : Res α).bind g = .exn k fs s := rfl
@[simp] theorem bind_bad {g : α → Store → Res β} : (Res.bad : Res α).bind g = .bad := rfl
@[simp] theorem to_ok {z : α} {g : α → Store → Out} : (Res.ok z s).to env g = g z s := rfl
@[simp] theorem to_exn {k : Nat} {fs : List D} {g : α → Store → Out} : (Res.exn k fs s : Res α).to env g = .exn k fs env s := rfl
@[simp] theorem seq_nx : (Out.nx env s).seq F = F env s := rfl
@[simp] theorem seq_ret : (Out.ret d s).seq F = .ret d s := rfl
@[simp] theorem seq_bk : (Out.bk env s).seq F = .bk env s := rfl
@[simp] theorem seq_ct : (Out.ct env s).seq F = .ct env s := rfl
@[simp] theorem seq_exn {fs : List D} : (Out.exn k fs env s).seq F = .exn k fs env s := rfl
@[simp] theorem e_C : xC d env st = .ok d st := rfl
theorem e_Var (h : env[n]? = some (some d)) : xVar n env st = .ok d st := by unfold xVar; rw [h]
@[simp] theorem e_V0 {l : DEnv} : xVar 0 (some d :: l) st = .ok d st := rfl
@[simp] theorem e_VS {l : DEnv} {z : Option D} : xVar (n + 1) (z :: l) st = xVar n l st := rfl
@[simp] theorem e_Op {g : D → D → M D} : xOp g a b env st = (a env st).bind fun x s1 => (b env s1).bind fun y s2 => g x y s2 := rfl
@[simp] theorem e_Un {g : D → M D} : xUn g a env st = (a env st).bind fun x s1 => g x s1 := rfl
@[simp] theorem e_If : xIf t a b env st = (t env st).bind fun c s1 => if c = true then a env s1 else b env s1 := rfl
def tBl (d : D) (s : Store) : Res Bool := match d with
  | .bl k => .ok k s
  | _ => .bad
@[simp] theorem tBl_bl {k : Bool} : tBl (.bl k) s = .ok k s := rfl
@[simp] theorem e_Test : bTest a env st = (a env st).bind tBl := by
  unfold bTest
  congr
@[simp] theorem e_bAnd : bAnd t u env st = (t env st).bind fun c s1 => if c = true then u env s1 else .ok false s1 := rfl
@[simp] theorem e_bOr : bOr t u env st = (t env st).bind fun c s1 => if c = true then .ok true s1 else u env s1 := rfl
@[simp] theorem e_bNot : bNot t env st = (t env st).bind fun c s1 => .ok (!c) s1 := rfl
@[simp] theorem e_And : xAnd a b env st = (a env st).bind fun x s1 => (match x with
  | .bl k => if k = true then b env s1 else .ok (.bl false) s1
  | _ => .bad) := by
  unfold xAnd
  congr
@[simp] theorem e_Or : xOr a b env st = (a env st).bind fun x s1 => (match x with
  | .bl k => if k = true then .ok (.bl true) s1 else b env s1
  | _ => .bad) := by
  unfold xOr
  congr
@[simp] theorem e_Not : xNot a env st = (a env st).bind fun x s1 => (match x with
  | .bl k => .ok (.bl (!k)) s1
  | _ => .bad) := by
  unfold xNot
  congr
@[simp] theorem e_Nil : aNil env st = .ok [] st := rfl
@[simp] theorem e_Cons : aCons a f env st = (a env st).bind fun x s1 => (f env s1).bind fun xs s2 => .ok (x :: xs) s2 := rfl
@[simp] theorem e_Tup : xTup f env st = (f env st).bind fun xs s1 => if xs.length ≤ sizeLine then .ok (.tup xs) s1 else .bad := rfl
@[simp] theorem e_Lst {mu : Bool} : xLst mu f env st = (f env st).bind fun xs s1 => mkL mu xs s1 := rfl
@[simp] theorem e_Call {den : List D → M D} : xCall den f env st = (f env st).bind fun ds s1 => den ds s1 := rfl
@[simp] theorem e_CB {g : List D → M D} : xCB g f env st = (f env st).bind fun ds s1 => g ds s1 := rfl
@[simp] theorem e_oNo : oNo env st = .ok none st := rfl
@[simp] theorem e_oSo : oSo a env st = (a env st).bind fun d s1 => (match d with
  | .int i => .ok (some i) s1
  | _ => .bad) := by
  unfold oSo
  congr
@[simp] theorem e_Sl {mu : Bool} {l h : FO} : xSl mu a l h env st = (a env st).bind fun d s1 => (l env s1).bind fun a s2 => (h env s2).bind fun b s3 => slD mu d a b s3 := rfl
@[simp] theorem x_Nil : sNil env st = .nx env st := rfl
@[simp] theorem x_Seq : sSeq F G env st = (F env st).seq G := rfl
@[simp] theorem x_Ret : sRet a env st = (a env st).to env fun d s1 => .ret d s1 := rfl
@[simp] theorem x_RetN : sRetN env st = .ret .non st := rfl
@[simp] theorem x_Drop : sDrop a env st = (a env st).to env fun _ s1 => .nx env s1 := rfl
@[simp] theorem x_If : sIf t F G env st = (t env st).to env fun c s1 => if c = true then F env s1 else G env s1 := rfl
@[simp] theorem x_Brk : sBrk env st = .bk env st := rfl
@[simp] theorem x_Ct : sCt env st = .ct env st := rfl
@[simp] theorem x_Raise : sRaise k env st = .exn k [] env st := rfl
@[simp] theorem x_Asg {g : TGD} : sAsg g a env st = (a env st).to env fun d s1 => (match g env d with
  | some env' => .nx env' s1
  | none => .bad) := by
  unfold sAsg
  congr
@[simp] theorem x_Nm : gNm n env d = some (env.set n (some d)) := rfl
@[simp] theorem x_Tp {is : List Nat} : gTp is env (.tup ds) = gNms is env ds := rfl
@[simp] theorem x_Nms0 : gNms [] env [] = some env := rfl
@[simp] theorem x_NmsS {is : List Nat} : gNms (n :: is) env (d :: ds) = gNms is (env.set n (some d)) ds := rfl
@[simp] theorem x_Par {is : List Nat} : sPar is f env st = (f env st).to env fun ds s1 => (match gNms is env ds with
  | some env' => .nx env' s1
  | none => .bad) := by
  unfold sPar
  congr
@[simp] theorem x_While {n : Nat} : sWhile n t F env st = whileL t F n env st := rfl
@[simp] theorem mkL_imm : mkL false ds st = if ds.length ≤ sizeLine then .ok (.lst ds) st else .bad := by unfold mkL; simp
@[simp] theorem mkL_mut : mkL true ds st = if ds.length ≤ sizeLine then .ok (.cell st.length) (st ++ [.lst ds]) else .bad := by unfold mkL; simp
@[simp] theorem size_val : sizeLine = 16777216 := sizeLine_eq
-- numbers
@[simp] theorem add_i {mu : Bool} {p q : Int} : addD mu (.int p) (.int q) st = .ok (.int (p + q)) st := rfl
@[simp] theorem sub_i {p q : Int} : subD (.int p) (.int q) st = .ok (.int (p - q)) st := rfl
theorem mul_i {mu : Bool} {p q : Int} : mulD mu (.int p) (.int q) st = if p.natAbs.log2 + q.natAbs.log2 < 1000000 then .ok (.int (p * q)) st else .bad := rfl
theorem log_lt {x : Int} {k : Nat} (h0 : 0 ≤ x) (h : x < 2 ^ k) : x.natAbs.log2 < k + 1 := by
  by_cases z : x.natAbs = 0
  · rw [z]; simp
  · have := Nat.log2_lt z |>.mpr (show x.natAbs < 2 ^ k by
      have e : (x.natAbs : Int) = x := Int.natAbs_of_nonneg h0
      have : (x.natAbs : Int) < ((2 ^ k : Nat) : Int) := by rw [e]; push_cast; exact h
      exact_mod_cast this)
    omega
/-- a number that may be multiplied -/
def Sm (x : Int) : Prop := 0 ≤ x ∧ x < 2 ^ 400000
theorem mul_ok {p q : Int} (hp : Sm p) (hq : Sm q) (mu : Bool) (st : Store) : mulD mu (.int p) (.int q) st = .ok (.int (p * q)) st := by
  have h1 := log_lt hp.1 hp.2
  have h2 := log_lt hq.1 hq.2
  rw [mul_i, if_pos (by omega)]
theorem Sm.of {x : Int} {k : Nat} (h0 : 0 ≤ x) (h : x < 2 ^ k) (hk : k ≤ 400000) : Sm x := ⟨h0, Int.lt_of_lt_of_le h (by
  have := Nat.pow_le_pow_right (show 0 < 2 by decide) hk
  exact_mod_cast this)⟩
@[simp] theorem mod_i {p q : Int} : modD (.int p) (.int q) st = if 0 < q then .ok (.int (p % q)) st else .bad := rfl
@[simp] theorem fdiv_i {p q : Int} : fdivD (.int p) (.int q) st = if 0 < q ∧ q.natAbs.log2 < 9000 then .ok (.int (p / q)) st else .bad := rfl
@[simp] theorem pow_i {p q : Int} : powD (.int p) (.int q) st = if 0 ≤ q ∧ q ≤ 1000000 ∧ p.natAbs < 2 ^ 64 then .ok (.int (p ^ q.toNat)) st else .bad := rfl
@[simp] theorem lt_i {p q : Int} : ltD (.int p) (.int q) st = .ok (.bl (decide (p < q))) st := rfl
@[simp] theorem le_i {p q : Int} : leD (.int p) (.int q) st = .ok (.bl (decide (p ≤ q))) st := rfl
@[simp] theorem gt_i {p q : Int} : gtD (.int p) (.int q) st = .ok (.bl (decide (q < p))) st := rfl
@[simp] theorem ge_i {p q : Int} : geD (.int p) (.int q) st = .ok (.bl (decide (q ≤ p))) st := rfl
@[simp] theorem neg_i {p : Int} : negD (.int p) st = .ok (.int (-p)) st := rfl
@[simp] theorem eq_i {p q : Int} : eqD (.int p) (.int q) st = .ok (.bl (decide (p = q))) st := rfl
@[simp] theorem ne_i {p q : Int} : neD (.int p) (.int q) st = .ok (.bl (!decide (p = q))) st := rfl
@[simp] theorem eq_s {p q : Str} : eqD (.str p) (.str q) st = .ok (.bl (decide (p = q))) st := rfl
@[simp] theorem ne_s {p q : Str} : neD (.str p) (.str q) st = .ok (.bl (!decide (p = q))) st := rfl
@[simp] theorem abs_i {p : Int} : absD [.int p] st = .ok (.int (if p < 0 then -p else p)) st := rfl
@[simp] theorem max_i {p q : Int} : max2D [.int p, .int q] st = .ok (.int (if q > p then q else p)) st := rfl
@[simp] theorem min_i {p q : Int} : min2D [.int p, .int q] st = .ok (.int (if q < p then q else p)) st := rfl
-- lists
def lstO (z : Option O) : Option (List D) := match z with
  | some (.lst ds) => some ds
  | _ => none
@[simp] theorem lstO_some : lstO (some (.lst ds)) = some ds := rfl
@[simp] theorem lst_cell : lstOf (.cell n) st = lstO st[n]? := by
  unfold lstOf lstO
  dsimp only
  all_goals (split <;> simp_all)
@[simp] theorem lst_lst : lstOf (.lst ds) st = some ds := rfl
@[simp] theorem seq_cell : seqOf (.cell n) st = lstO st[n]? := by
  unfold seqOf lstO
  dsimp only
  all_goals (split <;> simp_all)
@[simp] theorem seq_lst : seqOf (.lst ds) st = some ds := rfl
@[simp] theorem seq_tup : seqOf (.tup ds) st = some ds := rfl
@[simp] theorem seq_scr {ns : List Int} : seqOf (.scr ns) st = some (ns.map D.int) := rfl
theorem ne_nil {xs : List D} (h : lstOf d st = some xs) : neD d (.lst []) st = .ok (.bl (!xs.isEmpty)) st := by
  unfold neD eqB
  cases d <;> simp_all [lstOf]
theorem eq_nil {xs : List D} (h : lstOf d st = some xs) : eqD d (.lst []) st = .ok (.bl xs.isEmpty) st := by
  unfold eqD eqB
  cases d <;> simp_all [lstOf]
@[simp] theorem nel_nil : neD (.lst ds) (.lst []) st = .ok (.bl (!ds.isEmpty)) st := ne_nil rfl
@[simp] theorem eql_nil : eqD (.lst ds) (.lst []) st = .ok (.bl ds.isEmpty) st := eq_nil rfl
def nilO (f : Bool → Bool) (z : Option O) (s : Store) : Res D := match z with
  | some (.lst ds) => .ok (.bl (f ds.isEmpty)) s
  | _ => .bad
@[simp] theorem nilO_some {f : Bool → Bool} : nilO f (some (.lst ds)) s = .ok (.bl (f ds.isEmpty)) s := rfl
theorem nec_nil (h : st[n]? = some (.lst ds)) : neD (.cell n) (.lst []) st = .ok (.bl (!ds.isEmpty)) st := ne_nil (by simp [h])
theorem eqc_nil (h : st[n]? = some (.lst ds)) : eqD (.cell n) (.lst []) st = .ok (.bl ds.isEmpty) st := eq_nil (by simp [h])
def ixR (z : Option D) (s : Store) : Res D := match z with
  | some d => .ok d s
  | none => .bad
@[simp] theorem ixR_some : ixR (some d) s = .ok d s := rfl
def ixO (z : Option O) (j : Int) (s : Store) : Res D := match z with
  | some (.lst ds) => ixR (atI ds j) s
  | _ => .bad
@[simp] theorem ixO_some {j : Int} : ixO (some (.lst ds)) j s = ixR (atI ds j) s := rfl
theorem ix_seq {j : Int} (h : seqOf d st = some ds) (ns : ∀ z, d ≠ .str z) : ixD d (.int j) st = ixR (atI ds j) st := by
  unfold ixD
  cases d with
  | str z => exact (ns z rfl).elim
  | _ => simp only [h]; rfl
@[simp] theorem ix_lst {j : Int} : ixD (.lst ds) (.int j) st = ixR (atI ds j) st := rfl
@[simp] theorem ix_tup {j : Int} : ixD (.tup ds) (.int j) st = ixR (atI ds j) st := rfl
@[simp] theorem ix_scr {j : Int} {ns : List Int} : ixD (.scr ns) (.int j) st = ixR (atI (ns.map D.int) j) st := rfl
@[simp] theorem ix_cell {j : Int} : ixD (.cell n) (.int j) st = ixO st[n]? j st := by
  unfold ixD ixO
  dsimp only
  rw [seq_cell]
  cases e : st[n]? with
  | none => rfl
  | some o => cases o <;> rfl
@[simp] theorem len_lst : lenD [.lst ds] st = .ok (.int ds.length) st := rfl
@[simp] theorem len_tup : lenD [.tup ds] st = .ok (.int ds.length) st := rfl
@[simp] theorem len_scr {ns : List Int} : lenD [.scr ns] st = .ok (.int ns.length) st := by simp [lenD, seqOf]
def lenO' (z : Option O) (s : Store) : Res D := match z with
  | some (.lst ds) => .ok (.int ds.length) s
  | _ => .bad
@[simp] theorem lenO'_some : lenO' (some (.lst ds)) s = .ok (.int ds.length) s := rfl
@[simp] theorem len_cell : lenD [.cell n] st = lenO' st[n]? st := by
  unfold lenD lenO'
  dsimp only
  rw [seq_cell]
  cases e : st[n]? with
  | none => rfl
  | some o => cases o <;> rfl
@[simp] theorem at_none {j : Int} : atI ([] : List D) j = none := by
  unfold atI ixN
  split
  · split <;> simp
  · simp
theorem at_nat {j : Nat} (h : ds[j]? = some d) : atI ds (j : Int) = some d := by
  have q := (List.getElem?_eq_some_iff.mp h).1
  unfold atI ixN
  rw [if_pos (by omega), if_pos (by omega)]
  simpa using h
@[simp] theorem at_0 {l : List D} : atI (d :: l) 0 = some d := at_nat (j := 0) rfl
@[simp] theorem at_1 {l : List D} : atI (d :: x :: l) 1 = some x := at_nat (j := 1) rfl
@[simp] theorem at_2 {l : List D} : atI (d :: x :: y :: l) 2 = some y := at_nat (j := 2) rfl
theorem at_int {j : Int} (h0 : 0 ≤ j) (h : ds[j.toNat]? = some d) : atI ds j = some d := by
  have q := at_nat h
  rwa [Int.toNat_of_nonneg h0] at q
theorem at_last (h : ds.getLast? = some d) : atI ds (-1) = some d := by
  have ne : ds ≠ [] := fun z => by rw [z] at h; cases h
  have q : 0 < ds.length := List.length_pos_iff.mpr ne
  unfold atI ixN
  rw [if_neg (by omega), if_pos (by omega)]
  rw [List.getLast?_eq_getElem?] at h
  have e : ((-1 : Int) + ds.length).toNat = ds.length - 1 := by omega
  simp only [Option.bind_some, e, h]
end
section
variable {env : DEnv} {st s : Store} {a o : FE} {d x : D} {ds : List D} {f : DEnv → M (List D)} {n : Nat}
@[simp] theorem e_BMt {ty : D → Store → Bool} {g : D → List D → M D} : xBMt ty g o f env st = (o env st).bind fun d s1 => if ty d s1 = true then (f env s1).bind fun ds s2 => g d ds s2 else .bad := rfl
def islO (z : Option O) : Bool := match z with
  | some (.lst _) => true
  | _ => false
@[simp] theorem islO_some : islO (some (.lst ds)) = true := rfl
@[simp] theorem isl_cell : isLst (.cell n) st = islO st[n]? := by
  unfold isLst islO
  rw [lst_cell]
  cases e : st[n]? with
  | none => rfl
  | some o => cases o <;> rfl
@[simp] theorem put_ok : putL n ds x st = .ok x (st.set n (.lst ds)) := rfl
def pop0O (z : Option O) (n : Nat) (s : Store) : Res D := match z with
  | some (.lst (d :: ds)) => .ok d (s.set n (.lst ds))
  | _ => .bad
@[simp] theorem pop0O_some : pop0O (some (.lst (d :: ds))) n s = .ok d (s.set n (.lst ds)) := rfl
@[simp] theorem pop0_ok : popAtD (.cell n) [.int 0] st = pop0O st[n]? n st := by
  unfold popAtD pop0O
  dsimp only
  split
  · rename_i xs h
    cases xs <;> simp [h, PySem.seqIndex?]
  · rename_i h
    split
    · rename_i q; exact (h _ q).elim
    · rfl
theorem pop_ok {l : List D} (h : st[n]? = some (.lst (l ++ [d]))) : popD (.cell n) [] st = .ok d (st.set n (.lst l)) := by
  simp [popD, h]
def appO (z : Option O) (d : D) (n : Nat) (s : Store) : Res D := match z with
  | some (.lst ds) => if ds.length < sizeLine then .ok .non (s.set n (.lst (ds ++ [d]))) else .bad
  | _ => .bad
@[simp] theorem appO_some : appO (some (.lst ds)) d n s = if ds.length < sizeLine then .ok .non (s.set n (.lst (ds ++ [d]))) else .bad := rfl
@[simp] theorem app_ok : appendD (.cell n) [d] st = appO st[n]? d n st := by
  unfold appendD appO
  dsimp only
  split <;> simp_all
def revO (z : Option O) (n : Nat) (s : Store) : Res D := match z with
  | some (.lst ds) => .ok .non (s.set n (.lst ds.reverse))
  | _ => .bad
@[simp] theorem revO_some : revO (some (.lst ds)) n s = .ok .non (s.set n (.lst ds.reverse)) := rfl
@[simp] theorem rev_ok : reverseD (.cell n) [] st = revO st[n]? n st := by
  unfold reverseD revO
  dsimp only
  split <;> simp_all
def putI (d k y : D) (env : DEnv) (s3 : Store) : Out := match d, k with
  | .cell n, .int j => (match s3[n]? with
    | some (.lst xs) => (match ixN xs.length j with
      | some m => .nx env (s3.set n (.lst (xs.set m y)))
      | none => .bad)
    | _ => .bad)
  | _, _ => .bad
def putO (z : Option O) (n : Nat) (j : Int) (y : D) (env : DEnv) (s3 : Store) : Out := match z with
  | some (.lst xs) => (match ixN xs.length j with
      | some m => .nx env (s3.set n (.lst (xs.set m y)))
      | none => .bad)
  | _ => .bad
@[simp] theorem putO_some {xs : List D} {j : Int} {y : D} : putO (some (.lst xs)) n j y env s = (match ixN xs.length j with
      | some m => .nx env (s.set n (.lst (xs.set m y)))
      | none => .bad) := rfl
@[simp] theorem putI_ok {j : Int} {y : D} : putI (.cell n) (.int j) y env st = putO st[n]? n j y env st := by
  unfold putI putO
  dsimp only
@[simp] theorem x_SetI {i e : FE} : sSetI o i e env st = (e env st).to env fun y s1 => (o env s1).to env fun d s2 => (i env s2).to env fun k s3 => putI d k y env s3 := rfl
@[simp] theorem ixN_0 {k : Nat} : ixN (k + 1) 0 = some 0 := by
  unfold ixN
  rw [if_pos (by omega), if_pos (by omega)]
  rfl
@[simp] theorem ixN_1 {k : Nat} : ixN (k + 1 + 1) 1 = some 1 := by
  unfold ixN
  rw [if_pos (by omega), if_pos (by omega)]
  rfl
@[simp] theorem ixN_2 {k : Nat} : ixN (k + 1 + 1 + 1) 2 = some 2 := by
  unfold ixN
  rw [if_pos (by omega), if_pos (by omega)]
  rfl
theorem ixN_ok {k : Nat} {j : Int} (h0 : 0 ≤ j) (h1 : j < k) : ixN k j = some j.toNat := by
  unfold ixN
  rw [if_pos h0, if_pos h1]
end
theorem fnD_ret {n : Nat} {N : List Str} {F : FS} {ds : List D} {st s : Store} {d : D} (h : F (startE N ds) st = .ret d s) (hl : ds.length = n) : fnD n N F ds st = .ok d s := by
  unfold fnD
  rw [if_pos hl, h]
theorem fnD_nx {n : Nat} {N : List Str} {F : FS} {ds : List D} {st s : Store} {env : DEnv} (h : F (startE N ds) st = .nx env s) (hl : ds.length = n) : fnD n N F ds st = .ok .non s := by
  unfold fnD
  rw [if_pos hl, h]
theorem fnD_exn {n k : Nat} {N : List Str} {F : FS} {ds fs : List D} {st s : Store} {env : DEnv} (h : F (startE N ds) st = .exn k fs env s) (hl : ds.length = n) : fnD n N F ds st = .exn k fs s := by
  unfold fnD
  rw [if_pos hl, h]
/-! ### the store: what a step lets be -/
def Chg (S : List Nat) (st st' : Store) : Prop := st.length ≤ st'.length ∧ ∀ i, i < st.length → i ∉ S → st'[i]? = st[i]?
section
variable {S T : List Nat} {s s1 s2 : Store} {n : Nat} {o : O}
theorem Chg.refl : Chg S s s := ⟨Nat.le_refl _, fun _ _ _ => rfl⟩
theorem Chg.trans (h : Chg S s s1) (h' : Chg S s1 s2) : Chg S s s2 := ⟨Nat.le_trans h.1 h'.1, fun i hi n => (h'.2 i (Nat.lt_of_lt_of_le hi h.1) n).trans (h.2 i hi n)⟩
theorem Chg.mono (h : Chg S s s1) (hs : ∀ i ∈ S, i ∈ T) : Chg T s s1 := ⟨h.1, fun i hi n => h.2 i hi fun z => n (hs i z)⟩
theorem Chg.set (hn : n ∈ S) : Chg S s (s.set n o) := ⟨by simp, fun i _ q => by
  rw [List.getElem?_set_ne]
  exact fun z => q (z ▸ hn)⟩
theorem Chg.app {l : Store} : Chg S s (s ++ l) := ⟨by simp, fun i hi _ => List.getElem?_append_left hi⟩
theorem Chg.keep (h : Chg S s s1) (hn : n ∉ S) (e : s[n]? = some o) : s1[n]? = some o := (h.2 n (List.getElem?_eq_some_iff.mp e).1 hn).trans e
theorem get_set_same (e : ∃ o', s[n]? = some o') : (s.set n o)[n]? = some o := by
  obtain ⟨o', e⟩ := e
  exact List.getElem?_set_self (List.getElem?_eq_some_iff.mp e).1
@[simp] theorem get_set_map : (s.set n o)[n]? = s[n]?.map fun _ => o := by
  cases e : s[n]? with
  | none =>
    rw [List.getElem?_eq_none_iff] at e
    rw [List.getElem?_eq_none_iff.mpr (by simpa using e)]
    rfl
  | some o' => exact get_set_same ⟨_, e⟩
theorem get_set_other {m : Nat} (h : n ≠ m) : (s.set n o)[m]? = s[m]? := List.getElem?_set_ne h
theorem set_id (e : s[n]? = some o) : s.set n o = s := by
  apply List.ext_getElem?
  intro i
  by_cases h : n = i
  · subst h
    rw [get_set_same ⟨_, e⟩, e]
  · exact get_set_other h
theorem lt_of_get (e : s[n]? = some o) : n < s.length := (List.getElem?_eq_some_iff.mp e).1
end
end DS

namespace DS
open PySem L2

/-! ### objects -/
section
variable {env env0 env1 : DEnv} {st s s1 : Store} {a o e : FE} {d x y : D} {ds xs : List D} {f : DEnv → M (List D)} {n i c : Nat} {cs : List Nat} {tb : List (Nat × (List D → M D))}
def objO (z : Option O) : Option (Nat × List D) := match z with
  | some (.obj c ds) => some (c, ds)
  | _ => none
@[simp] theorem objO_some : objO (some (.obj c ds)) = some (c, ds) := rfl
@[simp] theorem fo_cell : fieldsOf (.cell n) st = objO st[n]? := by
  unfold fieldsOf objO
  dsimp only
  all_goals (cases h : st[n]? with
  | none => rfl
  | some o => cases o <;> rfl)
@[simp] theorem fo_ins : fieldsOf (.ins c ds) st = some (c, ds) := rfl
def fldR (cs : List Nat) (i : Nat) (z : Option (Nat × List D)) (s : Store) : Res D := match z with
  | some (c, ds) => if c ∈ cs then ixR ds[i]? s else .bad
  | none => .bad
@[simp] theorem fldR_some : fldR cs i (some (c, ds)) s = if c ∈ cs then ixR ds[i]? s else .bad := rfl
@[simp] theorem e_Fld : xFld cs i o env st = (o env st).bind fun d s1 => fldR cs i (fieldsOf d s1) s1 := by
  unfold xFld
  congr
def setR (cs : List Nat) (i : Nat) (n : Nat) (y : D) (env : DEnv) (z : Option (Nat × List D)) (s : Store) : Out := match z with
  | some (c, ds) => if c ∈ cs then (match setF ds i y with
      | some ds' => .nx env (s.set n (.obj c ds'))
      | none => .bad) else .bad
  | none => .bad
@[simp] theorem setR_some : setR cs i n y env (some (c, ds)) s = if c ∈ cs then (match setF ds i y with
      | some ds' => .nx env (s.set n (.obj c ds'))
      | none => .bad) else .bad := rfl
def setC (cs : List Nat) (i : Nat) (d y : D) (env : DEnv) (s2 : Store) : Out := match d with
  | .cell n => setR cs i n y env (objO s2[n]?) s2
  | _ => .bad
@[simp] theorem setC_cell : setC cs i (.cell n) y env s = setR cs i n y env (objO s[n]?) s := rfl
@[simp] theorem x_FldSet : sFldSet cs i o e env st = (e env st).to env fun y s1 => (o env s1).to env fun d s2 => setC cs i d y env s2 := by
  have key : ∀ d y s2, (match d with
    | .cell n => match s2[n]? with
      | some (.obj c ds) => if c ∈ cs then (match setF ds i y with
        | some ds' => .nx env (s2.set n (.obj c ds'))
        | none => .bad) else .bad
      | _ => .bad
    | _ => .bad) = setC cs i d y env s2 := fun d y s2 => by
    cases d with
    | cell n =>
      unfold setC setR objO
      dsimp only
      cases h : s2[n]? with
      | none => rfl
      | some o => cases o <;> rfl
    | _ => rfl
  unfold sFldSet
  congr
  funext y s1
  congr
  funext d s2
  exact key d y s2
@[simp] theorem setF_here {l : List D} : setF (d :: l) 0 y = some (y :: l) := by simp [setF]
@[simp] theorem setF_nil : setF [] 0 y = some [y] := by simp [setF]
@[simp] theorem setF_1 {l : List D} : setF (d :: x :: l) 1 y = some (d :: y :: l) := by simp [setF]
@[simp] theorem setF_1n : setF [d] 1 y = some [d, y] := by simp [setF]
@[simp] theorem setF_2n : setF [d, x] 2 y = some [d, x, y] := by simp [setF]
@[simp] theorem setF_2 {u : D} {l : List D} : setF (d :: x :: u :: l) 2 y = some (d :: x :: y :: l) := by simp [setF]
def methR (tb : List (Nat × (List D → M D))) (d : D) (f : DEnv → M (List D)) (env : DEnv) (z : Option (Nat × List D)) (s1 : Store) : Res D := match z with
  | some (c, _) => match tb.lookup c with
    | some den => (f env s1).bind fun ds s2 => den (d :: ds) s2
    | none => .bad
  | none => .bad
@[simp] theorem methR_some : methR tb d f env (some (c, ds)) s = (match tb.lookup c with
    | some den => (f env s).bind fun ds s2 => den (d :: ds) s2
    | none => .bad) := rfl
@[simp] theorem e_Meth : xMeth tb o f env st = (o env st).bind fun d s1 => methR tb d f env (fieldsOf d s1) s1 := by
  unfold xMeth
  congr
def methKR (c : Nat) (ix : List Nat) (den : List D → M D) (d : D) (f : DEnv → M (List D)) (env : DEnv) (z : Option (Nat × List D)) (s1 : Store) : Res D := match z with
  | some (c', _) => if c' = c then (f env s1).bind fun ds s2 => den (d :: pick ix ds) s2 else .bad
  | none => .bad
@[simp] theorem methKR_some {c' : Nat} {ix : List Nat} {den : List D → M D} : methKR c ix den d f env (some (c', ds)) s = if c' = c then (f env s).bind fun ds s2 => den (d :: pick ix ds) s2 else .bad := rfl
@[simp] theorem e_MethK {ix : List Nat} {den : List D → M D} : xMethK c ix den o f env st = (o env st).bind fun d s1 => methKR c ix den d f env (fieldsOf d s1) s1 := by
  unfold xMethK
  congr
@[simp] theorem e_CallK {ix : List Nat} {den : List D → M D} : xCallK ix den f env st = (f env st).bind fun ds s1 => den (pick ix ds) s1 := rfl
@[simp] theorem pick_nil : pick [] ds = [] := rfl
@[simp] theorem pick_cons {ix : List Nat} : pick (i :: ix) ds = (match ds[i]? with
  | some b => b :: pick ix ds
  | none => pick ix ds) := by
  unfold pick
  rw [List.filterMap_cons]
  cases ds[i]? <;> rfl
theorem lenO_ok {den : List D → M D} {k : Int} (h : fieldsOf d st = some (c, ds)) (ht : tb.lookup c = some den) (hd : den [d] st = .ok (.int k) s) (h0 : 0 ≤ k) (h1 : k < 2 ^ 63) : lenO tb d st = .ok (.int k) s := by
  unfold lenO
  rw [h]
  dsimp only
  rw [ht]
  dsimp only
  rw [hd]
  dsimp only
  rw [if_pos ⟨h0, h1⟩]
@[simp] theorem e_LenO : xLenO tb o env st = (o env st).bind fun d s1 => lenO tb d s1 := rfl
@[simp] theorem e_Star : aStar a f env st = (a env st).bind fun d s1 => (match seqOf d s1 with
  | some xs => (f env s1).bind fun ys s2 => .ok (xs ++ ys) s2
  | none => .bad) := by
  unfold aStar
  congr
/-! ### lists -/
@[simp] theorem list_ok {mu : Bool} : listD mu [d] st = (match seqOf d st with
  | some xs => mkL mu xs st
  | none => .bad) := rfl
@[simp] theorem add_ll {mu : Bool} : addD mu (.lst ds) (.lst xs) st = mkL mu (ds ++ xs) st := rfl
theorem add_lists {mu : Bool} (h : lstOf d st = some ds) (h' : lstOf x st = some xs) : addD mu d x st = mkL mu (ds ++ xs) st := by
  unfold addD
  cases d <;> cases x <;> simp_all [lstOf]
theorem sl_list {mu : Bool} {lo hi : Option Int} (h : lstOf d st = some ds) (nw : (lo = none ∧ hi = none) = False) : slD mu d lo hi st = slD mu d lo hi st := rfl
@[simp] theorem src_lst : iSrc (.lst ds) st = some (ds, []) := rfl
@[simp] theorem src_tup : iSrc (.tup ds) st = some (ds, []) := rfl
@[simp] theorem src_scr {ns : List Int} : iSrc (.scr ns) st = some (ns.map D.int, []) := rfl
theorem src_cell (h : st[n]? = some (.lst ds)) : iSrc (.cell n) st = some (ds, [(n, ds)]) := by simp [iSrc, h]
@[simp] theorem f_List : fList a env st = (a env st).bind fun d s1 => (match iSrc d s1 with
  | some p => .ok p s1
  | none => .bad) := by
  unfold fList
  congr
def rg1 (ds : List D) (s1 : Store) : Res (List D × Kp) := match ds with
  | [.int j] => if -(2 ^ 62) ≤ j ∧ j < 2 ^ 62 then .ok (rangeL 0 j.toNat, []) s1 else .bad
  | _ => .bad
@[simp] theorem rg1_int {k : Int} : rg1 [.int k] s = if -(2 ^ 62) ≤ k ∧ k < 2 ^ 62 then .ok (rangeL 0 k.toNat, []) s else .bad := rfl
@[simp] theorem f_Range1 : fRange1 f env st = (f env st).bind rg1 := rfl
def rg2 (ds : List D) (s1 : Store) : Res (List D × Kp) := match ds with
  | [.int i, .int j] => if -(2 ^ 62) ≤ i ∧ i < 2 ^ 62 ∧ -(2 ^ 62) ≤ j ∧ j < 2 ^ 62 then .ok (rangeL i (j - i).toNat, []) s1 else .bad
  | _ => .bad
@[simp] theorem rg2_int {j k : Int} : rg2 [.int j, .int k] s = if -(2 ^ 62) ≤ j ∧ j < 2 ^ 62 ∧ -(2 ^ 62) ≤ k ∧ k < 2 ^ 62 then .ok (rangeL j (k - j).toNat, []) s else .bad := rfl
@[simp] theorem f_Range2 : fRange2 f env st = (f env st).bind rg2 := rfl
theorem keep_nil : keepOk [] st := fun p h => nomatch h
theorem keep_one (h : st[n]? = some (.lst ds)) : keepOk [(n, ds)] st := fun p hp => by
  simp only [List.mem_singleton] at hp
  subst hp
  exact h
/-- a comprehension that lets the store be -/
theorem lc_pure {ks : Kp} {g : TGD} {tt : DEnv → M Bool} {te : FE} {p : D → Bool} {φ : D → D} (hk : keepOk ks st) : ∀ (xs acc : List D), (∀ d ∈ xs, ∃ env1, g env0 d = some env1 ∧ tt env1 st = .ok (p d) st ∧ (p d = true → te env1 st = .ok (φ d) st)) → acc.length + xs.length ≤ sizeLine →
    lcL ks g env0 tt te xs acc st = .ok (acc ++ (xs.filter p).map φ) st
  | [], acc, _, _ => by simp [lcL, hk]
  | d :: xs, acc, h, hl => by
    obtain ⟨env1, h1, h2, h3⟩ := h d List.mem_cons_self
    have hl' : acc.length + xs.length + 1 ≤ sizeLine := by simpa [Nat.add_assoc] using hl
    unfold lcL
    rw [if_pos hk, h1]
    dsimp only
    rw [h2]
    dsimp only
    cases hp : p d with
    | true =>
      rw [if_pos rfl, h3 hp]
      dsimp only
      rw [if_pos (by omega), lc_pure hk xs (acc ++ [φ d]) (fun d hd => h d (List.mem_cons_of_mem _ hd)) (by rw [List.length_append, List.length_singleton]; omega)]
      simp [hp]
    | false =>
      rw [if_neg (by simp), lc_pure hk xs acc (fun d hd => h d (List.mem_cons_of_mem _ hd)) (by omega)]
      simp [hp]
theorem lc_map {ks : Kp} {g : TGD} {te : FE} {φ : D → D} {tt : DEnv → M Bool} (hk : keepOk ks st) (xs acc : List D) (h : ∀ d ∈ xs, ∃ env1, g env0 d = some env1 ∧ tt env1 st = .ok true st ∧ te env1 st = .ok (φ d) st) (hl : acc.length + xs.length ≤ sizeLine) :
    lcL ks g env0 tt te xs acc st = .ok (acc ++ xs.map φ) st := by
  rw [lc_pure (p := fun _ => true) (φ := φ) hk xs acc (fun d hd => let ⟨e, h1, h2, h3⟩ := h d hd; ⟨e, h1, h2, fun _ => h3⟩) hl, List.filter_eq_self.mpr (by simp)]
@[simp] theorem b_Yes : bYes env st = .ok true st := rfl
@[simp] theorem e_Lc {mu : Bool} {src : FI} {g : TGD} {vs : List Nat} {tt : DEnv → M Bool} {te : FE} : xLc mu src g vs tt te env st = (src env st).bind fun p s1 => (lcL p.2 g (wipeE env vs) tt te p.1 [] s1).bind fun acc s2 => mkL mu acc s2 := rfl
@[simp] theorem w_0 : wipeE env [] = env := rfl
@[simp] theorem w_S {vs : List Nat} : wipeE env (n :: vs) = (wipeE env vs).set n none := rfl
@[simp] theorem x_For {src : FI} {g : TGD} {F : FS} : sFor src g F env st = (src env st).to env fun p s1 => forL p.2 g F p.1 env s1 := rfl
theorem for_nil {ks : Kp} {g : TGD} {F : FS} (hk : keepOk ks st) : forL ks g F [] env st = .nx env st := by unfold forL; rw [if_pos hk]
theorem for_cons {ks : Kp} {g : TGD} {F : FS} (hk : keepOk ks st) (hg : g env d = some env1) : forL ks g F (d :: ds) env st = (match F env1 st with
      | .nx e s => forL ks g F ds e s
      | .ct e s => forL ks g F ds e s
      | .bk e s => .nx e s
      | o => o) := by
  conv => lhs; unfold forL
  first
    | (rw [if_pos hk, hg]; done)
    | (rw [if_pos hk, hg]; dsimp only; cases F env1 st <;> rfl)
end
/-! ### texts that repr makes -/
section
theorem shown_le_of {p : PyData} {w : Nat} (h : p.leavesShort 70 = true) (hw : p.weight ≤ w) (h2 : 72 * w + 70 ≤ 16777216) : p.shown.length ≤ sizeLine := by
  have q := PyData.shown_le 70 (by decide) p h
  rw [sizeLine_eq]
  have : (70 + 2) * p.weight ≤ 72 * w := Nat.mul_le_mul (by decide) hw
  omega
/-- a number of at most sixty digits or so -/
def Num (x : Int) : Prop := x.natAbs < 10 ^ 65
theorem Num.short {x : Int} (h : Num x) : (PyData.int x).leavesShort 70 = true := by
  have e := int_text_length_le10 (k := 65) (by decide) h
  simp only [PyData.leavesShort, decide_eq_true_eq]
  show (Str.ofString (toString x)).length ≤ 70
  rw [ofString_length]
  omega
theorem Num.log {x : Int} (h : Num x) : x.natAbs.log2 < 216 := by
  by_cases z : x.natAbs = 0
  · rw [z]; simp
  · exact (Nat.log2_lt z).mpr (Nat.lt_trans h (by decide))
theorem Num.weight {x : Int} (h : Num x) : (PyData.int x).weight ≤ 216 := by
  have := h.log
  unfold PyData.weight
  split
  · omega
  · omega
theorem Num.showable {x : Int} (h : Num x) : (PyData.int x).showable = true := by
  have := h.log
  simp only [PyData.showable, decide_eq_true_eq]
  omega
/-- data that repr shows within its limits: w is its weight at most, k its depth -/
structure Shy (w k : Nat) (p : PyData) : Prop where
  sh : p.leavesShort 70 = true
  we : p.weight ≤ w
  ok : p.showable = true
  nd : p.hasDict = false
  dp : p.depth ≤ k
theorem Num.shy {x : Int} (h : Num x) : Shy 216 0 (.int x) := ⟨h.short, h.weight, h.showable, by simp [PyData.hasDict], by simp [PyData.depth]⟩
structure ShyL (w k : Nat) (ps : List PyData) : Prop where
  sh : PyData.leavesShortAll 70 ps = true
  we : PyData.weightAll ps ≤ w
  ok : PyData.showableAll ps = true
  nd : PyData.hasDictAll ps = false
  dp : PyData.depthAll ps ≤ k
theorem ShyL.nil {k : Nat} : ShyL 0 k [] := ⟨by simp [PyData.leavesShortAll], by simp [PyData.weightAll], by simp [PyData.showableAll], by simp [PyData.hasDictAll], by simp [PyData.depthAll]⟩
theorem ShyL.cons {v w k : Nat} {p : PyData} {ps : List PyData} (h : Shy v k p) (h' : ShyL w k ps) : ShyL (v + 1 + w) k (p :: ps) :=
  ⟨by simp [PyData.leavesShortAll, h.sh, h'.sh], by have := h.we; have := h'.we; simp [PyData.weightAll]; omega, by simp [PyData.showableAll, h.ok, h'.ok], by simp [PyData.hasDictAll, h.nd, h'.nd], by have := h.dp; have := h'.dp; simp [PyData.depthAll]; omega⟩
theorem Shy.up {w w' k k' : Nat} {p : PyData} (h : Shy w k p) (hw : w ≤ w') (hk : k ≤ k') : Shy w' k' p := ⟨h.sh, Nat.le_trans h.we hw, h.ok, h.nd, Nat.le_trans h.dp hk⟩
theorem ShyL.up {w w' k k' : Nat} {ps : List PyData} (h : ShyL w k ps) (hw : w ≤ w') (hk : k ≤ k') : ShyL w' k' ps := ⟨h.sh, Nat.le_trans h.we hw, h.ok, h.nd, Nat.le_trans h.dp hk⟩
theorem ShyL.all {v k m : Nat} : ∀ {ps : List PyData}, (∀ p ∈ ps, Shy v k p) → ps.length ≤ m → ShyL ((v + 1) * m) k ps := fun {ps} h hl => by
  have key : ∀ ps : List PyData, (∀ p ∈ ps, Shy v k p) → ShyL ((v + 1) * ps.length) k ps := fun ps => by
    induction ps with
    | nil => exact fun _ => ShyL.nil
    | cons p ps ih => exact fun h => ((ShyL.cons (h p List.mem_cons_self) (ih fun q hq => h q (List.mem_cons_of_mem _ hq)))).up (by rw [List.length_cons, Nat.mul_add]; omega) (Nat.le_refl _)
  exact (key ps h).up (Nat.mul_le_mul_left _ hl) (Nat.le_refl _)
theorem ShyL.list {w k : Nat} {ps : List PyData} (h : ShyL w k ps) : Shy w (k + 1) (.list ps) := ⟨by simpa [PyData.leavesShort] using h.sh, by simpa [PyData.weight] using h.we, by simpa [PyData.showable] using h.ok, by simpa [PyData.hasDict] using h.nd, by have := h.dp; simp [PyData.depth]; omega⟩
theorem ShyL.tuple {w k : Nat} {ps : List PyData} (h : ShyL w k ps) : Shy w (k + 1) (.tuple ps) := ⟨by simpa [PyData.leavesShort] using h.sh, by simpa [PyData.weight] using h.we, by simpa [PyData.showable] using h.ok, by simpa [PyData.hasDict] using h.nd, by have := h.dp; simp [PyData.depth]; omega⟩
theorem repr_ok {d : D} {st : Store} {p : PyData} {w : Nat} (h : toPy 3 st d = some p) (q : Shy w 60 p) (hw : 72 * w + 70 ≤ 16777216) : reprD [d] st = .ok (.str p.shown) st := by
  unfold reprD
  dsimp only
  rw [h]
  dsimp only
  rw [if_pos ⟨q.ok, shown_le_of q.sh q.we hw, q.nd, q.dp⟩]
end
end DS

namespace DS
open PySem L2
section
variable {env env0 env1 : DEnv} {st s s1 : Store} {a b c o e : FE} {d x y : D} {ds xs : List D} {f : DEnv → M (List D)} {n i k : Nat}
/-! ### slices -/
theorem cut_to {j : Int} (h : 0 ≤ j) : cutD xs none (some j) = xs.take j.toNat := by
  have e : HT.sIx xs.length xs.length (some j) = min j.toNat xs.length := by
    unfold HT.sIx; dsimp only
    rw [if_neg (by omega)]
  unfold cutD
  rw [e, HT.sIx_none, List.drop_zero, Nat.sub_zero, List.take_eq_take_iff]
  omega
theorem cut_from {j : Int} (h : 0 ≤ j) : cutD xs (some j) none = xs.drop j.toNat := by
  have e : HT.sIx xs.length 0 (some j) = min j.toNat xs.length := by
    unfold HT.sIx; dsimp only
    rw [if_neg (by omega)]
  unfold cutD
  rw [e, HT.sIx_none]
  by_cases q : j.toNat ≤ xs.length
  · rw [Nat.min_eq_left q, List.take_of_length_le (by simp)]
  · rw [Nat.min_eq_right (by omega), List.drop_of_length_le (by omega), List.drop_of_length_le (by omega)]
    simp
theorem cut_mid {j l : Int} (h : 0 ≤ j) (h' : 0 ≤ l) : cutD xs (some j) (some l) = (xs.drop j.toNat).take (l.toNat - j.toNat) := by
  have e : HT.sIx xs.length 0 (some j) = min j.toNat xs.length := by
    unfold HT.sIx; dsimp only
    rw [if_neg (by omega)]
  have e2 : HT.sIx xs.length xs.length (some l) = min l.toNat xs.length := by
    unfold HT.sIx; dsimp only
    rw [if_neg (by omega)]
  unfold cutD
  rw [e, e2]
  by_cases q : j.toNat ≤ xs.length
  · rw [Nat.min_eq_left q, List.take_eq_take_iff, List.length_drop]
    omega
  · rw [Nat.min_eq_right (a := j.toNat) (by omega), List.drop_of_length_le (Nat.le_refl _), List.drop_of_length_le (by omega)]
    simp
theorem cut_front : cutD xs none (some (-1)) = xs.dropLast := by
  have e : HT.sIx xs.length xs.length (some (-1)) = xs.length - 1 := by
    unfold HT.sIx; dsimp only
    rw [if_pos (by decide)]
    omega
  unfold cutD
  rw [e, HT.sIx_none, List.drop_zero, Nat.sub_zero, List.dropLast_eq_take]
@[simp] theorem sl_lst {mu : Bool} {lo hi : Option Int} : slD mu (.lst ds) lo hi st = mkL mu (cutD ds lo hi) st := rfl
@[simp] theorem sl_scr {mu : Bool} {lo hi : Option Int} {ns : List Int} : slD mu (.scr ns) lo hi st = mkL mu (cutD (ns.map D.int) lo hi) st := rfl
def slO (mu : Bool) (z : Option O) (lo hi : Option Int) (s : Store) : Res D := match z with
  | some (.lst xs) => mkL mu (cutD xs lo hi) s
  | _ => .bad
@[simp] theorem slO_some {mu : Bool} {lo hi : Option Int} : slO mu (some (.lst ds)) lo hi s = mkL mu (cutD ds lo hi) s := rfl
@[simp] theorem sl_cell {mu : Bool} {lo hi : Option Int} : slD mu (.cell n) lo hi st = slO mu st[n]? lo hi st := by
  unfold slD slO
  dsimp only
  rw [seq_cell]
  unfold lstO
  cases st[n]? with
  | none => rfl
  | some o => cases o <;> rfl
/-! ### a op b op c -/
def chR (g' : D → D → M D) (c : FE) (env : DEnv) (y z : D) (s3 : Store) : Res D := match z with
  | .bl k => if k = true then (c env s3).bind fun u s4 => g' y u s4 else .ok (.bl false) s3
  | _ => .bad
@[simp] theorem chR_bl {g' : D → D → M D} {k : Bool} : chR g' c env y (.bl k) s = if k = true then (c env s).bind fun u s4 => g' y u s4 else .ok (.bl false) s := rfl
@[simp] theorem e_Chain {g g' : D → D → M D} : xChain g g' a b c env st = (a env st).bind fun x s1 => (b env s1).bind fun y s2 => (g x y s2).bind fun z s3 => chR g' c env y z s3 := by
  unfold xChain
  congr
/-! ### isinstance of plain data -/
def isiR (isa : TyN → Option Bool) (z : Option TyN) (s : Store) : Res D := match z with
  | some t => match isa t with
    | some b => .ok (.bl b) s
    | none => .bad
  | none => .bad
@[simp] theorem isiR_some {isa : TyN → Option Bool} {t : TyN} : isiR isa (some t) s = (match isa t with
    | some b => .ok (.bl b) s
    | none => .bad) := rfl
@[simp] theorem e_Isi {isa : TyN → Option Bool} : xIsi isa o env st = (o env st).bind fun d s1 => isiR isa (tyOf d s1) s1 := by
  unfold xIsi
  congr
@[simp] theorem ty_int {j : Int} : tyOf (.int j) st = some .int := rfl
@[simp] theorem ty_bl {j : Bool} : tyOf (.bl j) st = some .bl := rfl
@[simp] theorem ty_non : tyOf .non st = some .non := rfl
@[simp] theorem ty_s {z : Str} : tyOf (.str z) st = some .str := rfl
@[simp] theorem ty_l : tyOf (.lst ds) st = some .lst := rfl
@[simp] theorem ty_t : tyOf (.tup ds) st = some .tup := rfl
@[simp] theorem ty_i : tyOf (.ins n ds) st = some (.own n) := rfl
@[simp] theorem isaI_int : isaInt .int = some true := rfl
@[simp] theorem isaI_bl : isaInt .bl = some true := rfl
@[simp] theorem isaB_int : isaBl .int = some false := rfl
@[simp] theorem isaB_bl : isaBl .bl = some true := rfl
/-! ### all, in -/
theorem bls_map {α : Type} {p : α → Bool} : ∀ zs : List α, blsOf (zs.map fun z => D.bl (p z)) = some (zs.map p)
  | [] => rfl
  | z :: zs => by simp [blsOf, blOf, bls_map zs]
theorem all_map {α : Type} {p : α → Bool} (zs : List α) : allD [.lst (zs.map fun z => D.bl (p z))] st = .ok (.bl (zs.all p)) st := by
  simp only [allD, lst_lst, bls_map]
  simp
theorem flt_ints : ∀ zs : List Int, fltVs (zs.map D.int) = some (zs.map V.int)
  | [] => rfl
  | z :: zs => by simp [fltVs, fltV, flt_ints zs]
theorem inV_ints {j : Int} : ∀ zs : List Int, inV (.int j) (zs.map V.int) = decide (j ∈ zs)
  | [] => by simp [inV]
  | z :: zs => by
    have ih := inV_ints (j := j) zs
    unfold inV at ih ⊢
    simp only [List.map_cons, List.any_cons, ih, List.mem_cons, Bool.decide_or]
    congr 1
    simp only [eqV]
    by_cases q : z = j
    · subst q; simp
    · simp [q, Ne.symm q]
theorem in_ints {neg : Bool} {j : Int} {zs : List Int} (h : seqOf d st = some (zs.map D.int)) : inD neg (.int j) d st = .ok (.bl (if neg then !decide (j ∈ zs) else decide (j ∈ zs))) st := by
  unfold inD
  rw [h]
  simp only [fltV, flt_ints, inV_ints]
end
end DS

namespace DS
open PySem L2
section
variable {env : DEnv} {st s : Store} {d : D} {f : DEnv → M (List D)} {F G : FS} {cs : Nat → Option Bool}
@[simp] theorem e_V4 {x y z w : Option D} {l : DEnv} : xVar 4 (x :: y :: z :: w :: some d :: l) st = .ok d st := rfl
/-! ### try -/
def tryR (cs : Nat → Option Bool) (G : FS) (o : Out) : Out := match o with
  | .exn k fs env1 st1 => match cs k with
    | some true => (match G env1 st1 with
      | .exn _ _ _ _ => .bad
      | o => o)
    | some false => .exn k fs env1 st1
    | none => .bad
  | o => o
@[simp] theorem x_Try : sTry cs F G env st = tryR cs G (F env st) := rfl
@[simp] theorem tryR_nx : tryR cs G (.nx env s) = .nx env s := rfl
@[simp] theorem tryR_ret : tryR cs G (.ret d s) = .ret d s := rfl
@[simp] theorem tryR_bk : tryR cs G (.bk env s) = .bk env s := rfl
@[simp] theorem tryR_ct : tryR cs G (.ct env s) = .ct env s := rfl
theorem tryR_hit {k : Nat} {fs : List D} (h : cs k = some true) : tryR cs G (.exn k fs env s) = (match G env s with
      | .exn _ _ _ _ => .bad
      | o => o) := by
  unfold tryR
  dsimp only
  rw [h]
theorem tryR_miss {k : Nat} {fs : List D} (h : cs k = some false) : tryR cs G (.exn k fs env s) = .exn k fs env s := by
  unfold tryR
  dsimp only
  rw [h]
/-! ### range downward -/
def rg3 (ds : List D) (s1 : Store) : Res (List D × Kp) := match ds with
  | [.int i, .int j, .int c] => if c = -1 ∧ -(2 ^ 62) ≤ i ∧ i < 2 ^ 62 ∧ -(2 ^ 62) ≤ j ∧ j < 2 ^ 62 then .ok (rangeC i (-1) (i - j).toNat, []) s1 else .bad
  | _ => .bad
theorem rg3_int {i j : Int} (h1 : -(2 ^ 62) ≤ i) (h2 : i < 2 ^ 62) (h3 : -(2 ^ 62) ≤ j) (h4 : j < 2 ^ 62) : rg3 [.int i, .int j, .int (-1)] s = .ok (rangeC i (-1) (i - j).toNat, []) s := by
  show (if _ then _ else _) = _
  rw [if_pos ⟨rfl, h1, h2, h3, h4⟩]
theorem f_Range3 : fRange3 f env st = (f env st).bind rg3 := rfl
/-- a range by its bounds -/
theorem range1_ok {j : Int} (h : f env st = .ok [.int j] s) (h1 : -(2 ^ 62) ≤ j) (h2 : j < 2 ^ 62) : fRange1 f env st = .ok (rangeL 0 j.toNat, []) s := by
  have e : rg1 [.int j] s = .ok (rangeL 0 j.toNat, []) s := by rw [rg1_int, if_pos ⟨h1, h2⟩]
  rw [f_Range1]
  show (Res.bind _ rg1) = _
  rw [h, bind_ok, e]
theorem range2_ok {i j : Int} (h : f env st = .ok [.int i, .int j] s) (h1 : -(2 ^ 62) ≤ i) (h2 : i < 2 ^ 62) (h3 : -(2 ^ 62) ≤ j) (h4 : j < 2 ^ 62) : fRange2 f env st = .ok (rangeL i (j - i).toNat, []) s := by
  have e : rg2 [.int i, .int j] s = .ok (rangeL i (j - i).toNat, []) s := by rw [rg2_int, if_pos ⟨h1, h2, h3, h4⟩]
  rw [f_Range2]
  show (Res.bind _ rg2) = _
  rw [h, bind_ok, e]
theorem range3_ok {i j : Int} (h : f env st = .ok [.int i, .int j, .int (-1)] s) (h1 : -(2 ^ 62) ≤ i) (h2 : i < 2 ^ 62) (h3 : -(2 ^ 62) ≤ j) (h4 : j < 2 ^ 62) : fRange3 f env st = .ok (rangeC i (-1) (i - j).toNat, []) s := by
  rw [f_Range3]
  show (Res.bind _ rg3) = _
  rw [h, bind_ok, rg3_int h1 h2 h3 h4]
@[simp] theorem isN_non : isND2 .non .non st = .ok (.bl true) st := rfl
@[simp] theorem notN_non : notND2 .non .non st = .ok (.bl false) st := rfl
end
end DS


namespace K48
open PySem L2 PySem.Spec PyProof.Rows DS
def top (i : Nat) : Stmt := PySem.Challenge.pw_onwardlines_k48_histories_of_nets.main.body.getD i (.Pass ⟨0, 0, 0, 0⟩)
def fldT : Nat → List Str
  | 1 => ["all_lines", "all_wishes", "all_fixed"]
  | 2 => ["states", "marks"]
  | _ => []
def cl_NothingToUndo : List (Nat × Bool) := [(23, false), (24, false), (21, false), (22, false), (25, true)]
def cs_NothingToUndo (k : Nat) : Option Bool := cl_NothingToUndo.lookup k
structure Txt (Γ : Sig) (mg : Str → Option Value) : Prop where
  fl : Γ.fld = fldT
  b_abs : mg "abs" = none
  b_all : mg "all" = none
  b_bool : mg "bool" = none
  b_int : mg "int" = none
  b_isinstance : mg "isinstance" = none
  b_len : mg "len" = none
  b_list : mg "list" = none
  b_min : mg "min" = none
  b_range : mg "range" = none
  b_repr : mg "repr" = none
  c_MOST_LINES : ∃ t, mg "MOST_LINES" = some (.int 40 t)
  c_MOST_WISHES : ∃ t, mg "MOST_WISHES" = some (.int 80 t)
  f_all_fixed : FldOk Γ [1] 2 "all_fixed"
  f_all_lines : FldOk Γ [1] 0 "all_lines"
  f_all_wishes : FldOk Γ [1] 1 "all_wishes"
  f_marks : FldOk Γ [2] 1 "marks"
  f_states : FldOk Γ [2] 0 "states"
  e_InvalidFixed : ExcK Γ.K mg "InvalidFixed" (Γ.cls 23)
  e_InvalidIndex : ExcK Γ.K mg "InvalidIndex" (Γ.cls 24)
  e_InvalidLine : ExcK Γ.K mg "InvalidLine" (Γ.cls 21)
  e_InvalidWishes : ExcK Γ.K mg "InvalidWishes" (Γ.cls 22)
  e_NothingToUndo : ExcK Γ.K mg "NothingToUndo" (Γ.cls 25)
  h_NothingToUndo : CatchOk Γ (.ref (Γ.cls 25)) cs_NothingToUndo
/-! Net.__init__ -/
abbrev s_Net__init_ : Stmt := inClass (top 13) 0
abbrev N_Net__init_ : List Str := ["self"]
def F_Net__init_ : FS := (sSeq (sFldSet [2] 0 (xVar 0) (xLst true aNil))
 (sFldSet [2] 1 (xVar 0) (xLst true aNil)))
theorem sc_Net__init_ : FnScope N_Net__init_ ["self"] (defScope s_Net__init_) := ⟨rfl, rfl, rfl, by decide +kernel, rfl, by decide +kernel, by decide +kernel⟩
def raw_Net__init_ : List D → M D := fnD 1 N_Net__init_ F_Net__init_
theorem b_Net__init_ {P : Program} {w : World} {Γ : Sig} {mg : Str → Option Value} {base : Heap} {fa : Addr} {fd : FuncData} (Fn : Fun Γ.K "__init__" "Net.__init__" s_Net__init_ fa fd) (T : Txt Γ mg) :
    FnD P w Γ mg base 1 fa fd ["self"] raw_Net__init_ := fnD_of Fn sc_Net__init_ fun cdv A outer s H E hr hgd =>
  have sc := sc_Net__init_
  (db_cons (s_fld rfl T.f_states (d_var 0) (d_lst true da_nil))
 (db_one (s_fld rfl T.f_marks (d_var 0) (d_lst true da_nil))))
abbrev den_Net__init_ := raw_Net__init_
abbrev den_Net := rawMk 2 den_Net__init_
/-! Net.twin -/
abbrev s_Net_twin : Stmt := inClass (top 13) 15
abbrev N_Net_twin : List Str := ["self", "other"]
def F_Net_twin : FS := (sSeq (sAsg (gNm 1) (xCall den_Net aNil))
 (sSeq (sFldSet [2] 0 (xVar 1) (xCB (listD true) (aCons (xFld [2] 0 (xVar 0)) aNil)))
 (sSeq (sFldSet [2] 1 (xVar 1) (xCB (listD true) (aCons (xFld [2] 1 (xVar 0)) aNil)))
 (sRet (xVar 1)))))
theorem sc_Net_twin : FnScope N_Net_twin ["self"] (defScope s_Net_twin) := ⟨rfl, rfl, rfl, by decide +kernel, rfl, by decide +kernel, by decide +kernel⟩
def raw_Net_twin : List D → M D := fnD 1 N_Net_twin F_Net_twin
theorem b_Net_twin {P : Program} {w : World} {Γ : Sig} {mg : Str → Option Value} {base : Heap} {fa : Addr} {fd : FuncData} (Fn : Fun Γ.K "twin" "Net.twin" s_Net_twin fa fd) (T : Txt Γ mg)
    (h_Net : CD P w Γ mg base 1 "Net" den_Net) :
    FnD P w Γ mg base 3 fa fd ["self"] raw_Net_twin := fnD_of Fn sc_Net_twin fun cdv A outer s H E hr hgd =>
  have sc := sc_Net_twin
  (db_cons (s_set (i := 1) sc.nd rfl (Or.inl rfl) (d_make0 rfl (h_Net.mono (by decide)) hr hgd (takes_of rfl rfl rfl rfl) (by rfl)))
 (db_cons (s_fld rfl T.f_states (d_var 1) (d_callTy call_list_of (g_list true) (by rfl) T.b_list (by decide +kernel) (da_cons (d_fld rfl T.f_states (d_var 0)) da_nil)))
 (db_cons (s_fld rfl T.f_marks (d_var 1) (d_callTy call_list_of (g_list true) (by rfl) T.b_list (by decide +kernel) (da_cons (d_fld rfl T.f_marks (d_var 0)) da_nil)))
 (db_one (s_ret (d_var 1))))))
abbrev den_Net_twin := raw_Net_twin
/-! _law_blank -/
abbrev s__law_blank : Stmt := top 17
abbrev N__law_blank : List Str := []
def F__law_blank : FS := (sRet (xLst true (aCons (xLst false (aCons (xTup (aCons (xLst false aNil) (aCons (xLst false aNil) (aCons (xLst false aNil) aNil)))) aNil)) (aCons (xLst false aNil) aNil))))
theorem sc__law_blank : FnScope N__law_blank [] (defScope s__law_blank) := ⟨rfl, rfl, rfl, by decide +kernel, rfl, by decide +kernel, by decide +kernel⟩
def raw__law_blank : List D → M D := fnD 0 N__law_blank F__law_blank
theorem b__law_blank {P : Program} {w : World} {Γ : Sig} {mg : Str → Option Value} {base : Heap} {fa : Addr} {fd : FuncData} (Fn : Fun Γ.K "_law_blank" "_law_blank" s__law_blank fa fd) (T : Txt Γ mg) :
    FnD P w Γ mg base 1 fa fd [] raw__law_blank := fnD_of Fn sc__law_blank fun cdv A outer s H E hr hgd =>
  have sc := sc__law_blank
  (db_one (s_ret (d_lst true (da_cons (d_lst false (da_cons (d_tup (da_cons (d_lst false da_nil) (da_cons (d_lst false da_nil) (da_cons (d_lst false da_nil) da_nil)))) da_nil)) (da_cons (d_lst false da_nil) da_nil)))))
abbrev den__law_blank := raw__law_blank
/-! State.__init__ -/
abbrev s_State__init_ : Stmt := inClass (top 12) 0
abbrev N_State__init_ : List Str := ["self", "lines", "wishes", "fixed"]
def F_State__init_ : FS := (sSeq (sFldSet [1] 0 (xVar 0) (xVar 1))
 (sSeq (sFldSet [1] 1 (xVar 0) (xVar 2))
 (sFldSet [1] 2 (xVar 0) (xVar 3))))
theorem sc_State__init_ : FnScope N_State__init_ ["self", "lines", "wishes", "fixed"] (defScope s_State__init_) := ⟨rfl, rfl, rfl, by decide +kernel, rfl, by decide +kernel, by decide +kernel⟩
def raw_State__init_ : List D → M D := fnD 4 N_State__init_ F_State__init_
theorem b_State__init_ {P : Program} {w : World} {Γ : Sig} {mg : Str → Option Value} {base : Heap} {fa : Addr} {fd : FuncData} (Fn : Fun Γ.K "__init__" "State.__init__" s_State__init_ fa fd) (T : Txt Γ mg) :
    FnD P w Γ mg base 1 fa fd ["self", "lines", "wishes", "fixed"] raw_State__init_ := fnD_of Fn sc_State__init_ fun cdv A outer s H E hr hgd =>
  have sc := sc_State__init_
  (db_cons (s_fld rfl T.f_all_lines (d_var 0) (d_var 1))
 (db_cons (s_fld rfl T.f_all_wishes (d_var 0) (d_var 2))
 (db_one (s_fld rfl T.f_all_fixed (d_var 0) (d_var 3)))))
theorem bh_State__init_ {P : Program} {w : World} {Γ : Sig} {mg : Str → Option Value} {base : Heap} {fa : Addr} {fd : FuncData} (Fn : Fun Γ.K "__init__" "State.__init__" s_State__init_ fa fd) (T : Txt Γ mg) :
    FnDH P w Γ mg base 1 fa fd ["self", "lines", "wishes", "fixed"] raw_State__init_ := fnDH_of Fn sc_State__init_ fun cdv A outer s H p hrH hgd =>
  have sc := sc_State__init_
  have hpx : PinX (L2H.cxH (L2.CX P w) P w Γ.K mg base N_State__init_ "State.__init__" (defScope s_State__init_) fa cdv A outer s H EN p) := ⟨p, List.mem_cons_self⟩
  (db_cons (s_fld rfl T.f_all_lines (d_var 0) (d_var 1))
 (db_cons (s_fld rfl T.f_all_wishes (d_var 0) (d_var 2))
 (db_one (s_fld rfl T.f_all_fixed (d_var 0) (d_var 3)))))
abbrev den_State__init_ := raw_State__init_
def den_State : List D → M D := fun ds st => match ds with
  | [a, b, c] => .ok (.ins 1 [a, b, c]) st
  | _ => .bad
theorem ref_State {Γ : Sig} (hf : Γ.fld = fldT) (ds : List D) (st : Store) : Ref Γ ds st (rawMk 1 den_State__init_ ds st) (den_State ds st) := by
  unfold den_State
  split
  · rename_i a b c
    have e0 : den_State__init_ [.cell st.length, a, b, c] (st ++ [.obj 1 []]) = .ok .non (st ++ [.obj 1 [a, b, c]]) :=
      fnD_nx (N := N_State__init_) (F := F_State__init_) (env := [some (.cell st.length), some a, some b, some c]) (by unfold F_State__init_ startE; simp) rfl
    have e : rawMk 1 den_State__init_ [a, b, c] st = .ok (.cell (st.length + 0)) (st ++ [.obj 1 [a, b, c]]) := by
      unfold rawMk
      rw [e0]
      rfl
    rw [e]
    exact .obj 0 1 [a, b, c] st [.obj 1 [a, b, c]] rfl rfl (by rw [hf]; rfl) (fun d h => .inl h) (fun i o h => .inl h)
  · exact .bad _
/-! Net.present -/
abbrev s_Net_present : Stmt := inClass (top 13) 1
abbrev N_Net_present : List Str := ["self"]
def F_Net_present : FS := (sRet (xIf (bTest (xOp neD (xFld [2] 0 (xVar 0)) (xLst false aNil))) (xOp ixD (xFld [2] 0 (xVar 0)) (xUn negD (xC (.int 1)))) (xCall den_State (aCons (xLst false aNil) (aCons (xLst false aNil) (aCons (xLst false aNil) aNil))))))
theorem sc_Net_present : FnScope N_Net_present ["self"] (defScope s_Net_present) := ⟨rfl, rfl, rfl, by decide +kernel, rfl, by decide +kernel, by decide +kernel⟩
def raw_Net_present : List D → M D := fnD 1 N_Net_present F_Net_present
theorem b_Net_present {P : Program} {w : World} {Γ : Sig} {mg : Str → Option Value} {base : Heap} {fa : Addr} {fd : FuncData} (Fn : Fun Γ.K "present" "Net.present" s_Net_present fa fd) (T : Txt Γ mg)
    (h_State : CD P w Γ mg base 1 "State" den_State) :
    FnD P w Γ mg base 3 fa fd ["self"] raw_Net_present := fnD_of Fn sc_Net_present fun cdv A outer s H E hr hgd =>
  have sc := sc_Net_present
  (db_one (s_ret (d_ifExp (b_cmp (o_ne (hu64 hr)) g_ne (d_fld rfl T.f_states (d_var 0)) (d_lst false da_nil)) (d_ix rfl (d_fld rfl T.f_states (d_var 0)) (d_un un_neg g_neg d_int)) (d_make rfl (h_State.mono (by decide)) hr hgd (takes_of rfl rfl rfl rfl) (by rfl) (da_cons (d_lst false da_nil) (da_cons (d_lst false da_nil) (da_cons (d_lst false da_nil) da_nil)))))))
theorem bh_Net_present {P : Program} {w : World} {Γ : Sig} {mg : Str → Option Value} {base : Heap} {fa : Addr} {fd : FuncData} (Fn : Fun Γ.K "present" "Net.present" s_Net_present fa fd) (T : Txt Γ mg)
    (hh_State : CDH P w Γ mg base 1 "State" den_State) :
    FnDH P w Γ mg base 3 fa fd ["self"] raw_Net_present := fnDH_of Fn sc_Net_present fun cdv A outer s H p hrH hgd =>
  have sc := sc_Net_present
  have hpx : PinX (L2H.cxH (L2.CX P w) P w Γ.K mg base N_Net_present "Net.present" (defScope s_Net_present) fa cdv A outer s H EN p) := ⟨p, List.mem_cons_self⟩
  (db_one (s_ret (d_ifExp (b_cmp (o_ne (hu64H hrH)) g_ne (d_fld rfl T.f_states (d_var 0)) (d_lst false da_nil)) (d_ix rfl (d_fld rfl T.f_states (d_var 0)) (d_un un_neg g_neg d_int)) (d_makeH rfl (hh_State.mono (by decide)) hrH hgd hpx (by rfl) (da_cons (d_lst false da_nil) (da_cons (d_lst false da_nil) (da_cons (d_lst false da_nil) da_nil)))))))
abbrev den_Net_present := raw_Net_present
/-! is_number_from -/
abbrev s_is_number_from : Stmt := top 11
abbrev N_is_number_from : List Str := ["thing", "least"]
def F_is_number_from : FS := (sRet (xAnd (xIsi isaInt (xVar 0)) (xAnd (xNot (xIsi isaBl (xVar 0))) (xOp geD (xVar 0) (xVar 1)))))
theorem sc_is_number_from : FnScope N_is_number_from ["thing", "least"] (defScope s_is_number_from) := ⟨rfl, rfl, rfl, by decide +kernel, rfl, by decide +kernel, by decide +kernel⟩
def raw_is_number_from : List D → M D := fnD 2 N_is_number_from F_is_number_from
theorem b_is_number_from {P : Program} {w : World} {Γ : Sig} {mg : Str → Option Value} {base : Heap} {fa : Addr} {fd : FuncData} (Fn : Fun Γ.K "is_number_from" "is_number_from" s_is_number_from fa fd) (T : Txt Γ mg) :
    FnD P w Γ mg base 1 fa fd ["thing", "least"] raw_is_number_from := fnD_of Fn sc_is_number_from fun cdv A outer s H E hr hgd =>
  have sc := sc_is_number_from
  (db_one (s_ret (d_and (d_isi rfl (by rfl) T.b_isinstance (d_var 0) (pe_bltn (v := .ty "int") (by rfl) T.b_int (by decide +kernel) rfl) (.ty _) isaInt_ok) (d_and (d_not (d_isi rfl (by rfl) T.b_isinstance (d_var 0) (pe_bltn (v := .ty "bool") (by rfl) T.b_bool (by decide +kernel) rfl) (.ty _) isaBl_ok)) (d_one (d_cmp op_ge (g_cmpI _) (d_var 0) (d_var 1)))))))
abbrev den_is_number_from := raw_is_number_from
/-! Net.add -/
abbrev s_Net_add : Stmt := inClass (top 13) 3
abbrev N_Net_add : List Str := ["self", "every", "ride", "now", "headway", "other_ride"]
def F_Net_add : FS := (sSeq (sIf (bOr (bNot (bTest (xCall den_is_number_from (aCons (xVar 1) (aCons (xC (.int 1)) aNil))))) (bNot (bTest (xCall den_is_number_from (aCons (xVar 2) (aCons (xC (.int 0)) aNil))))))
 (sRaise 21)
 sNil)
 (sSeq (sAsg (gNm 3) (xMeth [(2, den_Net_present)] (xVar 0) aNil))
 (sSeq (sIf (bTest (xOp eqD (xCB lenD (aCons (xFld [1] 0 (xVar 3)) aNil)) (xC (.int 40))))
 (sRaise 22)
 sNil)
 (sSeq (sIf (bNot (bTest (xCB allD (aCons (xLc false (fList (xFld [1] 0 (xVar 3))) (gTp [4, 5]) [4, 5] bYes (xOr (xOp eqD (xOp modD (xVar 1) (xVar 4)) (xC (.int 0))) (xOp eqD (xOp modD (xVar 4) (xVar 1)) (xC (.int 0))))) aNil))))
 (sRaise 22)
 sNil)
 (sSeq (sDrop (xBMt isLst appendD (xFld [2] 0 (xVar 0)) (aCons (xCall den_State (aCons (xLst false (aStar (xFld [1] 0 (xVar 3)) (aCons (xTup (aCons (xVar 1) (aCons (xVar 2) aNil))) aNil))) (aCons (xFld [1] 1 (xVar 3)) (aCons (xFld [1] 2 (xVar 3)) aNil)))) aNil)))
 (sRet (xCB lenD (aCons (xFld [1] 0 (xVar 3)) aNil))))))))
theorem sc_Net_add : FnScope N_Net_add ["self", "every", "ride"] (defScope s_Net_add) := ⟨rfl, rfl, rfl, by decide +kernel, rfl, by decide +kernel, by decide +kernel⟩
def raw_Net_add : List D → M D := fnD 3 N_Net_add F_Net_add
theorem b_Net_add {P : Program} {w : World} {Γ : Sig} {mg : Str → Option Value} {base : Heap} {fa : Addr} {fd : FuncData} (Fn : Fun Γ.K "add" "Net.add" s_Net_add fa fd) (T : Txt Γ mg)
    (h_Net_present : MD P w Γ mg base 3 2 "present" den_Net_present)
    (h_State : CD P w Γ mg base 1 "State" den_State)
    (h_is_number_from : FD P w Γ mg base 1 "is_number_from" den_is_number_from) :
    FnD P w Γ mg base 4 fa fd ["self", "every", "ride"] raw_Net_add := fnD_of Fn sc_Net_add fun cdv A outer s H E hr hgd =>
  have sc := sc_Net_add
  (db_cons (s_if (DW.dt (w_or (b_not (b_val (d_call rfl (h_is_number_from.mono (by decide)) hr hgd (takes_of rfl rfl rfl rfl) (by rfl) (da_cons (d_var 1) (da_cons d_int da_nil))))) (w_or1 (b_not (b_val (d_call rfl (h_is_number_from.mono (by decide)) hr hgd (takes_of rfl rfl rfl rfl) (by rfl) (da_cons (d_var 2) (da_cons d_int da_nil))))))))
 (db_one (s_raise (c := 21) rfl (takes_of rfl rfl rfl rfl) (ExcK.ok T.e_InvalidLine) (by rfl)))
 db_nil)
 (db_cons (s_set (i := 3) sc.nd rfl (Or.inl rfl) (d_meth0 rfl (mok1 (h_Net_present.mono (by decide))) hr hgd (takes_of rfl rfl rfl rfl) (d_var 0)))
 (db_cons (s_if (b_cmp (o_eq (hu64 hr)) g_eq (d_callB call_len g_len (by rfl) T.b_len (by decide +kernel) (da_cons (d_fld rfl T.f_all_lines (d_var 3)) da_nil)) (d_globI (by rfl) T.c_MOST_LINES))
 (db_one (s_raise (c := 22) rfl (takes_of rfl rfl rfl rfl) (ExcK.ok T.e_InvalidWishes) (by rfl)))
 db_nil)
 (db_cons (s_if (b_not (b_val (d_callB (cr_all rfl) g_all (by rfl) T.b_all (by decide +kernel) (da_cons (d_lc (own := [("headway", 4), ("other_ride", 5)]) false rfl sc.nd (di_list rfl (d_fld rfl T.f_all_lines (d_var 3))) (blkOk_by (by kernel_rfl)) ⟨(go_tup (is := [4, 5]) (gos_cons 4 (gos_cons 5 gos_nil)) rfl rfl), fun _ _ _ _ _ => (gd_tup (is := [4, 5]) (pg_tup rfl (pgs_cons (pg_name (i := 4) sc.nd rfl (Or.inl rfl)) (pgs_cons (pg_name (i := 5) sc.nd rfl (Or.inl rfl)) pgs_nil))) (gos_cons 4 (gos_cons 5 gos_nil)) rfl rfl), fun _ _ _ _ _ => ts_nil, fun _ _ _ _ _ => (d_or (d_cmp (o_eq (hu64 hr)) g_eq (d_op op_mod g_mod (d_var 1) (d_var 4)) d_int) (d_one (d_cmp (o_eq (hu64 hr)) g_eq (d_op op_mod g_mod (d_var 4) (d_var 1)) d_int)))⟩ (by decide)) da_nil))))
 (db_one (s_raise (c := 22) rfl (takes_of rfl rfl rfl rfl) (ExcK.ok T.e_InvalidWishes) (by rfl)))
 db_nil)
 (db_cons (s_expr (d_bm rfl (fun w st H d x => ty_lst) PySem.F.plainAttrs_list PySem.F.slot_list_append PySem.F.type_list_append mt_append m_append (d_fld rfl T.f_states (d_var 0)) (da_cons (d_make rfl (h_State.mono (by decide)) hr hgd (takes_of rfl rfl rfl rfl) (by rfl) (da_cons (d_lst false (da_star rfl (d_fld rfl T.f_all_lines (d_var 3)) (da_cons (d_tup (da_cons (d_var 1) (da_cons (d_var 2) da_nil))) da_nil))) (da_cons (d_fld rfl T.f_all_wishes (d_var 3)) (da_cons (d_fld rfl T.f_all_fixed (d_var 3)) da_nil)))) da_nil)))
 (db_one (s_ret (d_callB call_len g_len (by rfl) T.b_len (by decide +kernel) (da_cons (d_fld rfl T.f_all_lines (d_var 3)) da_nil)))))))))
abbrev den_Net_add := raw_Net_add
/-! Net.drop -/
abbrev s_Net_drop : Stmt := inClass (top 13) 6
abbrev N_Net_drop : List Str := ["self", "index", "now", "rest"]
def F_Net_drop : FS := (sSeq (sAsg (gNm 2) (xMeth [(2, den_Net_present)] (xVar 0) aNil))
 (sSeq (sIf (bNot (bTest (xChain leD ltD (xC (.int 0)) (xVar 1) (xCB lenD (aCons (xFld [1] 1 (xVar 2)) aNil)))))
 (sRaise 24)
 sNil)
 (sSeq (sAsg (gNm 3) (xLst false (aStar (xSl false (xFld [1] 1 (xVar 2)) oNo (oSo (xVar 1))) (aStar (xSl false (xFld [1] 1 (xVar 2)) (oSo (xOp (addD false) (xVar 1) (xC (.int 1)))) oNo) aNil))))
 (sDrop (xBMt isLst appendD (xFld [2] 0 (xVar 0)) (aCons (xCall den_State (aCons (xFld [1] 0 (xVar 2)) (aCons (xVar 3) (aCons (xFld [1] 2 (xVar 2)) aNil)))) aNil))))))
theorem sc_Net_drop : FnScope N_Net_drop ["self", "index"] (defScope s_Net_drop) := ⟨rfl, rfl, rfl, by decide +kernel, rfl, by decide +kernel, by decide +kernel⟩
def raw_Net_drop : List D → M D := fnD 2 N_Net_drop F_Net_drop
theorem b_Net_drop {P : Program} {w : World} {Γ : Sig} {mg : Str → Option Value} {base : Heap} {fa : Addr} {fd : FuncData} (Fn : Fun Γ.K "drop" "Net.drop" s_Net_drop fa fd) (T : Txt Γ mg)
    (h_Net_present : MD P w Γ mg base 3 2 "present" den_Net_present)
    (h_State : CD P w Γ mg base 1 "State" den_State) :
    FnD P w Γ mg base 4 fa fd ["self", "index"] raw_Net_drop := fnD_of Fn sc_Net_drop fun cdv A outer s H E hr hgd =>
  have sc := sc_Net_drop
  (db_cons (s_set (i := 2) sc.nd rfl (Or.inl rfl) (d_meth0 rfl (mok1 (h_Net_present.mono (by decide))) hr hgd (takes_of rfl rfl rfl rfl) (d_var 0)))
 (db_cons (s_if (b_not (b_chain op_le op_lt (g_cmpI _) (g_cmpI _) d_int (d_var 1) (d_callB call_len g_len (by rfl) T.b_len (by decide +kernel) (da_cons (d_fld rfl T.f_all_wishes (d_var 2)) da_nil))))
 (db_one (s_raise (c := 24) rfl (takes_of rfl rfl rfl rfl) (ExcK.ok T.e_InvalidIndex) (by rfl)))
 db_nil)
 (db_cons (s_set (i := 3) sc.nd rfl (Or.inl rfl) (d_lst false (da_star rfl (d_sl false rfl (d_fld rfl T.f_all_wishes (d_var 2)) o_none (o_some (d_var 1))) (da_star rfl (d_sl false rfl (d_fld rfl T.f_all_wishes (d_var 2)) (o_some (d_op o_add (g_add false) (d_var 1) d_int)) o_none) da_nil))))
 (db_one (s_expr (d_bm rfl (fun w st H d x => ty_lst) PySem.F.plainAttrs_list PySem.F.slot_list_append PySem.F.type_list_append mt_append m_append (d_fld rfl T.f_states (d_var 0)) (da_cons (d_make rfl (h_State.mono (by decide)) hr hgd (takes_of rfl rfl rfl rfl) (by rfl) (da_cons (d_fld rfl T.f_all_lines (d_var 2)) (da_cons (d_var 3) (da_cons (d_fld rfl T.f_all_fixed (d_var 2)) da_nil)))) da_nil)))))))
abbrev den_Net_drop := raw_Net_drop
/-! Net.need_line -/
abbrev s_Net_need_line : Stmt := inClass (top 13) 2
abbrev N_Net_need_line : List Str := ["self", "index"]
def F_Net_need_line : FS := (sIf (bNot (bTest (xChain leD ltD (xC (.int 0)) (xVar 1) (xCB lenD (aCons (xFld [1] 0 (xMeth [(2, den_Net_present)] (xVar 0) aNil)) aNil)))))
 (sRaise 24)
 sNil)
theorem sc_Net_need_line : FnScope N_Net_need_line ["self", "index"] (defScope s_Net_need_line) := ⟨rfl, rfl, rfl, by decide +kernel, rfl, by decide +kernel, by decide +kernel⟩
def raw_Net_need_line : List D → M D := fnD 2 N_Net_need_line F_Net_need_line
theorem b_Net_need_line {P : Program} {w : World} {Γ : Sig} {mg : Str → Option Value} {base : Heap} {fa : Addr} {fd : FuncData} (Fn : Fun Γ.K "need_line" "Net.need_line" s_Net_need_line fa fd) (T : Txt Γ mg)
    (h_Net_present : MD P w Γ mg base 3 2 "present" den_Net_present) :
    FnD P w Γ mg base 4 fa fd ["self", "index"] raw_Net_need_line := fnD_of Fn sc_Net_need_line fun cdv A outer s H E hr hgd =>
  have sc := sc_Net_need_line
  (db_one (s_if (b_not (b_chain op_le op_lt (g_cmpI _) (g_cmpI _) d_int (d_var 1) (d_callB call_len g_len (by rfl) T.b_len (by decide +kernel) (da_cons (d_fld rfl T.f_all_lines (d_meth0 rfl (mok1 (h_Net_present.mono (by decide))) hr hgd (takes_of rfl rfl rfl rfl) (d_var 0))) da_nil))))
 (db_one (s_raise (c := 24) rfl (takes_of rfl rfl rfl rfl) (ExcK.ok T.e_InvalidIndex) (by rfl)))
 db_nil))
abbrev den_Net_need_line := raw_Net_need_line
/-! Net.fix -/
abbrev s_Net_fix : Stmt := inClass (top 13) 5
abbrev N_Net_fix : List Str := ["self", "i", "at", "now", "number", "departure"]
def F_Net_fix : FS := (sSeq (sDrop (xMeth [(2, den_Net_need_line)] (xVar 0) (aCons (xVar 1) aNil)))
 (sSeq (sAsg (gNm 3) (xMeth [(2, den_Net_present)] (xVar 0) aNil))
 (sSeq (sIf (bOr (bNot (bTest (xCall den_is_number_from (aCons (xVar 2) (aCons (xC (.int 0)) aNil))))) (bTest (xOp geD (xVar 2) (xOp ixD (xOp ixD (xFld [1] 0 (xVar 3)) (xVar 1)) (xC (.int 0))))))
 (sRaise 23)
 sNil)
 (sSeq (sIf (bTest (xOp (inD false) (xVar 1) (xLc false (fList (xFld [1] 2 (xVar 3))) (gTp [4, 5]) [4, 5] bYes (xVar 4))))
 (sRaise 23)
 sNil)
 (sDrop (xBMt isLst appendD (xFld [2] 0 (xVar 0)) (aCons (xCall den_State (aCons (xFld [1] 0 (xVar 3)) (aCons (xFld [1] 1 (xVar 3)) (aCons (xLst false (aStar (xFld [1] 2 (xVar 3)) (aCons (xTup (aCons (xVar 1) (aCons (xVar 2) aNil))) aNil))) aNil)))) aNil)))))))
theorem sc_Net_fix : FnScope N_Net_fix ["self", "i", "at"] (defScope s_Net_fix) := ⟨rfl, rfl, rfl, by decide +kernel, rfl, by decide +kernel, by decide +kernel⟩
def raw_Net_fix : List D → M D := fnD 3 N_Net_fix F_Net_fix
theorem b_Net_fix {P : Program} {w : World} {Γ : Sig} {mg : Str → Option Value} {base : Heap} {fa : Addr} {fd : FuncData} (Fn : Fun Γ.K "fix" "Net.fix" s_Net_fix fa fd) (T : Txt Γ mg)
    (h_Net_need_line : MD P w Γ mg base 4 2 "need_line" den_Net_need_line)
    (h_Net_present : MD P w Γ mg base 3 2 "present" den_Net_present)
    (h_State : CD P w Γ mg base 1 "State" den_State)
    (h_is_number_from : FD P w Γ mg base 1 "is_number_from" den_is_number_from) :
    FnD P w Γ mg base 5 fa fd ["self", "i", "at"] raw_Net_fix := fnD_of Fn sc_Net_fix fun cdv A outer s H E hr hgd =>
  have sc := sc_Net_fix
  (db_cons (s_expr (d_meth rfl (mok1 (h_Net_need_line.mono (by decide))) hr hgd (takes_of rfl rfl rfl rfl) (d_var 0) (da_cons (d_var 1) da_nil)))
 (db_cons (s_set (i := 3) sc.nd rfl (Or.inl rfl) (d_meth0 rfl (mok1 (h_Net_present.mono (by decide))) hr hgd (takes_of rfl rfl rfl rfl) (d_var 0)))
 (db_cons (s_if (DW.dt (w_or (b_not (b_val (d_call rfl (h_is_number_from.mono (by decide)) hr hgd (takes_of rfl rfl rfl rfl) (by rfl) (da_cons (d_var 2) (da_cons d_int da_nil))))) (w_or1 (b_cmp op_ge (g_cmpI _) (d_var 2) (d_ix rfl (d_ix rfl (d_fld rfl T.f_all_lines (d_var 3)) (d_var 1)) d_int)))))
 (db_one (s_raise (c := 23) rfl (takes_of rfl rfl rfl rfl) (ExcK.ok T.e_InvalidFixed) (by rfl)))
 db_nil)
 (db_cons (s_if (b_cmp op_in_seq (g_in false) (d_var 1) (d_lc (own := [("number", 4), ("departure", 5)]) false rfl sc.nd (di_list rfl (d_fld rfl T.f_all_fixed (d_var 3))) (blkOk_by (by kernel_rfl)) ⟨(go_tup (is := [4, 5]) (gos_cons 4 (gos_cons 5 gos_nil)) rfl rfl), fun _ _ _ _ _ => (gd_tup (is := [4, 5]) (pg_tup rfl (pgs_cons (pg_name (i := 4) sc.nd rfl (Or.inl rfl)) (pgs_cons (pg_name (i := 5) sc.nd rfl (Or.inl rfl)) pgs_nil))) (gos_cons 4 (gos_cons 5 gos_nil)) rfl rfl), fun _ _ _ _ _ => ts_nil, fun _ _ _ _ _ => (d_var 4)⟩ (by decide)))
 (db_one (s_raise (c := 23) rfl (takes_of rfl rfl rfl rfl) (ExcK.ok T.e_InvalidFixed) (by rfl)))
 db_nil)
 (db_one (s_expr (d_bm rfl (fun w st H d x => ty_lst) PySem.F.plainAttrs_list PySem.F.slot_list_append PySem.F.type_list_append mt_append m_append (d_fld rfl T.f_states (d_var 0)) (da_cons (d_make rfl (h_State.mono (by decide)) hr hgd (takes_of rfl rfl rfl rfl) (by rfl) (da_cons (d_fld rfl T.f_all_lines (d_var 3)) (da_cons (d_fld rfl T.f_all_wishes (d_var 3)) (da_cons (d_lst false (da_star rfl (d_fld rfl T.f_all_fixed (d_var 3)) (da_cons (d_tup (da_cons (d_var 1) (da_cons (d_var 2) da_nil))) da_nil))) da_nil)))) da_nil))))))))
abbrev den_Net_fix := raw_Net_fix
/-! Net.wish -/
abbrev s_Net_wish : Stmt := inClass (top 13) 4
abbrev N_Net_wish : List Str := ["self", "i", "j", "walk", "now"]
def F_Net_wish : FS := (sSeq (sDrop (xMeth [(2, den_Net_need_line)] (xVar 0) (aCons (xVar 1) aNil)))
 (sSeq (sDrop (xMeth [(2, den_Net_need_line)] (xVar 0) (aCons (xVar 2) aNil)))
 (sSeq (sAsg (gNm 4) (xMeth [(2, den_Net_present)] (xVar 0) aNil))
 (sSeq (sIf (bOr (bTest (xOp ltD (xVar 3) (xC (.int 0)))) (bTest (xOp eqD (xCB lenD (aCons (xFld [1] 1 (xVar 4)) aNil)) (xC (.int 80)))))
 (sRaise 22)
 sNil)
 (sDrop (xBMt isLst appendD (xFld [2] 0 (xVar 0)) (aCons (xCall den_State (aCons (xFld [1] 0 (xVar 4)) (aCons (xLst false (aStar (xFld [1] 1 (xVar 4)) (aCons (xTup (aCons (xVar 1) (aCons (xVar 2) (aCons (xVar 3) aNil)))) aNil))) (aCons (xFld [1] 2 (xVar 4)) aNil)))) aNil)))))))
theorem sc_Net_wish : FnScope N_Net_wish ["self", "i", "j", "walk"] (defScope s_Net_wish) := ⟨rfl, rfl, rfl, by decide +kernel, rfl, by decide +kernel, by decide +kernel⟩
def raw_Net_wish : List D → M D := fnD 4 N_Net_wish F_Net_wish
theorem b_Net_wish {P : Program} {w : World} {Γ : Sig} {mg : Str → Option Value} {base : Heap} {fa : Addr} {fd : FuncData} (Fn : Fun Γ.K "wish" "Net.wish" s_Net_wish fa fd) (T : Txt Γ mg)
    (h_Net_need_line : MD P w Γ mg base 4 2 "need_line" den_Net_need_line)
    (h_Net_present : MD P w Γ mg base 3 2 "present" den_Net_present)
    (h_State : CD P w Γ mg base 1 "State" den_State) :
    FnD P w Γ mg base 5 fa fd ["self", "i", "j", "walk"] raw_Net_wish := fnD_of Fn sc_Net_wish fun cdv A outer s H E hr hgd =>
  have sc := sc_Net_wish
  (db_cons (s_expr (d_meth rfl (mok1 (h_Net_need_line.mono (by decide))) hr hgd (takes_of rfl rfl rfl rfl) (d_var 0) (da_cons (d_var 1) da_nil)))
 (db_cons (s_expr (d_meth rfl (mok1 (h_Net_need_line.mono (by decide))) hr hgd (takes_of rfl rfl rfl rfl) (d_var 0) (da_cons (d_var 2) da_nil)))
 (db_cons (s_set (i := 4) sc.nd rfl (Or.inl rfl) (d_meth0 rfl (mok1 (h_Net_present.mono (by decide))) hr hgd (takes_of rfl rfl rfl rfl) (d_var 0)))
 (db_cons (s_if (DW.dt (w_or (b_cmp op_lt (g_cmpI _) (d_var 3) d_int) (w_or1 (b_cmp (o_eq (hu64 hr)) g_eq (d_callB call_len g_len (by rfl) T.b_len (by decide +kernel) (da_cons (d_fld rfl T.f_all_wishes (d_var 4)) da_nil)) (d_globI (by rfl) T.c_MOST_WISHES)))))
 (db_one (s_raise (c := 22) rfl (takes_of rfl rfl rfl rfl) (ExcK.ok T.e_InvalidWishes) (by rfl)))
 db_nil)
 (db_one (s_expr (d_bm rfl (fun w st H d x => ty_lst) PySem.F.plainAttrs_list PySem.F.slot_list_append PySem.F.type_list_append mt_append m_append (d_fld rfl T.f_states (d_var 0)) (da_cons (d_make rfl (h_State.mono (by decide)) hr hgd (takes_of rfl rfl rfl rfl) (by rfl) (da_cons (d_fld rfl T.f_all_lines (d_var 4)) (da_cons (d_lst false (da_star rfl (d_fld rfl T.f_all_wishes (d_var 4)) (da_cons (d_tup (da_cons (d_var 1) (da_cons (d_var 2) (da_cons (d_var 3) da_nil)))) da_nil))) (da_cons (d_fld rfl T.f_all_fixed (d_var 4)) da_nil)))) da_nil))))))))
abbrev den_Net_wish := raw_Net_wish
/-! _law_sip -/
abbrev s__law_sip : Stmt := top 16
abbrev N__law_sip : List Str := ["tank", "many", "found", "mix"]
def F__law_sip : FS := (sSeq (sWhile 1000 (bAnd (bTest (xOp neD (xOp ixD (xVar 0) (xC (.int 0))) (xLst false aNil))) (bTest (xOp ltD (xOp ixD (xOp ixD (xVar 0) (xC (.int 0))) (xC (.int 0))) (xC (.int 2)))))
 (sDrop (xBMt isLst popAtD (xOp ixD (xVar 0) (xC (.int 0))) (aCons (xC (.int 0)) aNil))))
 (sSeq (sIf (bTest (xOp neD (xOp ixD (xVar 0) (xC (.int 0))) (xLst false aNil)))
 (sSeq (sAsg (gNm 2) (xOp modD (xOp ixD (xOp ixD (xVar 0) (xC (.int 0))) (xC (.int 0))) (xVar 1)))
 (sSeq (sSetI (xOp ixD (xVar 0) (xC (.int 0))) (xC (.int 0)) (xOp fdivD (xOp ixD (xOp ixD (xVar 0) (xC (.int 0))) (xC (.int 0))) (xVar 1)))
 (sRet (xVar 2))))
 sNil)
 (sSeq (sSetI (xVar 0) (xC (.int 2)) (xOp (addD false) (xOp ixD (xVar 0) (xC (.int 2))) (xC (.int 1))))
 (sSeq (sAsg (gNm 3) (xOp (addD false) (xOp (mulD false) (xOp ixD (xVar 0) (xC (.int 1))) (xOp ixD (xVar 0) (xC (.int 1)))) (xOp (mulD false) (xOp (mulD false) (xC (.int 30011)) (xOp ixD (xVar 0) (xC (.int 2)))) (xOp ixD (xVar 0) (xC (.int 2))))))
 (sSeq (sSetI (xVar 0) (xC (.int 1)) (xOp modD (xOp (addD false) (xVar 3) (xOp (mulD false) (xC (.int 17)) (xOp ixD (xVar 0) (xC (.int 2))))) (xC (.int 170141183460469231731687303715884105727))))
 (sSeq (sAsg (gNm 3) (xOp (addD false) (xOp (mulD false) (xOp ixD (xVar 0) (xC (.int 1))) (xOp ixD (xVar 0) (xC (.int 1)))) (xOp (mulD false) (xC (.int 50021)) (xOp ixD (xVar 0) (xC (.int 2))))))
 (sRet (xOp modD (xOp fdivD (xOp (addD false) (xOp (mulD false) (xOp ixD (xVar 0) (xC (.int 1))) (xOp powD (xC (.int 10)) (xC (.int 38)))) (xOp modD (xVar 3) (xC (.int 170141183460469231731687303715884105727)))) (xOp powD (xC (.int 2)) (xC (.int 35)))) (xVar 1)))))))))
theorem sc__law_sip : FnScope N__law_sip ["tank", "many"] (defScope s__law_sip) := ⟨rfl, rfl, rfl, by decide +kernel, rfl, by decide +kernel, by decide +kernel⟩
def raw__law_sip : List D → M D := fnD 2 N__law_sip F__law_sip
theorem b__law_sip {P : Program} {w : World} {Γ : Sig} {mg : Str → Option Value} {base : Heap} {fa : Addr} {fd : FuncData} (Fn : Fun Γ.K "_law_sip" "_law_sip" s__law_sip fa fd) (T : Txt Γ mg) :
    FnD P w Γ mg base 1 fa fd ["tank", "many"] raw__law_sip := fnD_of Fn sc__law_sip fun cdv A outer s H E hr hgd =>
  have sc := sc__law_sip
  (db_cons (s_while 1000 (passes_of rfl) (DW.dt (w_and (b_cmp (o_ne (hu64 hr)) g_ne (d_ix rfl (d_var 0) d_int) (d_lst false da_nil)) (w_and1 (b_cmp op_lt (g_cmpI _) (d_ix rfl (d_ix rfl (d_var 0) d_int) d_int) d_int))))
 (db_one (s_expr (d_bm rfl (fun w st H d x => ty_lst) PySem.F.plainAttrs_list PySem.F.slot_list_pop PySem.F.type_list_pop mt_popAt m_popAt (d_ix rfl (d_var 0) d_int) (da_cons d_int da_nil)))))
 (db_cons (s_if (b_cmp (o_ne (hu64 hr)) g_ne (d_ix rfl (d_var 0) d_int) (d_lst false da_nil))
 (db_cons (s_set (i := 2) sc.nd rfl (Or.inl rfl) (d_op op_mod g_mod (d_ix rfl (d_ix rfl (d_var 0) d_int) d_int) (d_var 1)))
 (db_cons (s_setI (d_op op_fdivW g_fdiv (d_ix rfl (d_ix rfl (d_var 0) d_int) d_int) (d_var 1)) (d_ix rfl (d_var 0) d_int) d_int (pg_sub (d_ix rfl (d_var 0) d_int).pe d_int.pe set_list))
 (db_one (s_ret (d_var 2)))))
 db_nil)
 (db_cons (s_setI (d_op o_add (g_add false) (d_ix rfl (d_var 0) d_int) d_int) (d_var 0) d_int (pg_sub (d_var 0).pe d_int.pe set_list))
 (db_cons (s_set (i := 3) sc.nd rfl (Or.inl rfl) (d_op o_add (g_add false) (d_op o_mul (g_mul false) (d_ix rfl (d_var 0) d_int) (d_ix rfl (d_var 0) d_int)) (d_op o_mul (g_mul false) (d_op o_mul (g_mul false) d_int (d_ix rfl (d_var 0) d_int)) (d_ix rfl (d_var 0) d_int))))
 (db_cons (s_setI (d_op op_mod g_mod (d_op o_add (g_add false) (d_var 3) (d_op o_mul (g_mul false) d_int (d_ix rfl (d_var 0) d_int))) d_int) (d_var 0) d_int (pg_sub (d_var 0).pe d_int.pe set_list))
 (db_cons (s_set (i := 3) sc.nd rfl (Or.inl rfl) (d_op o_add (g_add false) (d_op o_mul (g_mul false) (d_ix rfl (d_var 0) d_int) (d_ix rfl (d_var 0) d_int)) (d_op o_mul (g_mul false) d_int (d_ix rfl (d_var 0) d_int))))
 (db_one (s_ret (d_op op_mod g_mod (d_op op_fdivW g_fdiv (d_op o_add (g_add false) (d_op o_mul (g_mul false) (d_ix rfl (d_var 0) d_int) (d_op op_pow g_pow d_int d_int)) (d_op op_mod g_mod (d_var 3) d_int)) (d_op op_pow g_pow d_int d_int)) (d_var 1))))))))))
abbrev den__law_sip := raw__law_sip
/-! _law_headway -/
abbrev s__law_headway : Stmt := top 22
abbrev N__law_headway : List Str := ["tank", "some", "chain"]
def F__law_headway : FS := (sSeq (sAsg (gNm 2) (xLst false (aCons (xC (.int 1)) (aCons (xC (.int 2)) (aCons (xC (.int 6)) (aCons (xC (.int 6)) (aCons (xC (.int 12)) (aCons (xC (.int 60)) (aCons (xOp (mulD false) (xC (.int 60)) (xOp powD (xC (.int 10)) (xC (.int 20)))) aNil)))))))))
 (sSeq (sIf (bOr (bTest (xOp eqD (xVar 1) (xLst false aNil))) (bTest (xOp eqD (xCall den__law_sip (aCons (xVar 0) (aCons (xC (.int 3)) aNil))) (xC (.int 0)))))
 (sRet (xOp ixD (xVar 2) (xCall den__law_sip (aCons (xVar 0) (aCons (xCB lenD (aCons (xVar 2) aNil)) aNil)))))
 sNil)
 (sRet (xOp ixD (xOp ixD (xVar 1) (xCall den__law_sip (aCons (xVar 0) (aCons (xCB lenD (aCons (xVar 1) aNil)) aNil)))) (xC (.int 0))))))
theorem sc__law_headway : FnScope N__law_headway ["tank", "some"] (defScope s__law_headway) := ⟨rfl, rfl, rfl, by decide +kernel, rfl, by decide +kernel, by decide +kernel⟩
def raw__law_headway : List D → M D := fnD 2 N__law_headway F__law_headway
theorem b__law_headway {P : Program} {w : World} {Γ : Sig} {mg : Str → Option Value} {base : Heap} {fa : Addr} {fd : FuncData} (Fn : Fun Γ.K "_law_headway" "_law_headway" s__law_headway fa fd) (T : Txt Γ mg)
    (h__law_sip : FD P w Γ mg base 1 "_law_sip" den__law_sip) :
    FnD P w Γ mg base 2 fa fd ["tank", "some"] raw__law_headway := fnD_of Fn sc__law_headway fun cdv A outer s H E hr hgd =>
  have sc := sc__law_headway
  (db_cons (s_set (i := 2) sc.nd rfl (Or.inl rfl) (d_lst false (da_cons d_int (da_cons d_int (da_cons d_int (da_cons d_int (da_cons d_int (da_cons d_int (da_cons (d_op o_mul (g_mul false) d_int (d_op op_pow g_pow d_int d_int)) da_nil)))))))))
 (db_cons (s_if (DW.dt (w_or (b_cmp (o_eq (hu64 hr)) g_eq (d_var 1) (d_lst false da_nil)) (w_or1 (b_cmp (o_eq (hu64 hr)) g_eq (d_call rfl (h__law_sip.mono (by decide)) hr hgd (takes_of rfl rfl rfl rfl) (by rfl) (da_cons (d_var 0) (da_cons d_int da_nil))) d_int))))
 (db_one (s_ret (d_ix rfl (d_var 2) (d_call rfl (h__law_sip.mono (by decide)) hr hgd (takes_of rfl rfl rfl rfl) (by rfl) (da_cons (d_var 0) (da_cons (d_callB call_len g_len (by rfl) T.b_len (by decide +kernel) (da_cons (d_var 2) da_nil)) da_nil))))))
 db_nil)
 (db_one (s_ret (d_ix rfl (d_ix rfl (d_var 1) (d_call rfl (h__law_sip.mono (by decide)) hr hgd (takes_of rfl rfl rfl rfl) (by rfl) (da_cons (d_var 0) (da_cons (d_callB call_len g_len (by rfl) T.b_len (by decide +kernel) (da_cons (d_var 1) da_nil)) da_nil)))) d_int)))))
abbrev den__law_headway := raw__law_headway
/-! _law_put -/
abbrev s__law_put : Stmt := top 21
abbrev N__law_put : List Str := ["own", "some", "wants", "fast"]
def F__law_put : FS := (sSetI (xVar 0) (xC (.int 0)) (xOp (addD false) (xOp ixD (xVar 0) (xC (.int 0))) (xLst false (aCons (xTup (aCons (xVar 1) (aCons (xVar 2) (aCons (xVar 3) aNil)))) aNil))))
theorem sc__law_put : FnScope N__law_put ["own", "some", "wants", "fast"] (defScope s__law_put) := ⟨rfl, rfl, rfl, by decide +kernel, rfl, by decide +kernel, by decide +kernel⟩
def raw__law_put : List D → M D := fnD 4 N__law_put F__law_put
theorem b__law_put {P : Program} {w : World} {Γ : Sig} {mg : Str → Option Value} {base : Heap} {fa : Addr} {fd : FuncData} (Fn : Fun Γ.K "_law_put" "_law_put" s__law_put fa fd) (T : Txt Γ mg) :
    FnD P w Γ mg base 1 fa fd ["own", "some", "wants", "fast"] raw__law_put := fnD_of Fn sc__law_put fun cdv A outer s H E hr hgd =>
  have sc := sc__law_put
  (db_one (s_setI (d_op o_add (g_add false) (d_ix rfl (d_var 0) d_int) (d_lst false (da_cons (d_tup (da_cons (d_var 1) (da_cons (d_var 2) (da_cons (d_var 3) da_nil)))) da_nil))) (d_var 0) d_int (pg_sub (d_var 0).pe d_int.pe set_list)))
abbrev den__law_put := raw__law_put
/-! _law_grown -/
abbrev s__law_grown : Stmt := top 23
abbrev N__law_grown : List Str := ["tank", "net", "own", "way", "some", "wants", "fast", "headway", "far", "told", "free", "spot", "leave", "one_here", "two_here", "pair"]
def F__law_grown : FS := (sSeq (sAsg (gTp [4, 5, 6]) (xOp ixD (xOp ixD (xVar 2) (xC (.int 0))) (xUn negD (xC (.int 1)))))
 (sSeq (sIf (bOr (bAnd (bTest (xOp eqD (xVar 3) (xC (.int 0)))) (bTest (xOp ltD (xCB lenD (aCons (xVar 4) aNil)) (xC (.int 40))))) (bTest (xOp eqD (xVar 4) (xLst false aNil))))
 (sSeq (sPar [7, 8] (aCons (xCall den__law_headway (aCons (xVar 0) (aCons (xVar 4) aNil))) (aCons (xCall den__law_sip (aCons (xVar 0) (aCons (xC (.int 100)) aNil))) aNil)))
 (sSeq (sAsg (gNm 9) (xIf (bTest (xOp eqD (xOp modD (xCB lenD (aCons (xVar 5) aNil)) (xC (.int 2))) (xC (.int 0)))) (xMeth [(2, den_Net_add)] (xVar 1) (aCons (xVar 7) (aCons (xVar 8) aNil))) (xMethK 2 [1, 0] den_Net_add (xVar 1) (aCons (xVar 8) (aCons (xVar 7) aNil)))))
 (sSeq (sDrop (xCall den__law_put (aCons (xVar 2) (aCons (xOp (addD false) (xVar 4) (xLst false (aCons (xTup (aCons (xVar 7) (aCons (xVar 8) aNil))) aNil))) (aCons (xVar 5) (aCons (xVar 6) aNil))))))
 (sRet (xOp eqD (xCB reprD (aCons (xVar 9) aNil)) (xCB reprD (aCons (xCB lenD (aCons (xVar 4) aNil)) aNil)))))))
 sNil)
 (sSeq (sIf (bAnd (bTest (xOp eqD (xVar 3) (xC (.int 2)))) (bTest (xOp ltD (xCB lenD (aCons (xVar 6) aNil)) (xCB lenD (aCons (xVar 4) aNil)))))
 (sSeq (sAsg (gNm 10) (xLc false (fRange1 (aCons (xCB lenD (aCons (xVar 4) aNil)) aNil)) (gNm 11) [11] (bTest (xOp (inD true) (xVar 11) (xLc false (fList (xVar 6)) (gNm 15) [15] bYes (xOp ixD (xVar 15) (xC (.int 0)))))) (xVar 11)))
 (sSeq (sAsg (gNm 11) (xOp ixD (xVar 10) (xCall den__law_sip (aCons (xVar 0) (aCons (xCB lenD (aCons (xVar 10) aNil)) aNil)))))
 (sSeq (sAsg (gNm 12) (xCall den__law_sip (aCons (xVar 0) (aCons (xOp ixD (xOp ixD (xVar 4) (xVar 11)) (xC (.int 0))) aNil))))
 (sSeq (sAsg (gNm 9) (xIf (bTest (xOp eqD (xOp modD (xVar 11) (xC (.int 2))) (xC (.int 0)))) (xMeth [(2, den_Net_fix)] (xVar 1) (aCons (xVar 11) (aCons (xVar 12) aNil))) (xMethK 2 [1, 0] den_Net_fix (xVar 1) (aCons (xVar 12) (aCons (xVar 11) aNil)))))
 (sSeq (sDrop (xCall den__law_put (aCons (xVar 2) (aCons (xVar 4) (aCons (xVar 5) (aCons (xOp (addD false) (xVar 6) (xLst false (aCons (xTup (aCons (xVar 11) (aCons (xVar 12) aNil))) aNil))) aNil))))))
 (sRet (xOp isND2 (xVar 9) (xC .non))))))))
 sNil)
 (sSeq (sIf (bAnd (bTest (xOp eqD (xVar 3) (xC (.int 3)))) (bTest (xOp neD (xVar 5) (xLst false aNil))))
 (sSeq (sAsg (gNm 11) (xCall den__law_sip (aCons (xVar 0) (aCons (xCB lenD (aCons (xVar 5) aNil)) aNil))))
 (sSeq (sAsg (gNm 9) (xIf (bTest (xOp eqD (xOp modD (xVar 11) (xC (.int 2))) (xC (.int 0)))) (xMeth [(2, den_Net_drop)] (xVar 1) (aCons (xVar 11) aNil)) (xMethK 2 [0] den_Net_drop (xVar 1) (aCons (xVar 11) aNil))))
 (sSeq (sDrop (xCall den__law_put (aCons (xVar 2) (aCons (xVar 4) (aCons (xOp (addD false) (xSl false (xVar 5) oNo (oSo (xVar 11))) (xSl false (xVar 5) (oSo (xOp (addD false) (xVar 11) (xC (.int 1)))) oNo)) (aCons (xVar 6) aNil))))))
 (sRet (xOp isND2 (xVar 9) (xC .non))))))
 sNil)
 (sSeq (sIf (bTest (xOp eqD (xCB lenD (aCons (xVar 5) aNil)) (xC (.int 80))))
 (sRet (xC (.bl true)))
 sNil)
 (sSeq (sPar [13, 14] (aCons (xCall den__law_sip (aCons (xVar 0) (aCons (xCB lenD (aCons (xVar 4) aNil)) aNil))) (aCons (xCall den__law_sip (aCons (xVar 0) (aCons (xCB lenD (aCons (xVar 4) aNil)) aNil))) aNil)))
 (sSeq (sAsg (gNm 8) (xOp ixD (xLst false (aCons (xCall den__law_sip (aCons (xVar 0) (aCons (xC (.int 100)) aNil))) (aCons (xC (.int 0)) (aCons (xCall den__law_sip (aCons (xVar 0) (aCons (xOp powD (xC (.int 10)) (xC (.int 59))) aNil))) aNil)))) (xCall den__law_sip (aCons (xVar 0) (aCons (xC (.int 3)) aNil)))))
 (sSeq (sAsg (gNm 9) (xIf (bTest (xOp eqD (xOp modD (xVar 8) (xC (.int 2))) (xC (.int 0)))) (xMeth [(2, den_Net_wish)] (xVar 1) (aCons (xVar 13) (aCons (xVar 14) (aCons (xVar 8) aNil)))) (xMethK 2 [2, 1, 0] den_Net_wish (xVar 1) (aCons (xVar 8) (aCons (xVar 14) (aCons (xVar 13) aNil))))))
 (sSeq (sDrop (xCall den__law_put (aCons (xVar 2) (aCons (xVar 4) (aCons (xOp (addD false) (xVar 5) (xLst false (aCons (xTup (aCons (xVar 13) (aCons (xVar 14) (aCons (xVar 8) aNil)))) aNil))) (aCons (xVar 6) aNil))))))
 (sRet (xOp isND2 (xVar 9) (xC .non))))))))))))
theorem sc__law_grown : FnScope N__law_grown ["tank", "net", "own", "way"] (defScope s__law_grown) := ⟨rfl, rfl, rfl, by decide +kernel, rfl, by decide +kernel, by decide +kernel⟩
def raw__law_grown : List D → M D := fnD 4 N__law_grown F__law_grown
theorem b__law_grown {P : Program} {w : World} {Γ : Sig} {mg : Str → Option Value} {base : Heap} {fa : Addr} {fd : FuncData} (Fn : Fun Γ.K "_law_grown" "_law_grown" s__law_grown fa fd) (T : Txt Γ mg)
    (h_Net_add : MD P w Γ mg base 4 2 "add" den_Net_add)
    (h_Net_drop : MD P w Γ mg base 4 2 "drop" den_Net_drop)
    (h_Net_fix : MD P w Γ mg base 5 2 "fix" den_Net_fix)
    (h_Net_wish : MD P w Γ mg base 5 2 "wish" den_Net_wish)
    (h__law_headway : FD P w Γ mg base 2 "_law_headway" den__law_headway)
    (h__law_put : FD P w Γ mg base 1 "_law_put" den__law_put)
    (h__law_sip : FD P w Γ mg base 1 "_law_sip" den__law_sip)
    (hk_Net_add_ride_every : MDK P w Γ mg base 4 2 "add" ["ride", "every"] [1, 0] den_Net_add)
    (hk_Net_drop_index : MDK P w Γ mg base 4 2 "drop" ["index"] [0] den_Net_drop)
    (hk_Net_fix_at_i : MDK P w Γ mg base 5 2 "fix" ["at", "i"] [1, 0] den_Net_fix)
    (hk_Net_wish_walk_j_i : MDK P w Γ mg base 5 2 "wish" ["walk", "j", "i"] [2, 1, 0] den_Net_wish) :
    FnD P w Γ mg base 6 fa fd ["tank", "net", "own", "way"] raw__law_grown := fnD_of Fn sc__law_grown fun cdv A outer s H E hr hgd =>
  have sc := sc__law_grown
  (db_cons (s_asg (d_ix rfl (d_ix rfl (d_var 2) d_int) (d_un un_neg g_neg d_int)) (gd_tup (is := [4, 5, 6]) (pg_tup rfl (pgs_cons (pg_name (i := 4) sc.nd rfl (Or.inl rfl)) (pgs_cons (pg_name (i := 5) sc.nd rfl (Or.inl rfl)) (pgs_cons (pg_name (i := 6) sc.nd rfl (Or.inr rfl)) pgs_nil)))) (gos_cons 4 (gos_cons 5 (gos_cons 6 gos_nil))) rfl rfl))
 (db_cons (s_if (DW.dt (w_or (DW.dt (w_and (b_cmp (o_eq (hu64 hr)) g_eq (d_var 3) d_int) (w_and1 (b_cmp op_lt (g_cmpI _) (d_callB call_len g_len (by rfl) T.b_len (by decide +kernel) (da_cons (d_var 4) da_nil)) d_int)))) (w_or1 (b_cmp (o_eq (hu64 hr)) g_eq (d_var 4) (d_lst false da_nil)))))
 (db_cons (s_par2 (i := 7) (j := 8) rfl sc.nd rfl rfl (by decide) rfl rfl (da_cons (d_call rfl (h__law_headway.mono (by decide)) hr hgd (takes_of rfl rfl rfl rfl) (by rfl) (da_cons (d_var 0) (da_cons (d_var 4) da_nil))) (da_cons (d_call rfl (h__law_sip.mono (by decide)) hr hgd (takes_of rfl rfl rfl rfl) (by rfl) (da_cons (d_var 0) (da_cons d_int da_nil))) da_nil)))
 (db_cons (s_set (i := 9) sc.nd rfl (Or.inl rfl) (d_ifExp (b_cmp (o_eq (hu64 hr)) g_eq (d_op op_mod g_mod (d_callB call_len g_len (by rfl) T.b_len (by decide +kernel) (da_cons (d_var 5) da_nil)) d_int) d_int) (d_meth rfl (mok1 (h_Net_add.mono (by decide))) hr hgd (takes_of rfl rfl rfl rfl) (d_var 1) (da_cons (d_var 7) (da_cons (d_var 8) da_nil))) (d_methK rfl (hk_Net_add_ride_every.mono (by decide)) hr hgd (takes_of rfl rfl rfl rfl) (d_var 1) (dk_cons (d_var 8) (dk_cons (d_var 7) dk_nil)) (aCons_len (aCons_len aNil_len)))))
 (db_cons (s_expr (d_call rfl (h__law_put.mono (by decide)) hr hgd (takes_of rfl rfl rfl rfl) (by rfl) (da_cons (d_var 2) (da_cons (d_op o_add (g_add false) (d_var 4) (d_lst false (da_cons (d_tup (da_cons (d_var 7) (da_cons (d_var 8) da_nil))) da_nil))) (da_cons (d_var 5) (da_cons (d_var 6) da_nil))))))
 (db_one (s_ret (d_cmp (o_eq (hu64 hr)) g_eq (d_callB (c_repr (hu64 hr) hgd) g_repr (by rfl) T.b_repr (by decide +kernel) (da_cons (d_var 9) da_nil)) (d_callB (c_repr (hu64 hr) hgd) g_repr (by rfl) T.b_repr (by decide +kernel) (da_cons (d_callB call_len g_len (by rfl) T.b_len (by decide +kernel) (da_cons (d_var 4) da_nil)) da_nil))))))))
 db_nil)
 (db_cons (s_if (DW.dt (w_and (b_cmp (o_eq (hu64 hr)) g_eq (d_var 3) d_int) (w_and1 (b_cmp op_lt (g_cmpI _) (d_callB call_len g_len (by rfl) T.b_len (by decide +kernel) (da_cons (d_var 6) da_nil)) (d_callB call_len g_len (by rfl) T.b_len (by decide +kernel) (da_cons (d_var 4) da_nil))))))
 (db_cons (s_setLc (i := 10) (own := [("spot", 11)]) false rfl sc.nd rfl rfl (sw_true rfl rfl rfl (by decide +kernel)) (di_range1 (by rfl) T.b_range (da_cons (d_callB call_len g_len (by rfl) T.b_len (by decide +kernel) (da_cons (d_var 4) da_nil)) da_nil)) (blkOk_by (by kernel_rfl)) ⟨(go_name 11), fun _ _ _ _ _ => (gd_name (i := 11) sc.nd rfl (Or.inl rfl)), fun _ _ _ _ _ => (ts_one (b_cmp op_notIn_seq (g_in true) (d_var 11) (d_lc (own := [("pair", 15)]) false rfl sc.nd (di_list rfl (d_var 6)) (blkOk_by (by kernel_rfl)) ⟨(go_name 15), fun _ _ _ _ _ => (gd_name (i := 15) sc.nd rfl (Or.inl rfl)), fun _ _ _ _ _ => ts_nil, fun _ _ _ _ _ => (d_ix rfl (d_var 15) d_int)⟩ (by decide)))), fun _ _ _ _ _ => (d_var 11)⟩ (by decide))
 (db_cons (s_set (i := 11) sc.nd rfl (Or.inl rfl) (d_ix rfl (d_var 10) (d_call rfl (h__law_sip.mono (by decide)) hr hgd (takes_of rfl rfl rfl rfl) (by rfl) (da_cons (d_var 0) (da_cons (d_callB call_len g_len (by rfl) T.b_len (by decide +kernel) (da_cons (d_var 10) da_nil)) da_nil)))))
 (db_cons (s_set (i := 12) sc.nd rfl (Or.inl rfl) (d_call rfl (h__law_sip.mono (by decide)) hr hgd (takes_of rfl rfl rfl rfl) (by rfl) (da_cons (d_var 0) (da_cons (d_ix rfl (d_ix rfl (d_var 4) (d_var 11)) d_int) da_nil))))
 (db_cons (s_set (i := 9) sc.nd rfl (Or.inl rfl) (d_ifExp (b_cmp (o_eq (hu64 hr)) g_eq (d_op op_mod g_mod (d_var 11) d_int) d_int) (d_meth rfl (mok1 (h_Net_fix.mono (by decide))) hr hgd (takes_of rfl rfl rfl rfl) (d_var 1) (da_cons (d_var 11) (da_cons (d_var 12) da_nil))) (d_methK rfl (hk_Net_fix_at_i.mono (by decide)) hr hgd (takes_of rfl rfl rfl rfl) (d_var 1) (dk_cons (d_var 12) (dk_cons (d_var 11) dk_nil)) (aCons_len (aCons_len aNil_len)))))
 (db_cons (s_expr (d_call rfl (h__law_put.mono (by decide)) hr hgd (takes_of rfl rfl rfl rfl) (by rfl) (da_cons (d_var 2) (da_cons (d_var 4) (da_cons (d_var 5) (da_cons (d_op o_add (g_add false) (d_var 6) (d_lst false (da_cons (d_tup (da_cons (d_var 11) (da_cons (d_var 12) da_nil))) da_nil))) da_nil))))))
 (db_one (s_ret (d_cmp op_isN g_isN (d_var 9) d_non))))))))
 db_nil)
 (db_cons (s_if (DW.dt (w_and (b_cmp (o_eq (hu64 hr)) g_eq (d_var 3) d_int) (w_and1 (b_cmp (o_ne (hu64 hr)) g_ne (d_var 5) (d_lst false da_nil)))))
 (db_cons (s_set (i := 11) sc.nd rfl (Or.inl rfl) (d_call rfl (h__law_sip.mono (by decide)) hr hgd (takes_of rfl rfl rfl rfl) (by rfl) (da_cons (d_var 0) (da_cons (d_callB call_len g_len (by rfl) T.b_len (by decide +kernel) (da_cons (d_var 5) da_nil)) da_nil))))
 (db_cons (s_set (i := 9) sc.nd rfl (Or.inl rfl) (d_ifExp (b_cmp (o_eq (hu64 hr)) g_eq (d_op op_mod g_mod (d_var 11) d_int) d_int) (d_meth rfl (mok1 (h_Net_drop.mono (by decide))) hr hgd (takes_of rfl rfl rfl rfl) (d_var 1) (da_cons (d_var 11) da_nil)) (d_methK rfl (hk_Net_drop_index.mono (by decide)) hr hgd (takes_of rfl rfl rfl rfl) (d_var 1) (dk_cons (d_var 11) dk_nil) (aCons_len aNil_len))))
 (db_cons (s_expr (d_call rfl (h__law_put.mono (by decide)) hr hgd (takes_of rfl rfl rfl rfl) (by rfl) (da_cons (d_var 2) (da_cons (d_var 4) (da_cons (d_op o_add (g_add false) (d_sl false rfl (d_var 5) o_none (o_some (d_var 11))) (d_sl false rfl (d_var 5) (o_some (d_op o_add (g_add false) (d_var 11) d_int)) o_none)) (da_cons (d_var 6) da_nil))))))
 (db_one (s_ret (d_cmp op_isN g_isN (d_var 9) d_non))))))
 db_nil)
 (db_cons (s_if (b_cmp (o_eq (hu64 hr)) g_eq (d_callB call_len g_len (by rfl) T.b_len (by decide +kernel) (da_cons (d_var 5) da_nil)) d_int)
 (db_one (s_ret d_bl))
 db_nil)
 (db_cons (s_par2 (i := 13) (j := 14) rfl sc.nd rfl rfl (by decide) rfl rfl (da_cons (d_call rfl (h__law_sip.mono (by decide)) hr hgd (takes_of rfl rfl rfl rfl) (by rfl) (da_cons (d_var 0) (da_cons (d_callB call_len g_len (by rfl) T.b_len (by decide +kernel) (da_cons (d_var 4) da_nil)) da_nil))) (da_cons (d_call rfl (h__law_sip.mono (by decide)) hr hgd (takes_of rfl rfl rfl rfl) (by rfl) (da_cons (d_var 0) (da_cons (d_callB call_len g_len (by rfl) T.b_len (by decide +kernel) (da_cons (d_var 4) da_nil)) da_nil))) da_nil)))
 (db_cons (s_set (i := 8) sc.nd rfl (Or.inl rfl) (d_ix rfl (d_lst false (da_cons (d_call rfl (h__law_sip.mono (by decide)) hr hgd (takes_of rfl rfl rfl rfl) (by rfl) (da_cons (d_var 0) (da_cons d_int da_nil))) (da_cons d_int (da_cons (d_call rfl (h__law_sip.mono (by decide)) hr hgd (takes_of rfl rfl rfl rfl) (by rfl) (da_cons (d_var 0) (da_cons (d_op op_pow g_pow d_int d_int) da_nil))) da_nil)))) (d_call rfl (h__law_sip.mono (by decide)) hr hgd (takes_of rfl rfl rfl rfl) (by rfl) (da_cons (d_var 0) (da_cons d_int da_nil)))))
 (db_cons (s_set (i := 9) sc.nd rfl (Or.inl rfl) (d_ifExp (b_cmp (o_eq (hu64 hr)) g_eq (d_op op_mod g_mod (d_var 8) d_int) d_int) (d_meth rfl (mok1 (h_Net_wish.mono (by decide))) hr hgd (takes_of rfl rfl rfl rfl) (d_var 1) (da_cons (d_var 13) (da_cons (d_var 14) (da_cons (d_var 8) da_nil)))) (d_methK rfl (hk_Net_wish_walk_j_i.mono (by decide)) hr hgd (takes_of rfl rfl rfl rfl) (d_var 1) (dk_cons (d_var 8) (dk_cons (d_var 14) (dk_cons (d_var 13) dk_nil))) (aCons_len (aCons_len (aCons_len aNil_len))))))
 (db_cons (s_expr (d_call rfl (h__law_put.mono (by decide)) hr hgd (takes_of rfl rfl rfl rfl) (by rfl) (da_cons (d_var 2) (da_cons (d_var 4) (da_cons (d_op o_add (g_add false) (d_var 5) (d_lst false (da_cons (d_tup (da_cons (d_var 13) (da_cons (d_var 14) (da_cons (d_var 8) da_nil)))) da_nil))) (da_cons (d_var 6) da_nil))))))
 (db_one (s_ret (d_cmp op_isN g_isN (d_var 9) d_non))))))))))))
abbrev den__law_grown := raw__law_grown
/-! Net.undo -/
abbrev s_Net_undo : Stmt := inClass (top 13) 11
abbrev N_Net_undo : List Str := ["self", "many"]
def F_Net_undo : FS := (sSeq (sIf (bTest (xOp eqD (xFld [2] 0 (xVar 0)) (xLst false aNil)))
 (sRaise 25)
 sNil)
 (sSeq (sFldSet [2] 0 (xVar 0) (xSl true (xFld [2] 0 (xVar 0)) oNo (oSo (xUn negD (xC (.int 1))))))
 (sFldSet [2] 1 (xVar 0) (xLc true (fList (xFld [2] 1 (xVar 0))) (gNm 1) [1] (bTest (xOp leD (xVar 1) (xCB lenD (aCons (xFld [2] 0 (xVar 0)) aNil)))) (xVar 1)))))
theorem sc_Net_undo : FnScope N_Net_undo ["self"] (defScope s_Net_undo) := ⟨rfl, rfl, rfl, by decide +kernel, rfl, by decide +kernel, by decide +kernel⟩
def raw_Net_undo : List D → M D := fnD 1 N_Net_undo F_Net_undo
theorem b_Net_undo {P : Program} {w : World} {Γ : Sig} {mg : Str → Option Value} {base : Heap} {fa : Addr} {fd : FuncData} (Fn : Fun Γ.K "undo" "Net.undo" s_Net_undo fa fd) (T : Txt Γ mg) :
    FnD P w Γ mg base 1 fa fd ["self"] raw_Net_undo := fnD_of Fn sc_Net_undo fun cdv A outer s H E hr hgd =>
  have sc := sc_Net_undo
  (db_cons (s_if (b_cmp (o_eq (hu64 hr)) g_eq (d_fld rfl T.f_states (d_var 0)) (d_lst false da_nil))
 (db_one (s_raise (c := 25) rfl (takes_of rfl rfl rfl rfl) (ExcK.ok T.e_NothingToUndo) (by rfl)))
 db_nil)
 (db_cons (s_fld rfl T.f_states (d_var 0) (d_sl true rfl (d_fld rfl T.f_states (d_var 0)) o_none (o_some (d_un un_neg g_neg d_int))))
 (db_one (s_fld rfl T.f_marks (d_var 0) (d_lc (own := [("many", 1)]) true rfl sc.nd (di_list rfl (d_fld rfl T.f_marks (d_var 0))) (blkOk_by (by kernel_rfl)) ⟨(go_name 1), fun _ _ _ _ _ => (gd_name (i := 1) sc.nd rfl (Or.inl rfl)), fun _ _ _ _ _ => (ts_one (b_cmp op_le (g_cmpI _) (d_var 1) (d_callB call_len g_len (by rfl) T.b_len (by decide +kernel) (da_cons (d_fld rfl T.f_states (d_var 0)) da_nil)))), fun _ _ _ _ _ => (d_var 1)⟩ (by decide))))))
abbrev den_Net_undo := raw_Net_undo
/-! Net.__len__ -/
abbrev s_Net__len_ : Stmt := inClass (top 13) 14
abbrev N_Net__len_ : List Str := ["self"]
def F_Net__len_ : FS := (sRet (xCB lenD (aCons (xFld [2] 0 (xVar 0)) aNil)))
theorem sc_Net__len_ : FnScope N_Net__len_ ["self"] (defScope s_Net__len_) := ⟨rfl, rfl, rfl, by decide +kernel, rfl, by decide +kernel, by decide +kernel⟩
def raw_Net__len_ : List D → M D := fnD 1 N_Net__len_ F_Net__len_
theorem b_Net__len_ {P : Program} {w : World} {Γ : Sig} {mg : Str → Option Value} {base : Heap} {fa : Addr} {fd : FuncData} (Fn : Fun Γ.K "__len__" "Net.__len__" s_Net__len_ fa fd) (T : Txt Γ mg) :
    FnD P w Γ mg base 1 fa fd ["self"] raw_Net__len_ := fnD_of Fn sc_Net__len_ fun cdv A outer s H E hr hgd =>
  have sc := sc_Net__len_
  (db_one (s_ret (d_callB call_len g_len (by rfl) T.b_len (by decide +kernel) (da_cons (d_fld rfl T.f_states (d_var 0)) da_nil))))
theorem bh_Net__len_ {P : Program} {w : World} {Γ : Sig} {mg : Str → Option Value} {base : Heap} {fa : Addr} {fd : FuncData} (Fn : Fun Γ.K "__len__" "Net.__len__" s_Net__len_ fa fd) (T : Txt Γ mg) :
    FnDH P w Γ mg base 1 fa fd ["self"] raw_Net__len_ := fnDH_of Fn sc_Net__len_ fun cdv A outer s H p hrH hgd =>
  have sc := sc_Net__len_
  have hpx : PinX (L2H.cxH (L2.CX P w) P w Γ.K mg base N_Net__len_ "Net.__len__" (defScope s_Net__len_) fa cdv A outer s H EN p) := ⟨p, List.mem_cons_self⟩
  (db_one (s_ret (d_callB call_len g_len (by rfl) T.b_len (by decide +kernel) (da_cons (d_fld rfl T.f_states (d_var 0)) da_nil))))
abbrev den_Net__len_ := raw_Net__len_
/-! Net.fixed -/
abbrev s_Net_fixed : Stmt := inClass (top 13) 10
abbrev N_Net_fixed : List Str := ["self"]
def F_Net_fixed : FS := (sRet (xCB (listD true) (aCons (xFld [1] 2 (xMeth [(2, den_Net_present)] (xVar 0) aNil)) aNil)))
theorem sc_Net_fixed : FnScope N_Net_fixed ["self"] (defScope s_Net_fixed) := ⟨rfl, rfl, rfl, by decide +kernel, rfl, by decide +kernel, by decide +kernel⟩
def raw_Net_fixed : List D → M D := fnD 1 N_Net_fixed F_Net_fixed
theorem b_Net_fixed {P : Program} {w : World} {Γ : Sig} {mg : Str → Option Value} {base : Heap} {fa : Addr} {fd : FuncData} (Fn : Fun Γ.K "fixed" "Net.fixed" s_Net_fixed fa fd) (T : Txt Γ mg)
    (h_Net_present : MD P w Γ mg base 3 2 "present" den_Net_present) :
    FnD P w Γ mg base 4 fa fd ["self"] raw_Net_fixed := fnD_of Fn sc_Net_fixed fun cdv A outer s H E hr hgd =>
  have sc := sc_Net_fixed
  (db_one (s_ret (d_callTy call_list_of (g_list true) (by rfl) T.b_list (by decide +kernel) (da_cons (d_fld rfl T.f_all_fixed (d_meth0 rfl (mok1 (h_Net_present.mono (by decide))) hr hgd (takes_of rfl rfl rfl rfl) (d_var 0))) da_nil))))
theorem bh_Net_fixed {P : Program} {w : World} {Γ : Sig} {mg : Str → Option Value} {base : Heap} {fa : Addr} {fd : FuncData} (Fn : Fun Γ.K "fixed" "Net.fixed" s_Net_fixed fa fd) (T : Txt Γ mg)
    (hh_Net_present : MDH P w Γ mg base 3 2 "present" den_Net_present) :
    FnDH P w Γ mg base 4 fa fd ["self"] raw_Net_fixed := fnDH_of Fn sc_Net_fixed fun cdv A outer s H p hrH hgd =>
  have sc := sc_Net_fixed
  have hpx : PinX (L2H.cxH (L2.CX P w) P w Γ.K mg base N_Net_fixed "Net.fixed" (defScope s_Net_fixed) fa cdv A outer s H EN p) := ⟨p, List.mem_cons_self⟩
  (db_one (s_ret (d_callTy call_list_of (g_list true) (by rfl) T.b_list (by decide +kernel) (da_cons (d_fld rfl T.f_all_fixed (d_meth0H rfl (mokH1 (hh_Net_present.mono (by decide))) hrH hgd hpx (d_var 0))) da_nil))))
abbrev den_Net_fixed := raw_Net_fixed
/-! Net.lines -/
abbrev s_Net_lines : Stmt := inClass (top 13) 8
abbrev N_Net_lines : List Str := ["self"]
def F_Net_lines : FS := (sRet (xCB (listD true) (aCons (xFld [1] 0 (xMeth [(2, den_Net_present)] (xVar 0) aNil)) aNil)))
theorem sc_Net_lines : FnScope N_Net_lines ["self"] (defScope s_Net_lines) := ⟨rfl, rfl, rfl, by decide +kernel, rfl, by decide +kernel, by decide +kernel⟩
def raw_Net_lines : List D → M D := fnD 1 N_Net_lines F_Net_lines
theorem b_Net_lines {P : Program} {w : World} {Γ : Sig} {mg : Str → Option Value} {base : Heap} {fa : Addr} {fd : FuncData} (Fn : Fun Γ.K "lines" "Net.lines" s_Net_lines fa fd) (T : Txt Γ mg)
    (h_Net_present : MD P w Γ mg base 3 2 "present" den_Net_present) :
    FnD P w Γ mg base 4 fa fd ["self"] raw_Net_lines := fnD_of Fn sc_Net_lines fun cdv A outer s H E hr hgd =>
  have sc := sc_Net_lines
  (db_one (s_ret (d_callTy call_list_of (g_list true) (by rfl) T.b_list (by decide +kernel) (da_cons (d_fld rfl T.f_all_lines (d_meth0 rfl (mok1 (h_Net_present.mono (by decide))) hr hgd (takes_of rfl rfl rfl rfl) (d_var 0))) da_nil))))
theorem bh_Net_lines {P : Program} {w : World} {Γ : Sig} {mg : Str → Option Value} {base : Heap} {fa : Addr} {fd : FuncData} (Fn : Fun Γ.K "lines" "Net.lines" s_Net_lines fa fd) (T : Txt Γ mg)
    (hh_Net_present : MDH P w Γ mg base 3 2 "present" den_Net_present) :
    FnDH P w Γ mg base 4 fa fd ["self"] raw_Net_lines := fnDH_of Fn sc_Net_lines fun cdv A outer s H p hrH hgd =>
  have sc := sc_Net_lines
  have hpx : PinX (L2H.cxH (L2.CX P w) P w Γ.K mg base N_Net_lines "Net.lines" (defScope s_Net_lines) fa cdv A outer s H EN p) := ⟨p, List.mem_cons_self⟩
  (db_one (s_ret (d_callTy call_list_of (g_list true) (by rfl) T.b_list (by decide +kernel) (da_cons (d_fld rfl T.f_all_lines (d_meth0H rfl (mokH1 (hh_Net_present.mono (by decide))) hrH hgd hpx (d_var 0))) da_nil))))
abbrev den_Net_lines := raw_Net_lines
/-! Net.wishes -/
abbrev s_Net_wishes : Stmt := inClass (top 13) 9
abbrev N_Net_wishes : List Str := ["self"]
def F_Net_wishes : FS := (sRet (xCB (listD true) (aCons (xFld [1] 1 (xMeth [(2, den_Net_present)] (xVar 0) aNil)) aNil)))
theorem sc_Net_wishes : FnScope N_Net_wishes ["self"] (defScope s_Net_wishes) := ⟨rfl, rfl, rfl, by decide +kernel, rfl, by decide +kernel, by decide +kernel⟩
def raw_Net_wishes : List D → M D := fnD 1 N_Net_wishes F_Net_wishes
theorem b_Net_wishes {P : Program} {w : World} {Γ : Sig} {mg : Str → Option Value} {base : Heap} {fa : Addr} {fd : FuncData} (Fn : Fun Γ.K "wishes" "Net.wishes" s_Net_wishes fa fd) (T : Txt Γ mg)
    (h_Net_present : MD P w Γ mg base 3 2 "present" den_Net_present) :
    FnD P w Γ mg base 4 fa fd ["self"] raw_Net_wishes := fnD_of Fn sc_Net_wishes fun cdv A outer s H E hr hgd =>
  have sc := sc_Net_wishes
  (db_one (s_ret (d_callTy call_list_of (g_list true) (by rfl) T.b_list (by decide +kernel) (da_cons (d_fld rfl T.f_all_wishes (d_meth0 rfl (mok1 (h_Net_present.mono (by decide))) hr hgd (takes_of rfl rfl rfl rfl) (d_var 0))) da_nil))))
theorem bh_Net_wishes {P : Program} {w : World} {Γ : Sig} {mg : Str → Option Value} {base : Heap} {fa : Addr} {fd : FuncData} (Fn : Fun Γ.K "wishes" "Net.wishes" s_Net_wishes fa fd) (T : Txt Γ mg)
    (hh_Net_present : MDH P w Γ mg base 3 2 "present" den_Net_present) :
    FnDH P w Γ mg base 4 fa fd ["self"] raw_Net_wishes := fnDH_of Fn sc_Net_wishes fun cdv A outer s H p hrH hgd =>
  have sc := sc_Net_wishes
  have hpx : PinX (L2H.cxH (L2.CX P w) P w Γ.K mg base N_Net_wishes "Net.wishes" (defScope s_Net_wishes) fa cdv A outer s H EN p) := ⟨p, List.mem_cons_self⟩
  (db_one (s_ret (d_callTy call_list_of (g_list true) (by rfl) T.b_list (by decide +kernel) (da_cons (d_fld rfl T.f_all_wishes (d_meth0H rfl (mokH1 (hh_Net_present.mono (by decide))) hrH hgd hpx (d_var 0))) da_nil))))
abbrev den_Net_wishes := raw_Net_wishes
/-! _law_seen -/
abbrev s__law_seen : Stmt := top 18
abbrev N__law_seen : List Str := ["net"]
def F__law_seen : FS := (sRet (xLst false (aCons (xMeth [(2, den_Net_lines)] (xVar 0) aNil) (aCons (xMeth [(2, den_Net_wishes)] (xVar 0) aNil) (aCons (xMeth [(2, den_Net_fixed)] (xVar 0) aNil) (aCons (xLenO [(2, den_Net__len_)] (xVar 0)) aNil))))))
theorem sc__law_seen : FnScope N__law_seen ["net"] (defScope s__law_seen) := ⟨rfl, rfl, rfl, by decide +kernel, rfl, by decide +kernel, by decide +kernel⟩
def raw__law_seen : List D → M D := fnD 1 N__law_seen F__law_seen
theorem b__law_seen {P : Program} {w : World} {Γ : Sig} {mg : Str → Option Value} {base : Heap} {fa : Addr} {fd : FuncData} (Fn : Fun Γ.K "_law_seen" "_law_seen" s__law_seen fa fd) (T : Txt Γ mg)
    (h_Net__len_ : MD P w Γ mg base 1 2 "__len__" den_Net__len_)
    (h_Net_fixed : MD P w Γ mg base 4 2 "fixed" den_Net_fixed)
    (h_Net_lines : MD P w Γ mg base 4 2 "lines" den_Net_lines)
    (h_Net_wishes : MD P w Γ mg base 4 2 "wishes" den_Net_wishes) :
    FnD P w Γ mg base 5 fa fd ["net"] raw__law_seen := fnD_of Fn sc__law_seen fun cdv A outer s H E hr hgd =>
  have sc := sc__law_seen
  (db_one (s_ret (d_lst false (da_cons (d_meth0 rfl (mok1 (h_Net_lines.mono (by decide))) hr hgd (takes_of rfl rfl rfl rfl) (d_var 0)) (da_cons (d_meth0 rfl (mok1 (h_Net_wishes.mono (by decide))) hr hgd (takes_of rfl rfl rfl rfl) (d_var 0)) (da_cons (d_meth0 rfl (mok1 (h_Net_fixed.mono (by decide))) hr hgd (takes_of rfl rfl rfl rfl) (d_var 0)) (da_cons (d_lenO rfl (mok1 (h_Net__len_.mono (by decide))) hr hgd (by rfl) T.b_len (d_var 0)) da_nil)))))))
theorem bh__law_seen {P : Program} {w : World} {Γ : Sig} {mg : Str → Option Value} {base : Heap} {fa : Addr} {fd : FuncData} (Fn : Fun Γ.K "_law_seen" "_law_seen" s__law_seen fa fd) (T : Txt Γ mg)
    (hh_Net__len_ : MDH P w Γ mg base 1 2 "__len__" den_Net__len_)
    (hh_Net_fixed : MDH P w Γ mg base 4 2 "fixed" den_Net_fixed)
    (hh_Net_lines : MDH P w Γ mg base 4 2 "lines" den_Net_lines)
    (hh_Net_wishes : MDH P w Γ mg base 4 2 "wishes" den_Net_wishes) :
    FnDH P w Γ mg base 5 fa fd ["net"] raw__law_seen := fnDH_of Fn sc__law_seen fun cdv A outer s H p hrH hgd =>
  have sc := sc__law_seen
  have hpx : PinX (L2H.cxH (L2.CX P w) P w Γ.K mg base N__law_seen "_law_seen" (defScope s__law_seen) fa cdv A outer s H EN p) := ⟨p, List.mem_cons_self⟩
  (db_one (s_ret (d_lst false (da_cons (d_meth0H rfl (mokH1 (hh_Net_lines.mono (by decide))) hrH hgd hpx (d_var 0)) (da_cons (d_meth0H rfl (mokH1 (hh_Net_wishes.mono (by decide))) hrH hgd hpx (d_var 0)) (da_cons (d_meth0H rfl (mokH1 (hh_Net_fixed.mono (by decide))) hrH hgd hpx (d_var 0)) (da_cons (d_lenOH rfl (mokH1 (hh_Net__len_.mono (by decide))) hrH hgd hpx (by rfl) T.b_len (d_var 0)) da_nil)))))))
abbrev den__law_seen := raw__law_seen
/-! _law_is_empty -/
abbrev s__law_is_empty : Stmt := top 24
abbrev N__law_is_empty : List Str := ["net"]
def F__law_is_empty : FS := (sSeq (sTry cs_NothingToUndo (sDrop (xMeth [(2, den_Net_undo)] (xVar 0) aNil))
 (sRet (xOp eqD (xCall den__law_seen (aCons (xVar 0) aNil)) (xLst false (aCons (xLst false aNil) (aCons (xLst false aNil) (aCons (xLst false aNil) (aCons (xC (.int 0)) aNil))))))))
 (sRet (xC (.bl false))))
theorem sc__law_is_empty : FnScope N__law_is_empty ["net"] (defScope s__law_is_empty) := ⟨rfl, rfl, rfl, by decide +kernel, rfl, by decide +kernel, by decide +kernel⟩
def raw__law_is_empty : List D → M D := fnD 1 N__law_is_empty F__law_is_empty
theorem b__law_is_empty {P : Program} {w : World} {Γ : Sig} {mg : Str → Option Value} {base : Heap} {fa : Addr} {fd : FuncData} (Fn : Fun Γ.K "_law_is_empty" "_law_is_empty" s__law_is_empty fa fd) (T : Txt Γ mg)
    (h_Net_undo : MD P w Γ mg base 1 2 "undo" den_Net_undo)
    (hh__law_seen : FDH P w Γ mg base 5 "_law_seen" den__law_seen) :
    FnD P w Γ mg base 6 fa fd ["net"] raw__law_is_empty := fnD_of Fn sc__law_is_empty fun cdv A outer s H E hr hgd =>
  have sc := sc__law_is_empty
  (db_cons (s_tryH rfl rfl rfl ⟨rfl, by decide, .inl T.e_NothingToUndo.gC⟩ T.h_NothingToUndo (takes_of rfl rfl rfl rfl) (fun W pn xe tk hp => (db_one (s_expr (d_meth0 rfl (mok1 (h_Net_undo.mono (by decide))) hr hgd tk (d_var 0))))) (fun a pn hpx => (have hrH := roomH_mark (v := some (.ref a)) hr; (db_one (s_ret (d_cmp (o_eq (hu64H hrH)) g_eq (d_callH rfl (hh__law_seen.mono (by decide)) hrH hgd hpx (by rfl) (da_cons (d_var 0) da_nil)) (d_lst false (da_cons (d_lst false da_nil) (da_cons (d_lst false da_nil) (da_cons (d_lst false da_nil) (da_cons d_int da_nil)))))))))))
 (db_one (s_ret d_bl)))
abbrev den__law_is_empty := raw__law_is_empty
/-! _law_due -/
abbrev s__law_due : Stmt := top 19
abbrev N__law_due : List Str := ["own", "now"]
def F__law_due : FS := (sSeq (sAsg (gNm 1) (xOp ixD (xOp ixD (xVar 0) (xC (.int 0))) (xUn negD (xC (.int 1)))))
 (sRet (xLst false (aCons (xOp ixD (xVar 1) (xC (.int 0))) (aCons (xOp ixD (xVar 1) (xC (.int 1))) (aCons (xOp ixD (xVar 1) (xC (.int 2))) (aCons (xOp subD (xCB lenD (aCons (xOp ixD (xVar 0) (xC (.int 0))) aNil)) (xC (.int 1))) aNil)))))))
theorem sc__law_due : FnScope N__law_due ["own"] (defScope s__law_due) := ⟨rfl, rfl, rfl, by decide +kernel, rfl, by decide +kernel, by decide +kernel⟩
def raw__law_due : List D → M D := fnD 1 N__law_due F__law_due
theorem b__law_due {P : Program} {w : World} {Γ : Sig} {mg : Str → Option Value} {base : Heap} {fa : Addr} {fd : FuncData} (Fn : Fun Γ.K "_law_due" "_law_due" s__law_due fa fd) (T : Txt Γ mg) :
    FnD P w Γ mg base 1 fa fd ["own"] raw__law_due := fnD_of Fn sc__law_due fun cdv A outer s H E hr hgd =>
  have sc := sc__law_due
  (db_cons (s_set (i := 1) sc.nd rfl (Or.inl rfl) (d_ix rfl (d_ix rfl (d_var 0) d_int) (d_un un_neg g_neg d_int)))
 (db_one (s_ret (d_lst false (da_cons (d_ix rfl (d_var 1) d_int) (da_cons (d_ix rfl (d_var 1) d_int) (da_cons (d_ix rfl (d_var 1) d_int) (da_cons (d_op op_sub g_sub (d_callB call_len g_len (by rfl) T.b_len (by decide +kernel) (da_cons (d_ix rfl (d_var 0) d_int) da_nil)) d_int) da_nil))))))))
abbrev den__law_due := raw__law_due
/-! _law_same -/
abbrev s__law_same : Stmt := top 20
abbrev N__law_same : List Str := ["net", "own", "told", "due", "part"]
def F__law_same : FS := (sSeq (sPar [2, 3] (aCons (xCall den__law_seen (aCons (xVar 0) aNil)) (aCons (xCall den__law_due (aCons (xVar 1) aNil)) aNil)))
 (sSeq (sIf (bTest (xOp neD (xCB reprD (aCons (xVar 2) aNil)) (xCB reprD (aCons (xVar 3) aNil))))
 (sRet (xC (.bl false)))
 sNil)
 (sSeq (sFor (fList (xSl false (xVar 2) oNo (oSo (xC (.int 3))))) (gNm 4)
 (sSeq (sDrop (xBMt isLst appendD (xVar 4) (aCons (xTup (aCons (xC (.int 0)) (aCons (xC (.int 0)) aNil))) aNil)))
 (sDrop (xBMt isLst reverseD (xVar 4) aNil))))
 (sRet (xOp eqD (xCB reprD (aCons (xCall den__law_seen (aCons (xVar 0) aNil)) aNil)) (xCB reprD (aCons (xVar 3) aNil)))))))
theorem sc__law_same : FnScope N__law_same ["net", "own"] (defScope s__law_same) := ⟨rfl, rfl, rfl, by decide +kernel, rfl, by decide +kernel, by decide +kernel⟩
def raw__law_same : List D → M D := fnD 2 N__law_same F__law_same
theorem b__law_same {P : Program} {w : World} {Γ : Sig} {mg : Str → Option Value} {base : Heap} {fa : Addr} {fd : FuncData} (Fn : Fun Γ.K "_law_same" "_law_same" s__law_same fa fd) (T : Txt Γ mg)
    (h__law_due : FD P w Γ mg base 1 "_law_due" den__law_due)
    (h__law_seen : FD P w Γ mg base 5 "_law_seen" den__law_seen) :
    FnD P w Γ mg base 6 fa fd ["net", "own"] raw__law_same := fnD_of Fn sc__law_same fun cdv A outer s H E hr hgd =>
  have sc := sc__law_same
  (db_cons (s_par2 (i := 2) (j := 3) rfl sc.nd rfl rfl (by decide) rfl rfl (da_cons (d_call rfl (h__law_seen.mono (by decide)) hr hgd (takes_of rfl rfl rfl rfl) (by rfl) (da_cons (d_var 0) da_nil)) (da_cons (d_call rfl (h__law_due.mono (by decide)) hr hgd (takes_of rfl rfl rfl rfl) (by rfl) (da_cons (d_var 1) da_nil)) da_nil)))
 (db_cons (s_if (b_cmp (o_ne (hu64 hr)) g_ne (d_callB (c_repr (hu64 hr) hgd) g_repr (by rfl) T.b_repr (by decide +kernel) (da_cons (d_var 2) da_nil)) (d_callB (c_repr (hu64 hr) hgd) g_repr (by rfl) T.b_repr (by decide +kernel) (da_cons (d_var 3) da_nil)))
 (db_one (s_ret d_bl))
 db_nil)
 (db_cons (s_for (passes_of rfl) rfl (di_list rfl (d_sl false rfl (d_var 2) o_none (o_some d_int))) (gd_name (i := 4) sc.nd rfl (Or.inl rfl))
 (db_cons (s_expr (d_bm rfl (fun w st H d x => ty_lst) PySem.F.plainAttrs_list PySem.F.slot_list_append PySem.F.type_list_append mt_append m_append (d_var 4) (da_cons (d_tup (da_cons d_int (da_cons d_int da_nil))) da_nil)))
 (db_one (s_expr (d_bm0 rfl (fun w st H d x => ty_lst) PySem.F.plainAttrs_list PySem.F.slot_list_reverse PySem.F.type_list_reverse mt_reverse m_reverse (d_var 4))))))
 (db_one (s_ret (d_cmp (o_eq (hu64 hr)) g_eq (d_callB (c_repr (hu64 hr) hgd) g_repr (by rfl) T.b_repr (by decide +kernel) (da_cons (d_call rfl (h__law_seen.mono (by decide)) hr hgd (takes_of rfl rfl rfl rfl) (by rfl) (da_cons (d_var 0) da_nil)) da_nil)) (d_callB (c_repr (hu64 hr) hgd) g_repr (by rfl) T.b_repr (by decide +kernel) (da_cons (d_var 3) da_nil))))))))
abbrev den__law_same := raw__law_same
/-! _law_tank -/
abbrev s__law_tank : Stmt := top 15
abbrev N__law_tank : List Str := ["script", "mix", "cell"]
def F__law_tank : FS := (sSeq (sAsg (gNm 1) (xOp powD (xC (.int 23)) (xC (.int 27))))
 (sSeq (sFor (fList (xSl false (xVar 0) oNo (oSo (xC (.int 40))))) (gNm 2)
 (sAsg (gNm 1) (xOp modD (xOp (addD false) (xOp (mulD false) (xVar 1) (xC (.int 2862933555777941757))) (xVar 2)) (xC (.int 170141183460469231731687303715884105727)))))
 (sRet (xLst true (aCons (xLc true (fList (xSl false (xVar 0) oNo (oSo (xC (.int 40))))) (gNm 2) [2] (bTest (xOp geD (xCB absD (aCons (xVar 2) aNil)) (xOp powD (xC (.int 10)) (xC (.int 18))))) (xCB absD (aCons (xVar 2) aNil))) (aCons (xVar 1) (aCons (xC (.int 0)) aNil)))))))
theorem sc__law_tank : FnScope N__law_tank ["script"] (defScope s__law_tank) := ⟨rfl, rfl, rfl, by decide +kernel, rfl, by decide +kernel, by decide +kernel⟩
def raw__law_tank : List D → M D := fnD 1 N__law_tank F__law_tank
theorem b__law_tank {P : Program} {w : World} {Γ : Sig} {mg : Str → Option Value} {base : Heap} {fa : Addr} {fd : FuncData} (Fn : Fun Γ.K "_law_tank" "_law_tank" s__law_tank fa fd) (T : Txt Γ mg) :
    FnD P w Γ mg base 1 fa fd ["script"] raw__law_tank := fnD_of Fn sc__law_tank fun cdv A outer s H E hr hgd =>
  have sc := sc__law_tank
  (db_cons (s_set (i := 1) sc.nd rfl (Or.inl rfl) (d_op op_pow g_pow d_int d_int))
 (db_cons (s_for (passes_of rfl) rfl (di_list rfl (d_sl false rfl (d_var 0) o_none (o_some d_int))) (gd_name (i := 2) sc.nd rfl (Or.inl rfl))
 (db_one (s_set (i := 1) sc.nd rfl (Or.inl rfl) (d_op op_mod g_mod (d_op o_add (g_add false) (d_op o_mul (g_mul false) (d_var 1) d_int) (d_var 2)) d_int))))
 (db_one (s_ret (d_lst true (da_cons (d_lc (own := [("cell", 2)]) true rfl sc.nd (di_list rfl (d_sl false rfl (d_var 0) o_none (o_some d_int))) (blkOk_by (by kernel_rfl)) ⟨(go_name 2), fun _ _ _ _ _ => (gd_name (i := 2) sc.nd rfl (Or.inl rfl)), fun _ _ _ _ _ => (ts_one (b_cmp op_ge (g_cmpI _) (d_callB call_abs g_abs (by rfl) T.b_abs (by decide +kernel) (da_cons (d_var 2) da_nil)) (d_op op_pow g_pow d_int d_int))), fun _ _ _ _ _ => (d_callB call_abs g_abs (by rfl) T.b_abs (by decide +kernel) (da_cons (d_var 2) da_nil))⟩ (by decide)) (da_cons (d_var 1) (da_cons d_int da_nil))))))))
abbrev den__law_tank := raw__law_tank
/-! _law_undone -/
abbrev s__law_undone : Stmt := top 25
abbrev N__law_undone : List Str := ["net", "own", "many", "turn"]
def F__law_undone : FS := (sSeq (sFor (fRange1 (aCons (xVar 2) aNil)) (gNm 3)
 (sSeq (sSetI (xVar 1) (xC (.int 0)) (xSl false (xOp ixD (xVar 1) (xC (.int 0))) oNo (oSo (xUn negD (xC (.int 1))))))
 (sIf (bOr (bTest (xOp notND2 (xMeth [(2, den_Net_undo)] (xVar 0) aNil) (xC .non))) (bNot (bTest (xCall den__law_same (aCons (xVar 0) (aCons (xVar 1) aNil))))))
 (sRet (xC (.bl false)))
 sNil)))
 (sRet (xC (.bl true))))
theorem sc__law_undone : FnScope N__law_undone ["net", "own", "many"] (defScope s__law_undone) := ⟨rfl, rfl, rfl, by decide +kernel, rfl, by decide +kernel, by decide +kernel⟩
def raw__law_undone : List D → M D := fnD 3 N__law_undone F__law_undone
theorem b__law_undone {P : Program} {w : World} {Γ : Sig} {mg : Str → Option Value} {base : Heap} {fa : Addr} {fd : FuncData} (Fn : Fun Γ.K "_law_undone" "_law_undone" s__law_undone fa fd) (T : Txt Γ mg)
    (h_Net_undo : MD P w Γ mg base 1 2 "undo" den_Net_undo)
    (h__law_same : FD P w Γ mg base 6 "_law_same" den__law_same) :
    FnD P w Γ mg base 7 fa fd ["net", "own", "many"] raw__law_undone := fnD_of Fn sc__law_undone fun cdv A outer s H E hr hgd =>
  have sc := sc__law_undone
  (db_cons (s_for (passes_of rfl) rfl (di_range1 (by rfl) T.b_range (da_cons (d_var 2) da_nil)) (gd_name (i := 3) sc.nd rfl (Or.inl rfl))
 (db_cons (s_setI (d_sl false rfl (d_ix rfl (d_var 1) d_int) o_none (o_some (d_un un_neg g_neg d_int))) (d_var 1) d_int (pg_sub (d_var 1).pe d_int.pe set_list))
 (db_one (s_if (DW.dt (w_or (b_cmp op_notN g_notN (d_meth0 rfl (mok1 (h_Net_undo.mono (by decide))) hr hgd (takes_of rfl rfl rfl rfl) (d_var 0)) d_non) (w_or1 (b_not (b_val (d_call rfl (h__law_same.mono (by decide)) hr hgd (takes_of rfl rfl rfl rfl) (by rfl) (da_cons (d_var 0) (da_cons (d_var 1) da_nil))))))))
 (db_one (s_ret d_bl))
 db_nil))))
 (db_one (s_ret d_bl)))
abbrev den__law_undone := raw__law_undone
/-! law -/
abbrev s_law : Stmt := top 26
abbrev N_law : List Str := ["script", "tank", "net", "own", "turn", "twin", "mine", "many", "lap", "call"]
def F_law : FS := (sSeq (sAsg (gNm 1) (xCall den__law_tank (aCons (xVar 0) aNil)))
 (sSeq (sPar [2, 3] (aCons (xCall den_Net aNil) (aCons (xCall den__law_blank aNil) aNil)))
 (sSeq (sIf (bNot (bTest (xCall den__law_is_empty (aCons (xVar 2) aNil))))
 (sRet (xC (.bl false)))
 sNil)
 (sSeq (sFor (fRange1 (aCons (xC (.int 100)) aNil)) (gNm 4)
 (sIf (bNot (bTest (xCall den__law_grown (aCons (xVar 1) (aCons (xVar 2) (aCons (xVar 3) (aCons (xCall den__law_sip (aCons (xVar 1) (aCons (xC (.int 5)) aNil))) aNil)))))))
 (sRet (xC (.bl false)))
 sNil))
 (sSeq (sPar [5, 6, 7] (aCons (xMeth [(2, den_Net_twin)] (xVar 2) aNil) (aCons (xLst true (aCons (xOp ixD (xVar 3) (xC (.int 0))) (aCons (xOp ixD (xVar 3) (xC (.int 1))) aNil))) (aCons (xOp subD (xCB lenD (aCons (xOp ixD (xVar 3) (xC (.int 0))) aNil)) (xC (.int 1))) aNil))))
 (sSeq (sIf (bOr (bNot (bTest (xCall den__law_same (aCons (xVar 2) (aCons (xVar 3) aNil))))) (bOr (bNot (bTest (xCall den__law_undone (aCons (xVar 2) (aCons (xVar 3) (aCons (xVar 7) aNil)))))) (bNot (bTest (xCall den__law_is_empty (aCons (xVar 2) aNil))))))
 (sRet (xC (.bl false)))
 sNil)
 (sSeq (sIf (bOr (bNot (bTest (xCall den__law_same (aCons (xVar 5) (aCons (xVar 6) aNil))))) (bOr (bNot (bTest (xCall den__law_undone (aCons (xVar 5) (aCons (xVar 6) (aCons (xVar 7) aNil)))))) (bNot (bTest (xCall den__law_is_empty (aCons (xVar 5) aNil))))))
 (sRet (xC (.bl false)))
 sNil)
 (sSeq (sFor (fRange1 (aCons (xCB min2D (aCons (xCB lenD (aCons (xVar 0) aNil)) (aCons (xC (.int 2)) aNil))) aNil)) (gNm 8)
 (sSeq (sPar [2, 3] (aCons (xCall den_Net aNil) (aCons (xCall den__law_blank aNil) aNil)))
 (sSeq (sFor (fRange1 (aCons (xC (.int 3)) aNil)) (gNm 4)
 (sSeq (sFor (fRange1 (aCons (xOp (addD false) (xC (.int 1)) (xCall den__law_sip (aCons (xVar 1) (aCons (xC (.int 14)) aNil)))) aNil)) (gNm 9)
 (sIf (bNot (bTest (xCall den__law_grown (aCons (xVar 1) (aCons (xVar 2) (aCons (xVar 3) (aCons (xCall den__law_sip (aCons (xVar 1) (aCons (xC (.int 5)) aNil))) aNil)))))))
 (sRet (xC (.bl false)))
 sNil))
 (sIf (bNot (bTest (xCall den__law_undone (aCons (xVar 2) (aCons (xVar 3) (aCons (xCall den__law_sip (aCons (xVar 1) (aCons (xCB lenD (aCons (xOp ixD (xVar 3) (xC (.int 0))) aNil)) aNil))) aNil))))))
 (sRet (xC (.bl false)))
 sNil)))
 (sIf (bOr (bNot (bTest (xCall den__law_undone (aCons (xVar 2) (aCons (xVar 3) (aCons (xOp subD (xCB lenD (aCons (xOp ixD (xVar 3) (xC (.int 0))) aNil)) (xC (.int 1))) aNil)))))) (bNot (bTest (xCall den__law_is_empty (aCons (xVar 2) aNil)))))
 (sRet (xC (.bl false)))
 sNil))))
 (sRet (xC (.bl true)))))))))))
theorem sc_law : FnScope N_law ["script"] (defScope s_law) := ⟨rfl, rfl, rfl, by decide +kernel, rfl, by decide +kernel, by decide +kernel⟩
def raw_law : List D → M D := fnD 1 N_law F_law
theorem b_law {P : Program} {w : World} {Γ : Sig} {mg : Str → Option Value} {base : Heap} {fa : Addr} {fd : FuncData} (Fn : Fun Γ.K "law" "law" s_law fa fd) (T : Txt Γ mg)
    (h_Net_twin : MD P w Γ mg base 3 2 "twin" den_Net_twin)
    (h__law_blank : FD P w Γ mg base 1 "_law_blank" den__law_blank)
    (h__law_grown : FD P w Γ mg base 6 "_law_grown" den__law_grown)
    (h__law_is_empty : FD P w Γ mg base 6 "_law_is_empty" den__law_is_empty)
    (h__law_same : FD P w Γ mg base 6 "_law_same" den__law_same)
    (h__law_sip : FD P w Γ mg base 1 "_law_sip" den__law_sip)
    (h__law_tank : FD P w Γ mg base 1 "_law_tank" den__law_tank)
    (h__law_undone : FD P w Γ mg base 7 "_law_undone" den__law_undone)
    (h_Net : CD P w Γ mg base 1 "Net" den_Net) :
    FnD P w Γ mg base 8 fa fd ["script"] raw_law := fnD_of Fn sc_law fun cdv A outer s H E hr hgd =>
  have sc := sc_law
  (db_cons (s_set (i := 1) sc.nd rfl (Or.inl rfl) (d_call rfl (h__law_tank.mono (by decide)) hr hgd (takes_of rfl rfl rfl rfl) (by rfl) (da_cons (d_var 0) da_nil)))
 (db_cons (s_par2 (i := 2) (j := 3) rfl sc.nd rfl rfl (by decide) rfl rfl (da_cons (d_make0 rfl (h_Net.mono (by decide)) hr hgd (takes_of rfl rfl rfl rfl) (by rfl)) (da_cons (d_call0 rfl (h__law_blank.mono (by decide)) hr hgd (takes_of rfl rfl rfl rfl) (by rfl)) da_nil)))
 (db_cons (s_if (b_not (b_val (d_call rfl (h__law_is_empty.mono (by decide)) hr hgd (takes_of rfl rfl rfl rfl) (by rfl) (da_cons (d_var 2) da_nil))))
 (db_one (s_ret d_bl))
 db_nil)
 (db_cons (s_for (passes_of rfl) rfl (di_range1 (by rfl) T.b_range (da_cons d_int da_nil)) (gd_name (i := 4) sc.nd rfl (Or.inl rfl))
 (db_one (s_if (b_not (b_val (d_call rfl (h__law_grown.mono (by decide)) hr hgd (takes_of rfl rfl rfl rfl) (by rfl) (da_cons (d_var 1) (da_cons (d_var 2) (da_cons (d_var 3) (da_cons (d_call rfl (h__law_sip.mono (by decide)) hr hgd (takes_of rfl rfl rfl rfl) (by rfl) (da_cons (d_var 1) (da_cons d_int da_nil))) da_nil)))))))
 (db_one (s_ret d_bl))
 db_nil)))
 (db_cons (s_par3 (i := 5) (j := 6) (l := 7) rfl sc.nd rfl rfl rfl (by decide) (by decide) (by decide) rfl rfl rfl (da_cons (d_meth0 rfl (mok1 (h_Net_twin.mono (by decide))) hr hgd (takes_of rfl rfl rfl rfl) (d_var 2)) (da_cons (d_lst true (da_cons (d_ix rfl (d_var 3) d_int) (da_cons (d_ix rfl (d_var 3) d_int) da_nil))) (da_cons (d_op op_sub g_sub (d_callB call_len g_len (by rfl) T.b_len (by decide +kernel) (da_cons (d_ix rfl (d_var 3) d_int) da_nil)) d_int) da_nil))))
 (db_cons (s_if (DW.dt (w_or (b_not (b_val (d_call rfl (h__law_same.mono (by decide)) hr hgd (takes_of rfl rfl rfl rfl) (by rfl) (da_cons (d_var 2) (da_cons (d_var 3) da_nil))))) (w_or (b_not (b_val (d_call rfl (h__law_undone.mono (by decide)) hr hgd (takes_of rfl rfl rfl rfl) (by rfl) (da_cons (d_var 2) (da_cons (d_var 3) (da_cons (d_var 7) da_nil)))))) (w_or1 (b_not (b_val (d_call rfl (h__law_is_empty.mono (by decide)) hr hgd (takes_of rfl rfl rfl rfl) (by rfl) (da_cons (d_var 2) da_nil))))))))
 (db_one (s_ret d_bl))
 db_nil)
 (db_cons (s_if (DW.dt (w_or (b_not (b_val (d_call rfl (h__law_same.mono (by decide)) hr hgd (takes_of rfl rfl rfl rfl) (by rfl) (da_cons (d_var 5) (da_cons (d_var 6) da_nil))))) (w_or (b_not (b_val (d_call rfl (h__law_undone.mono (by decide)) hr hgd (takes_of rfl rfl rfl rfl) (by rfl) (da_cons (d_var 5) (da_cons (d_var 6) (da_cons (d_var 7) da_nil)))))) (w_or1 (b_not (b_val (d_call rfl (h__law_is_empty.mono (by decide)) hr hgd (takes_of rfl rfl rfl rfl) (by rfl) (da_cons (d_var 5) da_nil))))))))
 (db_one (s_ret d_bl))
 db_nil)
 (db_cons (s_for (passes_of rfl) rfl (di_range1 (by rfl) T.b_range (da_cons (d_callB (call_min2 rfl) g_min2 (by rfl) T.b_min (by decide +kernel) (da_cons (d_callB call_len g_len (by rfl) T.b_len (by decide +kernel) (da_cons (d_var 0) da_nil)) (da_cons d_int da_nil))) da_nil)) (gd_name (i := 8) sc.nd rfl (Or.inl rfl))
 (db_cons (s_par2 (i := 2) (j := 3) rfl sc.nd rfl rfl (by decide) rfl rfl (da_cons (d_make0 rfl (h_Net.mono (by decide)) hr hgd (takes_of rfl rfl rfl rfl) (by rfl)) (da_cons (d_call0 rfl (h__law_blank.mono (by decide)) hr hgd (takes_of rfl rfl rfl rfl) (by rfl)) da_nil)))
 (db_cons (s_for (passes_of rfl) rfl (di_range1 (by rfl) T.b_range (da_cons d_int da_nil)) (gd_name (i := 4) sc.nd rfl (Or.inl rfl))
 (db_cons (s_for (passes_of rfl) rfl (di_range1 (by rfl) T.b_range (da_cons (d_op o_add (g_add false) d_int (d_call rfl (h__law_sip.mono (by decide)) hr hgd (takes_of rfl rfl rfl rfl) (by rfl) (da_cons (d_var 1) (da_cons d_int da_nil)))) da_nil)) (gd_name (i := 9) sc.nd rfl (Or.inl rfl))
 (db_one (s_if (b_not (b_val (d_call rfl (h__law_grown.mono (by decide)) hr hgd (takes_of rfl rfl rfl rfl) (by rfl) (da_cons (d_var 1) (da_cons (d_var 2) (da_cons (d_var 3) (da_cons (d_call rfl (h__law_sip.mono (by decide)) hr hgd (takes_of rfl rfl rfl rfl) (by rfl) (da_cons (d_var 1) (da_cons d_int da_nil))) da_nil)))))))
 (db_one (s_ret d_bl))
 db_nil)))
 (db_one (s_if (b_not (b_val (d_call rfl (h__law_undone.mono (by decide)) hr hgd (takes_of rfl rfl rfl rfl) (by rfl) (da_cons (d_var 2) (da_cons (d_var 3) (da_cons (d_call rfl (h__law_sip.mono (by decide)) hr hgd (takes_of rfl rfl rfl rfl) (by rfl) (da_cons (d_var 1) (da_cons (d_callB call_len g_len (by rfl) T.b_len (by decide +kernel) (da_cons (d_ix rfl (d_var 3) d_int) da_nil)) da_nil))) da_nil))))))
 (db_one (s_ret d_bl))
 db_nil))))
 (db_one (s_if (DW.dt (w_or (b_not (b_val (d_call rfl (h__law_undone.mono (by decide)) hr hgd (takes_of rfl rfl rfl rfl) (by rfl) (da_cons (d_var 2) (da_cons (d_var 3) (da_cons (d_op op_sub g_sub (d_callB call_len g_len (by rfl) T.b_len (by decide +kernel) (da_cons (d_ix rfl (d_var 3) d_int) da_nil)) d_int) da_nil)))))) (w_or1 (b_not (b_val (d_call rfl (h__law_is_empty.mono (by decide)) hr hgd (takes_of rfl rfl rfl rfl) (by rfl) (da_cons (d_var 2) da_nil)))))))
 (db_one (s_ret d_bl))
 db_nil)))))
 (db_one (s_ret d_bl))))))))))
abbrev den_law := raw_law
/-! the end -/
def clsT (CNet CState CInvalidFixed CInvalidIndex CInvalidLine CInvalidWishes CNothingToUndo : Addr) : Nat → Addr
  | 2 => CNet
  | 1 => CState
  | 23 => CInvalidFixed
  | 24 => CInvalidIndex
  | 21 => CInvalidLine
  | 22 => CInvalidWishes
  | 25 => CNothingToUndo
  | _ => 0
theorem all_mk {P : Program} {w : World} {K : PySem.W.Frag} {h : Heap} {mg : Str → Option Value} {fa CNet CState CInvalidFixed CInvalidIndex CInvalidLine CInvalidWishes CNothingToUndo f_Net__init_ f_Net_twin f__law_blank f_State__init_ f_Net_present f_is_number_from f_Net_add f_Net_drop f_Net_need_line f_Net_fix f_Net_wish f__law_sip f__law_headway f__law_put f__law_grown f_Net_undo f_Net__len_ f_Net_fixed f_Net_lines f_Net_wishes f__law_seen f__law_is_empty f__law_due f__law_same f__law_tank f__law_undone f_law : Addr}
    {od_Net__init_ an_Net__init_ od_Net_twin an_Net_twin od__law_blank an__law_blank od_State__init_ an_State__init_ od_Net_present an_Net_present od_is_number_from an_is_number_from od_Net_add an_Net_add od_Net_drop an_Net_drop od_Net_need_line an_Net_need_line od_Net_fix an_Net_fix od_Net_wish an_Net_wish od__law_sip an__law_sip od__law_headway an__law_headway od__law_put an__law_put od__law_grown an__law_grown od_Net_undo an_Net_undo od_Net__len_ an_Net__len_ od_Net_fixed an_Net_fixed od_Net_lines an_Net_lines od_Net_wishes an_Net_wishes od__law_seen an__law_seen od__law_is_empty an__law_is_empty od__law_due an__law_due od__law_same an__law_same od__law_tank an__law_tank od__law_undone an__law_undone od_law an_law : Option Addr} {sl_Net__init_ sl_Net_twin sl__law_blank sl_State__init_ sl_Net_present sl_is_number_from sl_Net_add sl_Net_drop sl_Net_need_line sl_Net_fix sl_Net_wish sl__law_sip sl__law_headway sl__law_put sl__law_grown sl_Net_undo sl_Net__len_ sl_Net_fixed sl_Net_lines sl_Net_wishes sl__law_seen sl__law_is_empty sl__law_due sl__law_same sl__law_tank sl__law_undone sl_law : Array (Option Value)} {oc_Net__init_ kV_Net__init_ dc_Net__init_ pm_Net__init_ cd_Net__init_ ct_Net__init_ oc_Net_twin kV_Net_twin dc_Net_twin pm_Net_twin cd_Net_twin ct_Net_twin oc__law_blank kV__law_blank dc__law_blank pm__law_blank cd__law_blank ct__law_blank oc_State__init_ kV_State__init_ dc_State__init_ pm_State__init_ cd_State__init_ ct_State__init_ oc_Net_present kV_Net_present dc_Net_present pm_Net_present cd_Net_present ct_Net_present oc_is_number_from kV_is_number_from dc_is_number_from pm_is_number_from cd_is_number_from ct_is_number_from oc_Net_add kV_Net_add dc_Net_add pm_Net_add cd_Net_add ct_Net_add oc_Net_drop kV_Net_drop dc_Net_drop pm_Net_drop cd_Net_drop ct_Net_drop oc_Net_need_line kV_Net_need_line dc_Net_need_line pm_Net_need_line cd_Net_need_line ct_Net_need_line oc_Net_fix kV_Net_fix dc_Net_fix pm_Net_fix cd_Net_fix ct_Net_fix oc_Net_wish kV_Net_wish dc_Net_wish pm_Net_wish cd_Net_wish ct_Net_wish oc__law_sip kV__law_sip dc__law_sip pm__law_sip cd__law_sip ct__law_sip oc__law_headway kV__law_headway dc__law_headway pm__law_headway cd__law_headway ct__law_headway oc__law_put kV__law_put dc__law_put pm__law_put cd__law_put ct__law_put oc__law_grown kV__law_grown dc__law_grown pm__law_grown cd__law_grown ct__law_grown oc_Net_undo kV_Net_undo dc_Net_undo pm_Net_undo cd_Net_undo ct_Net_undo oc_Net__len_ kV_Net__len_ dc_Net__len_ pm_Net__len_ cd_Net__len_ ct_Net__len_ oc_Net_fixed kV_Net_fixed dc_Net_fixed pm_Net_fixed cd_Net_fixed ct_Net_fixed oc_Net_lines kV_Net_lines dc_Net_lines pm_Net_lines cd_Net_lines ct_Net_lines oc_Net_wishes kV_Net_wishes dc_Net_wishes pm_Net_wishes cd_Net_wishes ct_Net_wishes oc__law_seen kV__law_seen dc__law_seen pm__law_seen cd__law_seen ct__law_seen oc__law_is_empty kV__law_is_empty dc__law_is_empty pm__law_is_empty cd__law_is_empty ct__law_is_empty oc__law_due kV__law_due dc__law_due pm__law_due cd__law_due ct__law_due oc__law_same kV__law_same dc__law_same pm__law_same cd__law_same ct__law_same oc__law_tank kV__law_tank dc__law_tank pm__law_tank cd__law_tank ct__law_tank oc__law_undone kV__law_undone dc__law_undone pm__law_undone cd__law_undone ct__law_undone oc_law kV_law dc_law pm_law cd_law ct_law : Value}
    {t_MOST_LINES t_MOST_WISHES : Tok}
    (X : K.In h) (G : h.Ns mainGlobals mg) (hfa : mg "law" = some (.ref fa))
    (aCNet : PySem.W.nsIn K mainGlobals "Net" = some (some (.ref CNet)))
    (aCState : PySem.W.nsIn K mainGlobals "State" = some (some (.ref CState)))
    (aCInvalidFixed : PySem.W.nsIn K mainGlobals "InvalidFixed" = some (some (.ref CInvalidFixed)))
    (aCInvalidIndex : PySem.W.nsIn K mainGlobals "InvalidIndex" = some (some (.ref CInvalidIndex)))
    (aCInvalidLine : PySem.W.nsIn K mainGlobals "InvalidLine" = some (some (.ref CInvalidLine)))
    (aCInvalidWishes : PySem.W.nsIn K mainGlobals "InvalidWishes" = some (some (.ref CInvalidWishes)))
    (aCNothingToUndo : PySem.W.nsIn K mainGlobals "NothingToUndo" = some (some (.ref CNothingToUndo)))
    (a_Net__init_ : PySem.W.findIn K (.ref CNet) "__init__" = some (some (.ref f_Net__init_)))
    (i_Net__init_ : PySem.W.isFn K (.ref f_Net__init_) = true)
    (l_Net__init_ : K.lookup f_Net__init_ = some ⟨oc_Net__init_, od_Net__init_, .func (PySem.W.fnOf "__init__" "Net.__init__" (defArgs s_Net__init_) (defBody s_Net__init_) (defScope s_Net__init_) .none kV_Net__init_ dc_Net__init_ pm_Net__init_ an_Net__init_ cd_Net__init_ ct_Net__init_), sl_Net__init_⟩)
    (c_Net__init_ : PySem.W.codeIn K cd_Net__init_ "Net.__init__" = true)
    (k_Net__init_ : PySem.W.keepIn K (.ref f_Net__init_) = true)
    (a_Net_twin : PySem.W.findIn K (.ref CNet) "twin" = some (some (.ref f_Net_twin)))
    (i_Net_twin : PySem.W.isFn K (.ref f_Net_twin) = true)
    (l_Net_twin : K.lookup f_Net_twin = some ⟨oc_Net_twin, od_Net_twin, .func (PySem.W.fnOf "twin" "Net.twin" (defArgs s_Net_twin) (defBody s_Net_twin) (defScope s_Net_twin) .none kV_Net_twin dc_Net_twin pm_Net_twin an_Net_twin cd_Net_twin ct_Net_twin), sl_Net_twin⟩)
    (c_Net_twin : PySem.W.codeIn K cd_Net_twin "Net.twin" = true)
    (k_Net_twin : PySem.W.keepIn K (.ref f_Net_twin) = true)
    (a__law_blank : PySem.W.nsIn K mainGlobals "_law_blank" = some (some (.ref f__law_blank)))
    (l__law_blank : K.lookup f__law_blank = some ⟨oc__law_blank, od__law_blank, .func (PySem.W.fnOf "_law_blank" "_law_blank" (defArgs s__law_blank) (defBody s__law_blank) (defScope s__law_blank) .none kV__law_blank dc__law_blank pm__law_blank an__law_blank cd__law_blank ct__law_blank), sl__law_blank⟩)
    (c__law_blank : PySem.W.codeIn K cd__law_blank "_law_blank" = true)
    (k__law_blank : PySem.W.keepIn K (.ref f__law_blank) = true)
    (a_State__init_ : PySem.W.findIn K (.ref CState) "__init__" = some (some (.ref f_State__init_)))
    (i_State__init_ : PySem.W.isFn K (.ref f_State__init_) = true)
    (l_State__init_ : K.lookup f_State__init_ = some ⟨oc_State__init_, od_State__init_, .func (PySem.W.fnOf "__init__" "State.__init__" (defArgs s_State__init_) (defBody s_State__init_) (defScope s_State__init_) .none kV_State__init_ dc_State__init_ pm_State__init_ an_State__init_ cd_State__init_ ct_State__init_), sl_State__init_⟩)
    (c_State__init_ : PySem.W.codeIn K cd_State__init_ "State.__init__" = true)
    (k_State__init_ : PySem.W.keepIn K (.ref f_State__init_) = true)
    (a_Net_present : PySem.W.findIn K (.ref CNet) "present" = some (some (.ref f_Net_present)))
    (i_Net_present : PySem.W.isFn K (.ref f_Net_present) = true)
    (l_Net_present : K.lookup f_Net_present = some ⟨oc_Net_present, od_Net_present, .func (PySem.W.fnOf "present" "Net.present" (defArgs s_Net_present) (defBody s_Net_present) (defScope s_Net_present) .none kV_Net_present dc_Net_present pm_Net_present an_Net_present cd_Net_present ct_Net_present), sl_Net_present⟩)
    (c_Net_present : PySem.W.codeIn K cd_Net_present "Net.present" = true)
    (k_Net_present : PySem.W.keepIn K (.ref f_Net_present) = true)
    (a_is_number_from : PySem.W.nsIn K mainGlobals "is_number_from" = some (some (.ref f_is_number_from)))
    (l_is_number_from : K.lookup f_is_number_from = some ⟨oc_is_number_from, od_is_number_from, .func (PySem.W.fnOf "is_number_from" "is_number_from" (defArgs s_is_number_from) (defBody s_is_number_from) (defScope s_is_number_from) .none kV_is_number_from dc_is_number_from pm_is_number_from an_is_number_from cd_is_number_from ct_is_number_from), sl_is_number_from⟩)
    (c_is_number_from : PySem.W.codeIn K cd_is_number_from "is_number_from" = true)
    (k_is_number_from : PySem.W.keepIn K (.ref f_is_number_from) = true)
    (a_Net_add : PySem.W.findIn K (.ref CNet) "add" = some (some (.ref f_Net_add)))
    (i_Net_add : PySem.W.isFn K (.ref f_Net_add) = true)
    (l_Net_add : K.lookup f_Net_add = some ⟨oc_Net_add, od_Net_add, .func (PySem.W.fnOf "add" "Net.add" (defArgs s_Net_add) (defBody s_Net_add) (defScope s_Net_add) .none kV_Net_add dc_Net_add pm_Net_add an_Net_add cd_Net_add ct_Net_add), sl_Net_add⟩)
    (c_Net_add : PySem.W.codeIn K cd_Net_add "Net.add" = true)
    (k_Net_add : PySem.W.keepIn K (.ref f_Net_add) = true)
    (a_Net_drop : PySem.W.findIn K (.ref CNet) "drop" = some (some (.ref f_Net_drop)))
    (i_Net_drop : PySem.W.isFn K (.ref f_Net_drop) = true)
    (l_Net_drop : K.lookup f_Net_drop = some ⟨oc_Net_drop, od_Net_drop, .func (PySem.W.fnOf "drop" "Net.drop" (defArgs s_Net_drop) (defBody s_Net_drop) (defScope s_Net_drop) .none kV_Net_drop dc_Net_drop pm_Net_drop an_Net_drop cd_Net_drop ct_Net_drop), sl_Net_drop⟩)
    (c_Net_drop : PySem.W.codeIn K cd_Net_drop "Net.drop" = true)
    (k_Net_drop : PySem.W.keepIn K (.ref f_Net_drop) = true)
    (a_Net_need_line : PySem.W.findIn K (.ref CNet) "need_line" = some (some (.ref f_Net_need_line)))
    (i_Net_need_line : PySem.W.isFn K (.ref f_Net_need_line) = true)
    (l_Net_need_line : K.lookup f_Net_need_line = some ⟨oc_Net_need_line, od_Net_need_line, .func (PySem.W.fnOf "need_line" "Net.need_line" (defArgs s_Net_need_line) (defBody s_Net_need_line) (defScope s_Net_need_line) .none kV_Net_need_line dc_Net_need_line pm_Net_need_line an_Net_need_line cd_Net_need_line ct_Net_need_line), sl_Net_need_line⟩)
    (c_Net_need_line : PySem.W.codeIn K cd_Net_need_line "Net.need_line" = true)
    (k_Net_need_line : PySem.W.keepIn K (.ref f_Net_need_line) = true)
    (a_Net_fix : PySem.W.findIn K (.ref CNet) "fix" = some (some (.ref f_Net_fix)))
    (i_Net_fix : PySem.W.isFn K (.ref f_Net_fix) = true)
    (l_Net_fix : K.lookup f_Net_fix = some ⟨oc_Net_fix, od_Net_fix, .func (PySem.W.fnOf "fix" "Net.fix" (defArgs s_Net_fix) (defBody s_Net_fix) (defScope s_Net_fix) .none kV_Net_fix dc_Net_fix pm_Net_fix an_Net_fix cd_Net_fix ct_Net_fix), sl_Net_fix⟩)
    (c_Net_fix : PySem.W.codeIn K cd_Net_fix "Net.fix" = true)
    (k_Net_fix : PySem.W.keepIn K (.ref f_Net_fix) = true)
    (a_Net_wish : PySem.W.findIn K (.ref CNet) "wish" = some (some (.ref f_Net_wish)))
    (i_Net_wish : PySem.W.isFn K (.ref f_Net_wish) = true)
    (l_Net_wish : K.lookup f_Net_wish = some ⟨oc_Net_wish, od_Net_wish, .func (PySem.W.fnOf "wish" "Net.wish" (defArgs s_Net_wish) (defBody s_Net_wish) (defScope s_Net_wish) .none kV_Net_wish dc_Net_wish pm_Net_wish an_Net_wish cd_Net_wish ct_Net_wish), sl_Net_wish⟩)
    (c_Net_wish : PySem.W.codeIn K cd_Net_wish "Net.wish" = true)
    (k_Net_wish : PySem.W.keepIn K (.ref f_Net_wish) = true)
    (a__law_sip : PySem.W.nsIn K mainGlobals "_law_sip" = some (some (.ref f__law_sip)))
    (l__law_sip : K.lookup f__law_sip = some ⟨oc__law_sip, od__law_sip, .func (PySem.W.fnOf "_law_sip" "_law_sip" (defArgs s__law_sip) (defBody s__law_sip) (defScope s__law_sip) .none kV__law_sip dc__law_sip pm__law_sip an__law_sip cd__law_sip ct__law_sip), sl__law_sip⟩)
    (c__law_sip : PySem.W.codeIn K cd__law_sip "_law_sip" = true)
    (k__law_sip : PySem.W.keepIn K (.ref f__law_sip) = true)
    (a__law_headway : PySem.W.nsIn K mainGlobals "_law_headway" = some (some (.ref f__law_headway)))
    (l__law_headway : K.lookup f__law_headway = some ⟨oc__law_headway, od__law_headway, .func (PySem.W.fnOf "_law_headway" "_law_headway" (defArgs s__law_headway) (defBody s__law_headway) (defScope s__law_headway) .none kV__law_headway dc__law_headway pm__law_headway an__law_headway cd__law_headway ct__law_headway), sl__law_headway⟩)
    (c__law_headway : PySem.W.codeIn K cd__law_headway "_law_headway" = true)
    (k__law_headway : PySem.W.keepIn K (.ref f__law_headway) = true)
    (a__law_put : PySem.W.nsIn K mainGlobals "_law_put" = some (some (.ref f__law_put)))
    (l__law_put : K.lookup f__law_put = some ⟨oc__law_put, od__law_put, .func (PySem.W.fnOf "_law_put" "_law_put" (defArgs s__law_put) (defBody s__law_put) (defScope s__law_put) .none kV__law_put dc__law_put pm__law_put an__law_put cd__law_put ct__law_put), sl__law_put⟩)
    (c__law_put : PySem.W.codeIn K cd__law_put "_law_put" = true)
    (k__law_put : PySem.W.keepIn K (.ref f__law_put) = true)
    (a__law_grown : PySem.W.nsIn K mainGlobals "_law_grown" = some (some (.ref f__law_grown)))
    (l__law_grown : K.lookup f__law_grown = some ⟨oc__law_grown, od__law_grown, .func (PySem.W.fnOf "_law_grown" "_law_grown" (defArgs s__law_grown) (defBody s__law_grown) (defScope s__law_grown) .none kV__law_grown dc__law_grown pm__law_grown an__law_grown cd__law_grown ct__law_grown), sl__law_grown⟩)
    (c__law_grown : PySem.W.codeIn K cd__law_grown "_law_grown" = true)
    (k__law_grown : PySem.W.keepIn K (.ref f__law_grown) = true)
    (a_Net_undo : PySem.W.findIn K (.ref CNet) "undo" = some (some (.ref f_Net_undo)))
    (i_Net_undo : PySem.W.isFn K (.ref f_Net_undo) = true)
    (l_Net_undo : K.lookup f_Net_undo = some ⟨oc_Net_undo, od_Net_undo, .func (PySem.W.fnOf "undo" "Net.undo" (defArgs s_Net_undo) (defBody s_Net_undo) (defScope s_Net_undo) .none kV_Net_undo dc_Net_undo pm_Net_undo an_Net_undo cd_Net_undo ct_Net_undo), sl_Net_undo⟩)
    (c_Net_undo : PySem.W.codeIn K cd_Net_undo "Net.undo" = true)
    (k_Net_undo : PySem.W.keepIn K (.ref f_Net_undo) = true)
    (a_Net__len_ : PySem.W.findIn K (.ref CNet) "__len__" = some (some (.ref f_Net__len_)))
    (i_Net__len_ : PySem.W.isFn K (.ref f_Net__len_) = true)
    (l_Net__len_ : K.lookup f_Net__len_ = some ⟨oc_Net__len_, od_Net__len_, .func (PySem.W.fnOf "__len__" "Net.__len__" (defArgs s_Net__len_) (defBody s_Net__len_) (defScope s_Net__len_) .none kV_Net__len_ dc_Net__len_ pm_Net__len_ an_Net__len_ cd_Net__len_ ct_Net__len_), sl_Net__len_⟩)
    (c_Net__len_ : PySem.W.codeIn K cd_Net__len_ "Net.__len__" = true)
    (k_Net__len_ : PySem.W.keepIn K (.ref f_Net__len_) = true)
    (a_Net_fixed : PySem.W.findIn K (.ref CNet) "fixed" = some (some (.ref f_Net_fixed)))
    (i_Net_fixed : PySem.W.isFn K (.ref f_Net_fixed) = true)
    (l_Net_fixed : K.lookup f_Net_fixed = some ⟨oc_Net_fixed, od_Net_fixed, .func (PySem.W.fnOf "fixed" "Net.fixed" (defArgs s_Net_fixed) (defBody s_Net_fixed) (defScope s_Net_fixed) .none kV_Net_fixed dc_Net_fixed pm_Net_fixed an_Net_fixed cd_Net_fixed ct_Net_fixed), sl_Net_fixed⟩)
    (c_Net_fixed : PySem.W.codeIn K cd_Net_fixed "Net.fixed" = true)
    (k_Net_fixed : PySem.W.keepIn K (.ref f_Net_fixed) = true)
    (a_Net_lines : PySem.W.findIn K (.ref CNet) "lines" = some (some (.ref f_Net_lines)))
    (i_Net_lines : PySem.W.isFn K (.ref f_Net_lines) = true)
    (l_Net_lines : K.lookup f_Net_lines = some ⟨oc_Net_lines, od_Net_lines, .func (PySem.W.fnOf "lines" "Net.lines" (defArgs s_Net_lines) (defBody s_Net_lines) (defScope s_Net_lines) .none kV_Net_lines dc_Net_lines pm_Net_lines an_Net_lines cd_Net_lines ct_Net_lines), sl_Net_lines⟩)
    (c_Net_lines : PySem.W.codeIn K cd_Net_lines "Net.lines" = true)
    (k_Net_lines : PySem.W.keepIn K (.ref f_Net_lines) = true)
    (a_Net_wishes : PySem.W.findIn K (.ref CNet) "wishes" = some (some (.ref f_Net_wishes)))
    (i_Net_wishes : PySem.W.isFn K (.ref f_Net_wishes) = true)
    (l_Net_wishes : K.lookup f_Net_wishes = some ⟨oc_Net_wishes, od_Net_wishes, .func (PySem.W.fnOf "wishes" "Net.wishes" (defArgs s_Net_wishes) (defBody s_Net_wishes) (defScope s_Net_wishes) .none kV_Net_wishes dc_Net_wishes pm_Net_wishes an_Net_wishes cd_Net_wishes ct_Net_wishes), sl_Net_wishes⟩)
    (c_Net_wishes : PySem.W.codeIn K cd_Net_wishes "Net.wishes" = true)
    (k_Net_wishes : PySem.W.keepIn K (.ref f_Net_wishes) = true)
    (a__law_seen : PySem.W.nsIn K mainGlobals "_law_seen" = some (some (.ref f__law_seen)))
    (l__law_seen : K.lookup f__law_seen = some ⟨oc__law_seen, od__law_seen, .func (PySem.W.fnOf "_law_seen" "_law_seen" (defArgs s__law_seen) (defBody s__law_seen) (defScope s__law_seen) .none kV__law_seen dc__law_seen pm__law_seen an__law_seen cd__law_seen ct__law_seen), sl__law_seen⟩)
    (c__law_seen : PySem.W.codeIn K cd__law_seen "_law_seen" = true)
    (k__law_seen : PySem.W.keepIn K (.ref f__law_seen) = true)
    (a__law_is_empty : PySem.W.nsIn K mainGlobals "_law_is_empty" = some (some (.ref f__law_is_empty)))
    (l__law_is_empty : K.lookup f__law_is_empty = some ⟨oc__law_is_empty, od__law_is_empty, .func (PySem.W.fnOf "_law_is_empty" "_law_is_empty" (defArgs s__law_is_empty) (defBody s__law_is_empty) (defScope s__law_is_empty) .none kV__law_is_empty dc__law_is_empty pm__law_is_empty an__law_is_empty cd__law_is_empty ct__law_is_empty), sl__law_is_empty⟩)
    (c__law_is_empty : PySem.W.codeIn K cd__law_is_empty "_law_is_empty" = true)
    (k__law_is_empty : PySem.W.keepIn K (.ref f__law_is_empty) = true)
    (a__law_due : PySem.W.nsIn K mainGlobals "_law_due" = some (some (.ref f__law_due)))
    (l__law_due : K.lookup f__law_due = some ⟨oc__law_due, od__law_due, .func (PySem.W.fnOf "_law_due" "_law_due" (defArgs s__law_due) (defBody s__law_due) (defScope s__law_due) .none kV__law_due dc__law_due pm__law_due an__law_due cd__law_due ct__law_due), sl__law_due⟩)
    (c__law_due : PySem.W.codeIn K cd__law_due "_law_due" = true)
    (k__law_due : PySem.W.keepIn K (.ref f__law_due) = true)
    (a__law_same : PySem.W.nsIn K mainGlobals "_law_same" = some (some (.ref f__law_same)))
    (l__law_same : K.lookup f__law_same = some ⟨oc__law_same, od__law_same, .func (PySem.W.fnOf "_law_same" "_law_same" (defArgs s__law_same) (defBody s__law_same) (defScope s__law_same) .none kV__law_same dc__law_same pm__law_same an__law_same cd__law_same ct__law_same), sl__law_same⟩)
    (c__law_same : PySem.W.codeIn K cd__law_same "_law_same" = true)
    (k__law_same : PySem.W.keepIn K (.ref f__law_same) = true)
    (a__law_tank : PySem.W.nsIn K mainGlobals "_law_tank" = some (some (.ref f__law_tank)))
    (l__law_tank : K.lookup f__law_tank = some ⟨oc__law_tank, od__law_tank, .func (PySem.W.fnOf "_law_tank" "_law_tank" (defArgs s__law_tank) (defBody s__law_tank) (defScope s__law_tank) .none kV__law_tank dc__law_tank pm__law_tank an__law_tank cd__law_tank ct__law_tank), sl__law_tank⟩)
    (c__law_tank : PySem.W.codeIn K cd__law_tank "_law_tank" = true)
    (k__law_tank : PySem.W.keepIn K (.ref f__law_tank) = true)
    (a__law_undone : PySem.W.nsIn K mainGlobals "_law_undone" = some (some (.ref f__law_undone)))
    (l__law_undone : K.lookup f__law_undone = some ⟨oc__law_undone, od__law_undone, .func (PySem.W.fnOf "_law_undone" "_law_undone" (defArgs s__law_undone) (defBody s__law_undone) (defScope s__law_undone) .none kV__law_undone dc__law_undone pm__law_undone an__law_undone cd__law_undone ct__law_undone), sl__law_undone⟩)
    (c__law_undone : PySem.W.codeIn K cd__law_undone "_law_undone" = true)
    (k__law_undone : PySem.W.keepIn K (.ref f__law_undone) = true)
    (a_law : PySem.W.nsIn K mainGlobals "law" = some (some (.ref f_law)))
    (l_law : K.lookup f_law = some ⟨oc_law, od_law, .func (PySem.W.fnOf "law" "law" (defArgs s_law) (defBody s_law) (defScope s_law) .none kV_law dc_law pm_law an_law cd_law ct_law), sl_law⟩)
    (c_law : PySem.W.codeIn K cd_law "law" = true)
    (k_law : PySem.W.keepIn K (.ref f_law) = true)
    (pg_Net : PySem.W.plainGet K CNet Str.empty = true)
    (hd_Net : PySem.W.hasDictIn K CNet = true)
    (po_Net : PySem.W.plainOver K CNet = true)
    (sa_Net : PySem.W.findIn K (.ref CNet) "__setattr__" = some (some (.builtin "object.__setattr__")))
    (mk_Net : PySem.W.makesIn K CNet = true)
    (kc_Net : PySem.W.keepIn K (.ref CNet) = true)
    (pg_State : PySem.W.plainGet K CState Str.empty = true)
    (hd_State : PySem.W.hasDictIn K CState = true)
    (po_State : PySem.W.plainOver K CState = true)
    (sa_State : PySem.W.findIn K (.ref CState) "__setattr__" = some (some (.builtin "object.__setattr__")))
    (mk_State : PySem.W.makesIn K CState = true)
    (kc_State : PySem.W.keepIn K (.ref CState) = true)
    (n_states_Net : PySem.W.findIn K (.ref CNet) "states" = some none)
    (n_marks_Net : PySem.W.findIn K (.ref CNet) "marks" = some none)
    (n_all_lines_State : PySem.W.findIn K (.ref CState) "all_lines" = some none)
    (n_all_wishes_State : PySem.W.findIn K (.ref CState) "all_wishes" = some none)
    (n_all_fixed_State : PySem.W.findIn K (.ref CState) "all_fixed" = some none)
    (z_abs : PySem.W.nsIn K mainGlobals "abs" = some none)
    (z_all : PySem.W.nsIn K mainGlobals "all" = some none)
    (z_bool : PySem.W.nsIn K mainGlobals "bool" = some none)
    (z_int : PySem.W.nsIn K mainGlobals "int" = some none)
    (z_isinstance : PySem.W.nsIn K mainGlobals "isinstance" = some none)
    (z_len : PySem.W.nsIn K mainGlobals "len" = some none)
    (z_list : PySem.W.nsIn K mainGlobals "list" = some none)
    (z_min : PySem.W.nsIn K mainGlobals "min" = some none)
    (z_range : PySem.W.nsIn K mainGlobals "range" = some none)
    (z_repr : PySem.W.nsIn K mainGlobals "repr" = some none)
    (v_MOST_LINES : PySem.W.nsIn K mainGlobals "MOST_LINES" = some (some (.int 40 t_MOST_LINES)))
    (v_MOST_WISHES : PySem.W.nsIn K mainGlobals "MOST_WISHES" = some (some (.int 80 t_MOST_WISHES)))
    (x1_InvalidFixed : PySem.W.excIn K CInvalidFixed [.type "ValueError", .type "Exception", .type "BaseException", .type "object"] "ValueError.__new__" = true)
    (x2_InvalidFixed : PySem.W.keepIn K (.ref CInvalidFixed) = true)
    (x3_InvalidFixed : PySem.W.subIn K (.ref CInvalidFixed) (.type "BaseException") = some true)
    (x4_InvalidFixed : PySem.W.typeIn K (.ref CInvalidFixed) = some (.type "type"))
    (x1_InvalidIndex : PySem.W.excIn K CInvalidIndex [.type "ValueError", .type "Exception", .type "BaseException", .type "object"] "ValueError.__new__" = true)
    (x2_InvalidIndex : PySem.W.keepIn K (.ref CInvalidIndex) = true)
    (x3_InvalidIndex : PySem.W.subIn K (.ref CInvalidIndex) (.type "BaseException") = some true)
    (x4_InvalidIndex : PySem.W.typeIn K (.ref CInvalidIndex) = some (.type "type"))
    (x1_InvalidLine : PySem.W.excIn K CInvalidLine [.type "ValueError", .type "Exception", .type "BaseException", .type "object"] "ValueError.__new__" = true)
    (x2_InvalidLine : PySem.W.keepIn K (.ref CInvalidLine) = true)
    (x3_InvalidLine : PySem.W.subIn K (.ref CInvalidLine) (.type "BaseException") = some true)
    (x4_InvalidLine : PySem.W.typeIn K (.ref CInvalidLine) = some (.type "type"))
    (x1_InvalidWishes : PySem.W.excIn K CInvalidWishes [.type "ValueError", .type "Exception", .type "BaseException", .type "object"] "ValueError.__new__" = true)
    (x2_InvalidWishes : PySem.W.keepIn K (.ref CInvalidWishes) = true)
    (x3_InvalidWishes : PySem.W.subIn K (.ref CInvalidWishes) (.type "BaseException") = some true)
    (x4_InvalidWishes : PySem.W.typeIn K (.ref CInvalidWishes) = some (.type "type"))
    (x1_NothingToUndo : PySem.W.excIn K CNothingToUndo [.type "ValueError", .type "Exception", .type "BaseException", .type "object"] "ValueError.__new__" = true)
    (x2_NothingToUndo : PySem.W.keepIn K (.ref CNothingToUndo) = true)
    (x3_NothingToUndo : PySem.W.subIn K (.ref CNothingToUndo) (.type "BaseException") = some true)
    (x4_NothingToUndo : PySem.W.typeIn K (.ref CNothingToUndo) = some (.type "type"))
    (y_NothingToUndo : PySem.W.isClsIn K CNothingToUndo = true)
    (s_InvalidFixed_NothingToUndo : PySem.W.subIn K (.ref CInvalidFixed) (.ref CNothingToUndo) = some false)
    (s_InvalidIndex_NothingToUndo : PySem.W.subIn K (.ref CInvalidIndex) (.ref CNothingToUndo) = some false)
    (s_InvalidLine_NothingToUndo : PySem.W.subIn K (.ref CInvalidLine) (.ref CNothingToUndo) = some false)
    (s_InvalidWishes_NothingToUndo : PySem.W.subIn K (.ref CInvalidWishes) (.ref CNothingToUndo) = some false)
    (s_NothingToUndo_NothingToUndo : PySem.W.subIn K (.ref CNothingToUndo) (.ref CNothingToUndo) = some true)
    : ∃ (Γ : Sig) (fd : FuncData), Γ.K = K ∧ (∀ (s : Shared) (u : Value), BindsTo s fd ⟨[u], []⟩ [("script", u)]) ∧ ∀ base : Heap, Γ.K.In base → base.Ns mainGlobals mg → FnD P w Γ mg base 8 fa fd ["script"] den_law := by
  have e := hfa.symm.trans (PySem.W.mg_of X G a_law)
  cases e
  let Γ : Sig := ⟨K, clsT CNet CState CInvalidFixed CInvalidIndex CInvalidLine CInvalidWishes CNothingToUndo, fldT⟩
  have cl_Net : Cls K CNet := ⟨pg_Net, hd_Net, po_Net, sa_Net⟩
  have cl_State : Cls K CState := ⟨pg_State, hd_State, po_State, sa_State⟩
  have T : Txt Γ mg := {
    fl := rfl,
    b_abs := PySem.W.mg_none_of X G z_abs,
    b_all := PySem.W.mg_none_of X G z_all,
    b_bool := PySem.W.mg_none_of X G z_bool,
    b_int := PySem.W.mg_none_of X G z_int,
    b_isinstance := PySem.W.mg_none_of X G z_isinstance,
    b_len := PySem.W.mg_none_of X G z_len,
    b_list := PySem.W.mg_none_of X G z_list,
    b_min := PySem.W.mg_none_of X G z_min,
    b_range := PySem.W.mg_none_of X G z_range,
    b_repr := PySem.W.mg_none_of X G z_repr,
    c_MOST_LINES := ⟨_, PySem.W.mg_of X G v_MOST_LINES⟩,
    c_MOST_WISHES := ⟨_, PySem.W.mg_of X G v_MOST_WISHES⟩,
    f_states := (FldOk.cons (Γ := Γ) (c := 2) rfl (show (fldT 2).Nodup by decide +kernel) (show (fldT 2).length < 1000 by decide) cl_Net n_states_Net FldOk.nil),
    f_marks := (FldOk.cons (Γ := Γ) (c := 2) rfl (show (fldT 2).Nodup by decide +kernel) (show (fldT 2).length < 1000 by decide) cl_Net n_marks_Net FldOk.nil),
    f_all_lines := (FldOk.cons (Γ := Γ) (c := 1) rfl (show (fldT 1).Nodup by decide +kernel) (show (fldT 1).length < 1000 by decide) cl_State n_all_lines_State FldOk.nil),
    f_all_wishes := (FldOk.cons (Γ := Γ) (c := 1) rfl (show (fldT 1).Nodup by decide +kernel) (show (fldT 1).length < 1000 by decide) cl_State n_all_wishes_State FldOk.nil),
    f_all_fixed := (FldOk.cons (Γ := Γ) (c := 1) rfl (show (fldT 1).Nodup by decide +kernel) (show (fldT 1).length < 1000 by decide) cl_State n_all_fixed_State FldOk.nil),
    e_InvalidFixed := ⟨PySem.W.mg_of X G aCInvalidFixed, x1_InvalidFixed, x2_InvalidFixed, x3_InvalidFixed, x4_InvalidFixed⟩,
    e_InvalidIndex := ⟨PySem.W.mg_of X G aCInvalidIndex, x1_InvalidIndex, x2_InvalidIndex, x3_InvalidIndex, x4_InvalidIndex⟩,
    e_InvalidLine := ⟨PySem.W.mg_of X G aCInvalidLine, x1_InvalidLine, x2_InvalidLine, x3_InvalidLine, x4_InvalidLine⟩,
    e_InvalidWishes := ⟨PySem.W.mg_of X G aCInvalidWishes, x1_InvalidWishes, x2_InvalidWishes, x3_InvalidWishes, x4_InvalidWishes⟩,
    e_NothingToUndo := ⟨PySem.W.mg_of X G aCNothingToUndo, x1_NothingToUndo, x2_NothingToUndo, x3_NothingToUndo, x4_NothingToUndo⟩,
    h_NothingToUndo := (catch_cons (exm_sub x3_NothingToUndo y_NothingToUndo x4_NothingToUndo s_InvalidFixed_NothingToUndo) (catch_cons (exm_sub x3_NothingToUndo y_NothingToUndo x4_NothingToUndo s_InvalidIndex_NothingToUndo) (catch_cons (exm_sub x3_NothingToUndo y_NothingToUndo x4_NothingToUndo s_InvalidLine_NothingToUndo) (catch_cons (exm_sub x3_NothingToUndo y_NothingToUndo x4_NothingToUndo s_InvalidWishes_NothingToUndo) (catch_cons (exm_sub x3_NothingToUndo y_NothingToUndo x4_NothingToUndo s_NothingToUndo_NothingToUndo) catch_nil))))) }
  have F_Net__init_ : L2.Fun Γ.K "__init__" "Net.__init__" s_Net__init_ _ _ := fun_mk (st := s_Net__init_) l_Net__init_ c_Net__init_ k_Net__init_
  have F_Net_twin : L2.Fun Γ.K "twin" "Net.twin" s_Net_twin _ _ := fun_mk (st := s_Net_twin) l_Net_twin c_Net_twin k_Net_twin
  have F__law_blank : L2.Fun Γ.K "_law_blank" "_law_blank" s__law_blank _ _ := fun_mk (st := s__law_blank) l__law_blank c__law_blank k__law_blank
  have F_State__init_ : L2.Fun Γ.K "__init__" "State.__init__" s_State__init_ _ _ := fun_mk (st := s_State__init_) l_State__init_ c_State__init_ k_State__init_
  have F_Net_present : L2.Fun Γ.K "present" "Net.present" s_Net_present _ _ := fun_mk (st := s_Net_present) l_Net_present c_Net_present k_Net_present
  have F_is_number_from : L2.Fun Γ.K "is_number_from" "is_number_from" s_is_number_from _ _ := fun_mk (st := s_is_number_from) l_is_number_from c_is_number_from k_is_number_from
  have F_Net_add : L2.Fun Γ.K "add" "Net.add" s_Net_add _ _ := fun_mk (st := s_Net_add) l_Net_add c_Net_add k_Net_add
  have F_Net_drop : L2.Fun Γ.K "drop" "Net.drop" s_Net_drop _ _ := fun_mk (st := s_Net_drop) l_Net_drop c_Net_drop k_Net_drop
  have F_Net_need_line : L2.Fun Γ.K "need_line" "Net.need_line" s_Net_need_line _ _ := fun_mk (st := s_Net_need_line) l_Net_need_line c_Net_need_line k_Net_need_line
  have F_Net_fix : L2.Fun Γ.K "fix" "Net.fix" s_Net_fix _ _ := fun_mk (st := s_Net_fix) l_Net_fix c_Net_fix k_Net_fix
  have F_Net_wish : L2.Fun Γ.K "wish" "Net.wish" s_Net_wish _ _ := fun_mk (st := s_Net_wish) l_Net_wish c_Net_wish k_Net_wish
  have F__law_sip : L2.Fun Γ.K "_law_sip" "_law_sip" s__law_sip _ _ := fun_mk (st := s__law_sip) l__law_sip c__law_sip k__law_sip
  have F__law_headway : L2.Fun Γ.K "_law_headway" "_law_headway" s__law_headway _ _ := fun_mk (st := s__law_headway) l__law_headway c__law_headway k__law_headway
  have F__law_put : L2.Fun Γ.K "_law_put" "_law_put" s__law_put _ _ := fun_mk (st := s__law_put) l__law_put c__law_put k__law_put
  have F__law_grown : L2.Fun Γ.K "_law_grown" "_law_grown" s__law_grown _ _ := fun_mk (st := s__law_grown) l__law_grown c__law_grown k__law_grown
  have F_Net_undo : L2.Fun Γ.K "undo" "Net.undo" s_Net_undo _ _ := fun_mk (st := s_Net_undo) l_Net_undo c_Net_undo k_Net_undo
  have F_Net__len_ : L2.Fun Γ.K "__len__" "Net.__len__" s_Net__len_ _ _ := fun_mk (st := s_Net__len_) l_Net__len_ c_Net__len_ k_Net__len_
  have F_Net_fixed : L2.Fun Γ.K "fixed" "Net.fixed" s_Net_fixed _ _ := fun_mk (st := s_Net_fixed) l_Net_fixed c_Net_fixed k_Net_fixed
  have F_Net_lines : L2.Fun Γ.K "lines" "Net.lines" s_Net_lines _ _ := fun_mk (st := s_Net_lines) l_Net_lines c_Net_lines k_Net_lines
  have F_Net_wishes : L2.Fun Γ.K "wishes" "Net.wishes" s_Net_wishes _ _ := fun_mk (st := s_Net_wishes) l_Net_wishes c_Net_wishes k_Net_wishes
  have F__law_seen : L2.Fun Γ.K "_law_seen" "_law_seen" s__law_seen _ _ := fun_mk (st := s__law_seen) l__law_seen c__law_seen k__law_seen
  have F__law_is_empty : L2.Fun Γ.K "_law_is_empty" "_law_is_empty" s__law_is_empty _ _ := fun_mk (st := s__law_is_empty) l__law_is_empty c__law_is_empty k__law_is_empty
  have F__law_due : L2.Fun Γ.K "_law_due" "_law_due" s__law_due _ _ := fun_mk (st := s__law_due) l__law_due c__law_due k__law_due
  have F__law_same : L2.Fun Γ.K "_law_same" "_law_same" s__law_same _ _ := fun_mk (st := s__law_same) l__law_same c__law_same k__law_same
  have F__law_tank : L2.Fun Γ.K "_law_tank" "_law_tank" s__law_tank _ _ := fun_mk (st := s__law_tank) l__law_tank c__law_tank k__law_tank
  have F__law_undone : L2.Fun Γ.K "_law_undone" "_law_undone" s__law_undone _ _ := fun_mk (st := s__law_undone) l__law_undone c__law_undone k__law_undone
  have F_law : L2.Fun Γ.K "law" "law" s_law _ _ := fun_mk (st := s_law) l_law c_law k_law
  have bd_Net__init_ := F_Net__init_.binds (ps := ["self"]) fun _ _ _ _ _ _ us hl => match us, hl with | [_], _ => rfl
  have bd_Net_twin := F_Net_twin.binds (ps := ["self"]) fun _ _ _ _ _ _ us hl => match us, hl with | [_], _ => rfl
  have bd__law_blank := F__law_blank.binds (ps := []) fun _ _ _ _ _ _ us hl => match us, hl with | [], _ => rfl
  have bd_State__init_ := F_State__init_.binds (ps := ["self", "lines", "wishes", "fixed"]) fun _ _ _ _ _ _ us hl => match us, hl with | [_, _, _, _], _ => rfl
  have bd_Net_present := F_Net_present.binds (ps := ["self"]) fun _ _ _ _ _ _ us hl => match us, hl with | [_], _ => rfl
  have bd_is_number_from := F_is_number_from.binds (ps := ["thing", "least"]) fun _ _ _ _ _ _ us hl => match us, hl with | [_, _], _ => rfl
  have bd_Net_add := F_Net_add.binds (ps := ["self", "every", "ride"]) fun _ _ _ _ _ _ us hl => match us, hl with | [_, _, _], _ => rfl
  have bd_Net_drop := F_Net_drop.binds (ps := ["self", "index"]) fun _ _ _ _ _ _ us hl => match us, hl with | [_, _], _ => rfl
  have bd_Net_need_line := F_Net_need_line.binds (ps := ["self", "index"]) fun _ _ _ _ _ _ us hl => match us, hl with | [_, _], _ => rfl
  have bd_Net_fix := F_Net_fix.binds (ps := ["self", "i", "at"]) fun _ _ _ _ _ _ us hl => match us, hl with | [_, _, _], _ => rfl
  have bd_Net_wish := F_Net_wish.binds (ps := ["self", "i", "j", "walk"]) fun _ _ _ _ _ _ us hl => match us, hl with | [_, _, _, _], _ => rfl
  have bd__law_sip := F__law_sip.binds (ps := ["tank", "many"]) fun _ _ _ _ _ _ us hl => match us, hl with | [_, _], _ => rfl
  have bd__law_headway := F__law_headway.binds (ps := ["tank", "some"]) fun _ _ _ _ _ _ us hl => match us, hl with | [_, _], _ => rfl
  have bd__law_put := F__law_put.binds (ps := ["own", "some", "wants", "fast"]) fun _ _ _ _ _ _ us hl => match us, hl with | [_, _, _, _], _ => rfl
  have bd__law_grown := F__law_grown.binds (ps := ["tank", "net", "own", "way"]) fun _ _ _ _ _ _ us hl => match us, hl with | [_, _, _, _], _ => rfl
  have bd_Net_undo := F_Net_undo.binds (ps := ["self"]) fun _ _ _ _ _ _ us hl => match us, hl with | [_], _ => rfl
  have bd_Net__len_ := F_Net__len_.binds (ps := ["self"]) fun _ _ _ _ _ _ us hl => match us, hl with | [_], _ => rfl
  have bd_Net_fixed := F_Net_fixed.binds (ps := ["self"]) fun _ _ _ _ _ _ us hl => match us, hl with | [_], _ => rfl
  have bd_Net_lines := F_Net_lines.binds (ps := ["self"]) fun _ _ _ _ _ _ us hl => match us, hl with | [_], _ => rfl
  have bd_Net_wishes := F_Net_wishes.binds (ps := ["self"]) fun _ _ _ _ _ _ us hl => match us, hl with | [_], _ => rfl
  have bd__law_seen := F__law_seen.binds (ps := ["net"]) fun _ _ _ _ _ _ us hl => match us, hl with | [_], _ => rfl
  have bd__law_is_empty := F__law_is_empty.binds (ps := ["net"]) fun _ _ _ _ _ _ us hl => match us, hl with | [_], _ => rfl
  have bd__law_due := F__law_due.binds (ps := ["own"]) fun _ _ _ _ _ _ us hl => match us, hl with | [_], _ => rfl
  have bd__law_same := F__law_same.binds (ps := ["net", "own"]) fun _ _ _ _ _ _ us hl => match us, hl with | [_, _], _ => rfl
  have bd__law_tank := F__law_tank.binds (ps := ["script"]) fun _ _ _ _ _ _ us hl => match us, hl with | [_], _ => rfl
  have bd__law_undone := F__law_undone.binds (ps := ["net", "own", "many"]) fun _ _ _ _ _ _ us hl => match us, hl with | [_, _, _], _ => rfl
  refine ⟨Γ, PySem.W.fnOf "law" "law" (defArgs s_law) (defBody s_law) (defScope s_law) .none kV_law dc_law pm_law an_law cd_law ct_law, rfl, fun s u => .of_eq rfl, fun base kb nb => ?_⟩
  have n_Net__init_ := b_Net__init_ (P := P) (w := w) (base := base) F_Net__init_ T 
  have h_Net : CD P w Γ mg base 1 "Net" den_Net := ⟨2, _, _, _, _, PySem.W.mg_of X G aCNet, ⟨mk_Net, a_Net__init_, i_Net__init_, kc_Net⟩, n_Net__init_, bd_Net__init_, (fun _ _ => .same _)⟩
  have n_Net_twin := b_Net_twin (P := P) (w := w) (base := base) F_Net_twin T h_Net
  have h_Net_twin : MD P w Γ mg base 3 2 "twin" den_Net_twin := ⟨_, _, _, cl_Net, ⟨a_Net_twin, i_Net_twin, k_Net_twin⟩, n_Net_twin, bd_Net_twin, (show ("twin" : Str) ∉ fldT 2 by decide +kernel)⟩
  have n__law_blank := b__law_blank (P := P) (w := w) (base := base) F__law_blank T 
  have h__law_blank : FD P w Γ mg base 1 "_law_blank" den__law_blank := ⟨_, _, _, PySem.W.mg_of X G a__law_blank, F__law_blank.kp, n__law_blank, bd__law_blank⟩
  have n_State__init_ := b_State__init_ (P := P) (w := w) (base := base) F_State__init_ T 
  have nh_State__init_ := bh_State__init_ (P := P) (w := w) (base := base) F_State__init_ T 
  have hh_State : CDH P w Γ mg base 1 "State" den_State := ⟨1, _, _, _, _, PySem.W.mg_of X G aCState, ⟨mk_State, a_State__init_, i_State__init_, kc_State⟩, nh_State__init_, bd_State__init_, (ref_State rfl)⟩
  have h_State : CD P w Γ mg base 1 "State" den_State := ⟨1, _, _, _, _, PySem.W.mg_of X G aCState, ⟨mk_State, a_State__init_, i_State__init_, kc_State⟩, n_State__init_, bd_State__init_, (ref_State rfl)⟩
  have n_Net_present := b_Net_present (P := P) (w := w) (base := base) F_Net_present T h_State
  have nh_Net_present := bh_Net_present (P := P) (w := w) (base := base) F_Net_present T hh_State
  have hh_Net_present : MDH P w Γ mg base 3 2 "present" den_Net_present := ⟨_, _, _, cl_Net, ⟨a_Net_present, i_Net_present, k_Net_present⟩, nh_Net_present, bd_Net_present, (show ("present" : Str) ∉ fldT 2 by decide +kernel)⟩
  have h_Net_present : MD P w Γ mg base 3 2 "present" den_Net_present := ⟨_, _, _, cl_Net, ⟨a_Net_present, i_Net_present, k_Net_present⟩, n_Net_present, bd_Net_present, (show ("present" : Str) ∉ fldT 2 by decide +kernel)⟩
  have n_is_number_from := b_is_number_from (P := P) (w := w) (base := base) F_is_number_from T 
  have h_is_number_from : FD P w Γ mg base 1 "is_number_from" den_is_number_from := ⟨_, _, _, PySem.W.mg_of X G a_is_number_from, F_is_number_from.kp, n_is_number_from, bd_is_number_from⟩
  have n_Net_add := b_Net_add (P := P) (w := w) (base := base) F_Net_add T h_Net_present h_State h_is_number_from
  have h_Net_add : MD P w Γ mg base 4 2 "add" den_Net_add := ⟨_, _, _, cl_Net, ⟨a_Net_add, i_Net_add, k_Net_add⟩, n_Net_add, bd_Net_add, (show ("add" : Str) ∉ fldT 2 by decide +kernel)⟩
  have hk_Net_add_ride_every : MDK P w Γ mg base 4 2 "add" ["ride", "every"] [1, 0] den_Net_add := ⟨_, _, _, cl_Net, ⟨a_Net_add, i_Net_add, k_Net_add⟩, n_Net_add, kb_of F_Net_add fun _ _ _ _ _ _ us ws h1 h2 => match us, ws, h1, h2 with | [_], [_, _], _, _ => rfl, (show ("add" : Str) ∉ fldT 2 by decide +kernel)⟩
  have n_Net_drop := b_Net_drop (P := P) (w := w) (base := base) F_Net_drop T h_Net_present h_State
  have h_Net_drop : MD P w Γ mg base 4 2 "drop" den_Net_drop := ⟨_, _, _, cl_Net, ⟨a_Net_drop, i_Net_drop, k_Net_drop⟩, n_Net_drop, bd_Net_drop, (show ("drop" : Str) ∉ fldT 2 by decide +kernel)⟩
  have hk_Net_drop_index : MDK P w Γ mg base 4 2 "drop" ["index"] [0] den_Net_drop := ⟨_, _, _, cl_Net, ⟨a_Net_drop, i_Net_drop, k_Net_drop⟩, n_Net_drop, kb_of F_Net_drop fun _ _ _ _ _ _ us ws h1 h2 => match us, ws, h1, h2 with | [_], [_], _, _ => rfl, (show ("drop" : Str) ∉ fldT 2 by decide +kernel)⟩
  have n_Net_need_line := b_Net_need_line (P := P) (w := w) (base := base) F_Net_need_line T h_Net_present
  have h_Net_need_line : MD P w Γ mg base 4 2 "need_line" den_Net_need_line := ⟨_, _, _, cl_Net, ⟨a_Net_need_line, i_Net_need_line, k_Net_need_line⟩, n_Net_need_line, bd_Net_need_line, (show ("need_line" : Str) ∉ fldT 2 by decide +kernel)⟩
  have n_Net_fix := b_Net_fix (P := P) (w := w) (base := base) F_Net_fix T h_Net_need_line h_Net_present h_State h_is_number_from
  have h_Net_fix : MD P w Γ mg base 5 2 "fix" den_Net_fix := ⟨_, _, _, cl_Net, ⟨a_Net_fix, i_Net_fix, k_Net_fix⟩, n_Net_fix, bd_Net_fix, (show ("fix" : Str) ∉ fldT 2 by decide +kernel)⟩
  have hk_Net_fix_at_i : MDK P w Γ mg base 5 2 "fix" ["at", "i"] [1, 0] den_Net_fix := ⟨_, _, _, cl_Net, ⟨a_Net_fix, i_Net_fix, k_Net_fix⟩, n_Net_fix, kb_of F_Net_fix fun _ _ _ _ _ _ us ws h1 h2 => match us, ws, h1, h2 with | [_], [_, _], _, _ => rfl, (show ("fix" : Str) ∉ fldT 2 by decide +kernel)⟩
  have n_Net_wish := b_Net_wish (P := P) (w := w) (base := base) F_Net_wish T h_Net_need_line h_Net_present h_State
  have h_Net_wish : MD P w Γ mg base 5 2 "wish" den_Net_wish := ⟨_, _, _, cl_Net, ⟨a_Net_wish, i_Net_wish, k_Net_wish⟩, n_Net_wish, bd_Net_wish, (show ("wish" : Str) ∉ fldT 2 by decide +kernel)⟩
  have hk_Net_wish_walk_j_i : MDK P w Γ mg base 5 2 "wish" ["walk", "j", "i"] [2, 1, 0] den_Net_wish := ⟨_, _, _, cl_Net, ⟨a_Net_wish, i_Net_wish, k_Net_wish⟩, n_Net_wish, kb_of F_Net_wish fun _ _ _ _ _ _ us ws h1 h2 => match us, ws, h1, h2 with | [_], [_, _, _], _, _ => rfl, (show ("wish" : Str) ∉ fldT 2 by decide +kernel)⟩
  have n__law_sip := b__law_sip (P := P) (w := w) (base := base) F__law_sip T 
  have h__law_sip : FD P w Γ mg base 1 "_law_sip" den__law_sip := ⟨_, _, _, PySem.W.mg_of X G a__law_sip, F__law_sip.kp, n__law_sip, bd__law_sip⟩
  have n__law_headway := b__law_headway (P := P) (w := w) (base := base) F__law_headway T h__law_sip
  have h__law_headway : FD P w Γ mg base 2 "_law_headway" den__law_headway := ⟨_, _, _, PySem.W.mg_of X G a__law_headway, F__law_headway.kp, n__law_headway, bd__law_headway⟩
  have n__law_put := b__law_put (P := P) (w := w) (base := base) F__law_put T 
  have h__law_put : FD P w Γ mg base 1 "_law_put" den__law_put := ⟨_, _, _, PySem.W.mg_of X G a__law_put, F__law_put.kp, n__law_put, bd__law_put⟩
  have n__law_grown := b__law_grown (P := P) (w := w) (base := base) F__law_grown T h_Net_add h_Net_drop h_Net_fix h_Net_wish h__law_headway h__law_put h__law_sip hk_Net_add_ride_every hk_Net_drop_index hk_Net_fix_at_i hk_Net_wish_walk_j_i
  have h__law_grown : FD P w Γ mg base 6 "_law_grown" den__law_grown := ⟨_, _, _, PySem.W.mg_of X G a__law_grown, F__law_grown.kp, n__law_grown, bd__law_grown⟩
  have n_Net_undo := b_Net_undo (P := P) (w := w) (base := base) F_Net_undo T 
  have h_Net_undo : MD P w Γ mg base 1 2 "undo" den_Net_undo := ⟨_, _, _, cl_Net, ⟨a_Net_undo, i_Net_undo, k_Net_undo⟩, n_Net_undo, bd_Net_undo, (show ("undo" : Str) ∉ fldT 2 by decide +kernel)⟩
  have n_Net__len_ := b_Net__len_ (P := P) (w := w) (base := base) F_Net__len_ T 
  have nh_Net__len_ := bh_Net__len_ (P := P) (w := w) (base := base) F_Net__len_ T 
  have hh_Net__len_ : MDH P w Γ mg base 1 2 "__len__" den_Net__len_ := ⟨_, _, _, cl_Net, ⟨a_Net__len_, i_Net__len_, k_Net__len_⟩, nh_Net__len_, bd_Net__len_, (show ("__len__" : Str) ∉ fldT 2 by decide +kernel)⟩
  have h_Net__len_ : MD P w Γ mg base 1 2 "__len__" den_Net__len_ := ⟨_, _, _, cl_Net, ⟨a_Net__len_, i_Net__len_, k_Net__len_⟩, n_Net__len_, bd_Net__len_, (show ("__len__" : Str) ∉ fldT 2 by decide +kernel)⟩
  have n_Net_fixed := b_Net_fixed (P := P) (w := w) (base := base) F_Net_fixed T h_Net_present
  have nh_Net_fixed := bh_Net_fixed (P := P) (w := w) (base := base) F_Net_fixed T hh_Net_present
  have hh_Net_fixed : MDH P w Γ mg base 4 2 "fixed" den_Net_fixed := ⟨_, _, _, cl_Net, ⟨a_Net_fixed, i_Net_fixed, k_Net_fixed⟩, nh_Net_fixed, bd_Net_fixed, (show ("fixed" : Str) ∉ fldT 2 by decide +kernel)⟩
  have h_Net_fixed : MD P w Γ mg base 4 2 "fixed" den_Net_fixed := ⟨_, _, _, cl_Net, ⟨a_Net_fixed, i_Net_fixed, k_Net_fixed⟩, n_Net_fixed, bd_Net_fixed, (show ("fixed" : Str) ∉ fldT 2 by decide +kernel)⟩
  have n_Net_lines := b_Net_lines (P := P) (w := w) (base := base) F_Net_lines T h_Net_present
  have nh_Net_lines := bh_Net_lines (P := P) (w := w) (base := base) F_Net_lines T hh_Net_present
  have hh_Net_lines : MDH P w Γ mg base 4 2 "lines" den_Net_lines := ⟨_, _, _, cl_Net, ⟨a_Net_lines, i_Net_lines, k_Net_lines⟩, nh_Net_lines, bd_Net_lines, (show ("lines" : Str) ∉ fldT 2 by decide +kernel)⟩
  have h_Net_lines : MD P w Γ mg base 4 2 "lines" den_Net_lines := ⟨_, _, _, cl_Net, ⟨a_Net_lines, i_Net_lines, k_Net_lines⟩, n_Net_lines, bd_Net_lines, (show ("lines" : Str) ∉ fldT 2 by decide +kernel)⟩
  have n_Net_wishes := b_Net_wishes (P := P) (w := w) (base := base) F_Net_wishes T h_Net_present
  have nh_Net_wishes := bh_Net_wishes (P := P) (w := w) (base := base) F_Net_wishes T hh_Net_present
  have hh_Net_wishes : MDH P w Γ mg base 4 2 "wishes" den_Net_wishes := ⟨_, _, _, cl_Net, ⟨a_Net_wishes, i_Net_wishes, k_Net_wishes⟩, nh_Net_wishes, bd_Net_wishes, (show ("wishes" : Str) ∉ fldT 2 by decide +kernel)⟩
  have h_Net_wishes : MD P w Γ mg base 4 2 "wishes" den_Net_wishes := ⟨_, _, _, cl_Net, ⟨a_Net_wishes, i_Net_wishes, k_Net_wishes⟩, n_Net_wishes, bd_Net_wishes, (show ("wishes" : Str) ∉ fldT 2 by decide +kernel)⟩
  have n__law_seen := b__law_seen (P := P) (w := w) (base := base) F__law_seen T h_Net__len_ h_Net_fixed h_Net_lines h_Net_wishes
  have nh__law_seen := bh__law_seen (P := P) (w := w) (base := base) F__law_seen T hh_Net__len_ hh_Net_fixed hh_Net_lines hh_Net_wishes
  have hh__law_seen : FDH P w Γ mg base 5 "_law_seen" den__law_seen := ⟨_, _, _, PySem.W.mg_of X G a__law_seen, F__law_seen.kp, nh__law_seen, bd__law_seen⟩
  have h__law_seen : FD P w Γ mg base 5 "_law_seen" den__law_seen := ⟨_, _, _, PySem.W.mg_of X G a__law_seen, F__law_seen.kp, n__law_seen, bd__law_seen⟩
  have n__law_is_empty := b__law_is_empty (P := P) (w := w) (base := base) F__law_is_empty T h_Net_undo hh__law_seen
  have h__law_is_empty : FD P w Γ mg base 6 "_law_is_empty" den__law_is_empty := ⟨_, _, _, PySem.W.mg_of X G a__law_is_empty, F__law_is_empty.kp, n__law_is_empty, bd__law_is_empty⟩
  have n__law_due := b__law_due (P := P) (w := w) (base := base) F__law_due T 
  have h__law_due : FD P w Γ mg base 1 "_law_due" den__law_due := ⟨_, _, _, PySem.W.mg_of X G a__law_due, F__law_due.kp, n__law_due, bd__law_due⟩
  have n__law_same := b__law_same (P := P) (w := w) (base := base) F__law_same T h__law_due h__law_seen
  have h__law_same : FD P w Γ mg base 6 "_law_same" den__law_same := ⟨_, _, _, PySem.W.mg_of X G a__law_same, F__law_same.kp, n__law_same, bd__law_same⟩
  have n__law_tank := b__law_tank (P := P) (w := w) (base := base) F__law_tank T 
  have h__law_tank : FD P w Γ mg base 1 "_law_tank" den__law_tank := ⟨_, _, _, PySem.W.mg_of X G a__law_tank, F__law_tank.kp, n__law_tank, bd__law_tank⟩
  have n__law_undone := b__law_undone (P := P) (w := w) (base := base) F__law_undone T h_Net_undo h__law_same
  have h__law_undone : FD P w Γ mg base 7 "_law_undone" den__law_undone := ⟨_, _, _, PySem.W.mg_of X G a__law_undone, F__law_undone.kp, n__law_undone, bd__law_undone⟩
  have n_law := b_law (P := P) (w := w) (base := base) F_law T h_Net_twin h__law_blank h__law_grown h__law_is_empty h__law_same h__law_sip h__law_tank h__law_undone h_Net
  exact n_law

end K48

namespace K48
open DS L2
def iL (xs : List Int) : List D := xs.map D.int
structure TankAt (t q B : Nat) (st : Store) : Prop where
  ex : ∃ (xs : List Int) (m c : Int), st[t]? = some (.lst [.cell q, .int m, .int c]) ∧ st[q]? = some (.lst (iL xs)) ∧ xs.length ≤ 40 ∧ 0 ≤ m ∧ m < 170141183460469231731687303715884105727 ∧ 0 ≤ c ∧ c ≤ B
theorem sip_loop {t q : Nat} {many m c : Int} : ∀ (n : Nat) (xs : List Int) (st : Store), xs.length < n → st[t]? = some (.lst [.cell q, .int m, .int c]) → st[q]? = some (.lst (iL xs)) → q ≠ t →
    ∃ ys, whileL (bAnd (bTest (xOp neD (xOp ixD (xVar 0) (xC (.int 0))) (xLst false aNil))) (bTest (xOp ltD (xOp ixD (xOp ixD (xVar 0) (xC (.int 0))) (xC (.int 0))) (xC (.int 2)))))
 (sDrop (xBMt isLst popAtD (xOp ixD (xVar 0) (xC (.int 0))) (aCons (xC (.int 0)) aNil))) n [some (.cell t), some (.int many), none, none] st = .nx [some (.cell t), some (.int many), none, none] (st.set q (.lst (iL ys))) ∧ (∀ y ∈ ys.head?, 2 ≤ y) ∧ ys.length ≤ xs.length
  | 0, _, _, h, _, _, _ => by omega
  | n + 1, [], st, h, ht, hq, hne => by
    refine ⟨[], ?_, by simp, by simp⟩
    unfold whileL
    simp [ht, hq, nec_nil hq, iL]
    exact (set_id hq).symm
  | n + 1, x :: xs, st, h, ht, hq, hne => by
    by_cases hx : x < 2
    · obtain ⟨ys, h1, h2, h3⟩ := sip_loop n xs (st.set q (.lst (iL xs))) (by simp at h; omega) (by rw [get_set_other hne]; exact ht) (get_set_same ⟨_, hq⟩) hne
      refine ⟨ys, ?_, h2, by simp; omega⟩
      unfold whileL
      rw [List.set_set] at h1
      simp [ht, hq, nec_nil hq, iL, hx]
      exact h1
    · refine ⟨x :: xs, ?_, by simpa using hx, by simp⟩
      unfold whileL
      simp [ht, hq, nec_nil hq, iL, hx]
      exact (set_id hq).symm
theorem sip_ok {t q B : Nat} {st : Store} {many : Int} (T : TankAt t q B st) (hB : B < 2 ^ 100) (h0 : 0 < many) (h1 : many < 2 ^ 1000) :
    ∃ v st', den__law_sip [.cell t, .int many] st = .ok (.int v) st' ∧ 0 ≤ v ∧ v < many ∧ TankAt t q (B + 1) st' ∧ Chg [t, q] st st' := by
  obtain ⟨xs, m, c, ht, hq, hl, m0, m1, c0, c1⟩ := T.ex
  have hne : q ≠ t := fun z => by
    subst z
    rw [ht] at hq
    cases xs <;> simp [iL] at hq
  obtain ⟨ys, hw, hy, hyl⟩ := sip_loop (many := many) 1000 xs st (by omega) ht hq hne
  have lm9 : many.natAbs.log2 < 9000 := by have := log_lt (x := many) (by omega) h1; omega
  have s1 : (st.set q (.lst (iL ys)))[t]? = some (.lst [.cell q, .int m, .int c]) := by rw [get_set_other hne]; exact ht
  have s2 : (st.set q (.lst (iL ys)))[q]? = some (.lst (iL ys)) := get_set_same ⟨_, hq⟩
  generalize hs : st.set q (.lst (iL ys)) = st1 at *
  have ch : Chg [t, q] st st1 := by rw [← hs]; exact .set (by simp)
  have fin : ∀ v st', F__law_sip [some (.cell t), some (.int many), none, none] st = .ret (.int v) st' → den__law_sip [.cell t, .int many] st = .ok (.int v) st' := fun v st' h => fnD_ret (N := N__law_sip) h rfl
  cases ys with
  | cons y ys =>
    have h2 : ¬ y < 2 := by have := hy y (by simp); omega
    refine ⟨y % many, _, fin _ (st1.set q (.lst (iL (y / many :: ys)))) ?_, Int.emod_nonneg _ (by omega), Int.emod_lt_of_pos _ h0, ⟨_, m, c, ?_, get_set_same ⟨_, s2⟩, by simp at hyl ⊢; omega, m0, m1, c0, by omega⟩, ch.trans (.set (by simp))⟩
    · unfold F__law_sip
      simp only [x_Seq, x_While]
      rw [hw]
      simp [s1, s2, nec_nil s2, iL, h0, lm9]
    · rw [get_set_other hne]; exact s1
  | nil =>
    have sC : Sm (c + 1) := .of (k := 101) (by omega) (by omega) (by decide)
    have sm : Sm m := .of (k := 127) m0 (by omega) (by decide)
    have sK : ∀ k : Int, 0 ≤ k → k < 100000 → Sm k := fun k h h' => .of (k := 127) h (by omega) (by decide)
    have p1 := mul_ok sm sm
    have p2 := mul_ok (sK 30011 (by decide) (by decide)) sC
    have b3 : 30011 * (c + 1) < 2 ^ 120 := by omega
    have p3 := mul_ok (.of (k := 120) (by omega) b3 (by decide)) sC
    have p4 := mul_ok (sK 17 (by decide) (by decide)) sC
    have p5 := mul_ok (sK 50021 (by decide) (by decide)) sC
    generalize hm' : (m * m + 30011 * (c + 1) * (c + 1) + 17 * (c + 1)) % 170141183460469231731687303715884105727 = m'
    have q0 : 0 ≤ m' := by rw [← hm']; exact Int.emod_nonneg _ (by decide)
    have q1 : m' < 170141183460469231731687303715884105727 := by rw [← hm']; exact Int.emod_lt_of_pos _ (by decide)
    have sm' : Sm m' := .of (k := 127) q0 (by omega) (by decide)
    have p6 := mul_ok sm' sm'
    have p7 := mul_ok sm' (.of (k := 127) (x := 100000000000000000000000000000000000000) (by decide) (by decide) (by decide))
    unfold F__law_sip at fin
    simp only [x_Seq, x_While] at fin
    rw [hw] at fin
    simp [s1, s2, nec_nil s2, iL, h0, lm9, hne, Ne.symm hne, p1, p2, p3, p4, p5, hm', p6, p7, show Nat.log2 34359738368 = 35 from by decide +kernel] at fin
    refine ⟨_, _, fin, Int.emod_nonneg _ (by omega), Int.emod_lt_of_pos _ h0, ⟨[], m', c + 1, by simp [s1], by simp [get_set_other, Ne.symm hne, s2], by simp, q0, q1, by omega, by push_cast; omega⟩, ch.trans (.set (by simp))⟩
end K48

namespace K48
open DS L2
structure Sta where
  L : List (Int × Int)
  W : List (Int × Int × Int)
  F : List (Int × Int)
def p2 (p : Int × Int) : D := .tup [.int p.1, .int p.2]
def p3 (p : Int × Int × Int) : D := .tup [.int p.1, .int p.2.1, .int p.2.2]
def Sta.d (z : Sta) : D := .ins 1 [.lst (z.L.map p2), .lst (z.W.map p3), .lst (z.F.map p2)]
def Sta.t (z : Sta) : D := .tup [.lst (z.L.map p2), .lst (z.W.map p3), .lst (z.F.map p2)]
def Sta0 : Sta := ⟨[], [], []⟩
def cur (S : List Sta) : Sta := S.getLast?.getD Sta0
def mk (M : List Nat) : List D := M.map fun k => D.int (k : Nat)
structure NetAt (n a b : Nat) (S : List Sta) (M : List Nat) (st : Store) : Prop where
  o : st[n]? = some (.obj 2 [.cell a, .cell b])
  s : st[a]? = some (.lst (S.map Sta.d))
  m : st[b]? = some (.lst (mk M))
  ne : a ≠ b
section
variable {n a b : Nat} {S : List Sta} {M : List Nat} {st st' : Store}
theorem NetAt.na (N : NetAt n a b S M st) : n ≠ a := fun z => by
  have := N.o
  rw [z, N.s] at this
  cases this
theorem NetAt.nb (N : NetAt n a b S M st) : n ≠ b := fun z => by
  have := N.o
  rw [z, N.m] at this
  cases this
def Goes (n a b : Nat) (S' : List Sta) (M' : List Nat) (st st' : Store) : Prop := ∃ a' b', NetAt n a' b' S' M' st' ∧ Chg [n, a, b] st st' ∧ (a' = a ∨ st.length ≤ a') ∧ (b' = b ∨ st.length ≤ b')
theorem present_ok (N : NetAt n a b S M st) : den_Net_present [.cell n] st = .ok (cur S).d st := by
  refine fnD_ret (N := N_Net_present) ?_ rfl
  unfold F_Net_present startE
  rcases List.eq_nil_or_concat S with h | ⟨T, z, h⟩
  · subst h
    simp [N.o, nec_nil N.s, den_State, cur, Sta0, Sta.d]
  · subst h
    have e : atI ((T ++ [z]).map Sta.d) (-1) = some z.d := at_last (by simp)
    simp only [List.concat_eq_append] at *
    have N' := N.s
    simp at e
    simp [N.o, nec_nil N.s, N', e, cur]
theorem push_ok (N : NetAt n a b S M st) (z : Sta) (hS : S.length < 1000) : appendD (.cell a) [z.d] st = .ok .non (st.set a (.lst ((S ++ [z]).map Sta.d))) ∧ Goes n a b (S ++ [z]) M st (st.set a (.lst ((S ++ [z]).map Sta.d))) := by
  constructor
  · simp [N.s]
    omega
  · refine ⟨a, b, ⟨?_, get_set_same ⟨_, N.s⟩, ?_, N.ne⟩, .set (by simp), .inl rfl, .inl rfl⟩
    · rw [get_set_other N.na.symm]; exact N.o
    · rw [get_set_other N.ne]; exact N.m
theorem num_from {x y : Int} : den_is_number_from [.int x, .int y] st = .ok (.bl (decide (y ≤ x))) st := by
  refine fnD_ret (N := N_is_number_from) ?_ rfl
  unfold F_is_number_from startE
  simp
theorem add_ok (N : NetAt n a b S M st) {e r : Int} (he : 1 ≤ e) (hr : 0 ≤ r) (hl : (cur S).L.length < 40) (hf : ∀ p ∈ (cur S).L, 0 < p.1 ∧ (e % p.1 = 0 ∨ p.1 % e = 0)) (hS : S.length < 1000) :
    ∃ st', den_Net_add [.cell n, .int e, .int r] st = .ok (.int (cur S).L.length) st' ∧ Goes n a b (S ++ [⟨(cur S).L ++ [(e, r)], (cur S).W, (cur S).F⟩]) M st st' := by
  obtain ⟨h1, h2⟩ := push_ok N ⟨(cur S).L ++ [(e, r)], (cur S).W, (cur S).F⟩ hS
  refine ⟨_, fnD_ret (N := N_Net_add) ?_ rfl, h2⟩
  have pr := present_ok N
  have lc : (lcL [] (gTp [4, 5]) [some (.cell n), some (.int e), some (.int r), some (cur S).d, none, none] bYes (xOr (xOp eqD (xOp modD (xVar 1) (xVar 4)) (xC (.int 0))) (xOp eqD (xOp modD (xVar 4) (xVar 1)) (xC (.int 0)))) ((cur S).L.map p2) [] st) = .ok ((cur S).L.map fun _ => D.bl true) st := by
    rw [lc_map (φ := fun _ => .bl true) keep_nil]
    · simp
    · intro d hd
      obtain ⟨p, hp, rfl⟩ := List.mem_map.mp hd
      obtain ⟨q0, q1⟩ := hf p hp
      have he' : 0 < e := he
      refine ⟨[some (.cell n), some (.int e), some (.int r), some (cur S).d, some (.int p.1), some (.int p.2)], rfl, rfl, ?_⟩
      by_cases q2 : e % p.1 = 0
      · simp [q0, q2]
      · have q3 := q1.resolve_left q2
        simp [q0, q2, q3, he']
    · simp; omega
  have hall : allD [.lst ((cur S).L.map fun _ => D.bl true)] st = .ok (.bl true) st := by
    rw [all_map (p := fun _ => true)]
    simp
  unfold F_Net_add startE
  have l40 : ((cur S).L.length : Int) ≠ 40 := by omega
  have k1 : (cur S).L.length ≤ 16777216 := by omega
  have k2 : (cur S).L.length + 1 ≤ 16777216 := by omega
  have k3 : S.length < 16777216 := by omega
  simp only [Sta.d] at lc pr
  simp [num_from, he, hr, N.o, pr, l40, lc, hall, k1, k2, k3, den_State, N.s]
  simp [Sta.d, p2]
theorem need_ok (N : NetAt n a b S M st) {i : Int} (h0 : 0 ≤ i) (h1 : i < (cur S).L.length) : den_Net_need_line [.cell n, .int i] st = .ok .non st := by
  have pr := present_ok N
  refine fnD_nx (N := N_Net_need_line) (env := [some (.cell n), some (.int i)]) ?_ rfl
  unfold F_Net_need_line startE
  simp only [Sta.d] at pr
  simp [N.o, pr, h0, h1]
theorem wish_ok (N : NetAt n a b S M st) {i j w : Int} (hi : 0 ≤ i) (hi' : i < (cur S).L.length) (hj : 0 ≤ j) (hj' : j < (cur S).L.length) (hw : 0 ≤ w) (hl : (cur S).W.length < 80) (hS : S.length < 1000) :
    ∃ st', den_Net_wish [.cell n, .int i, .int j, .int w] st = .ok .non st' ∧ Goes n a b (S ++ [⟨(cur S).L, (cur S).W ++ [(i, j, w)], (cur S).F⟩]) M st st' := by
  obtain ⟨h1, h2⟩ := push_ok N ⟨(cur S).L, (cur S).W ++ [(i, j, w)], (cur S).F⟩ hS
  refine ⟨_, fnD_nx (N := N_Net_wish) (env := [some (.cell n), some (.int i), some (.int j), some (.int w), some (cur S).d]) ?_ rfl, h2⟩
  have pr := present_ok N
  have n1 := need_ok N hi hi'
  have n2 := need_ok N hj hj'
  unfold F_Net_wish startE
  have l40 : ((cur S).W.length : Int) ≠ 80 := by omega
  have k1 : (cur S).W.length + 1 ≤ 16777216 := by omega
  have k3 : S.length < 16777216 := by omega
  have k4 : ¬ w < 0 := by omega
  simp only [Sta.d] at pr
  simp [N.o, pr, l40, k1, k3, k4, den_State, N.s, n1, n2]
  simp [Sta.d, p3]
theorem fix_ok (N : NetAt n a b S M st) {i t : Int} {p : Int × Int} (hi : 0 ≤ i) (hi' : (cur S).L[i.toNat]? = some p) (ht : 0 ≤ t) (ht' : t < p.1) (hn : i ∉ (cur S).F.map (·.1)) (hl : (cur S).F.length < 1000) (hS : S.length < 1000) :
    ∃ st', den_Net_fix [.cell n, .int i, .int t] st = .ok .non st' ∧ Goes n a b (S ++ [⟨(cur S).L, (cur S).W, (cur S).F ++ [(i, t)]⟩]) M st st' := by
  obtain ⟨h1, h2⟩ := push_ok N ⟨(cur S).L, (cur S).W, (cur S).F ++ [(i, t)]⟩ hS
  have hlt := (List.getElem?_eq_some_iff.mp hi').1
  refine ⟨_, fnD_nx (N := N_Net_fix) (env := [some (.cell n), some (.int i), some (.int t), some (cur S).d, none, none]) ?_ rfl, h2⟩
  have pr := present_ok N
  have n1 := need_ok N hi (by omega)
  have lc : (lcL [] (gTp [4, 5]) [some (.cell n), some (.int i), some (.int t), some (cur S).d, none, none] bYes (xVar 4) ((cur S).F.map p2) [] st) = .ok (((cur S).F.map (·.1)).map D.int) st := by
    rw [lc_map (φ := fun d => match d with | .tup (x :: _) => x | _ => .non) keep_nil]
    · simp [p2]
    · intro d hd
      obtain ⟨q, hq, rfl⟩ := List.mem_map.mp hd
      exact ⟨[some (.cell n), some (.int i), some (.int t), some (cur S).d, some (.int q.1), some (.int q.2)], rfl, rfl, rfl⟩
    · simp; omega
  have hin : inD false (.int i) (.lst (((cur S).F.map (·.1)).map D.int)) st = .ok (.bl false) st := by
    rw [in_ints (zs := (cur S).F.map (·.1)) rfl]
    simp [hn]
  have at1 : atI ((cur S).L.map p2) i = some (p2 p) := at_int hi (by simp [hi'])
  unfold F_Net_fix startE
  have k1 : (cur S).F.length + 1 ≤ 16777216 := by omega
  have k2 : (cur S).F.length ≤ 16777216 := by omega
  have k3 : S.length < 16777216 := by omega
  have k4 : ¬ p.1 ≤ t := by omega
  simp only [Sta.d] at pr lc
  simp only [p2] at at1
  simp at hin lc
  simp [N.o, pr, k1, k2, k3, k4, den_State, N.s, n1, num_from, ht, at1, lc, hin]
  simp [Sta.d, p2]
theorem drop_ok (N : NetAt n a b S M st) {i : Int} (h0 : 0 ≤ i) (h1 : i < (cur S).W.length) (hl : (cur S).W.length ≤ 1000) (hS : S.length < 1000) :
    ∃ st', den_Net_drop [.cell n, .int i] st = .ok .non st' ∧ Goes n a b (S ++ [⟨(cur S).L, (cur S).W.take i.toNat ++ (cur S).W.drop (i.toNat + 1), (cur S).F⟩]) M st st' := by
  obtain ⟨g1, g2⟩ := push_ok N ⟨(cur S).L, (cur S).W.take i.toNat ++ (cur S).W.drop (i.toNat + 1), (cur S).F⟩ hS
  refine ⟨_, fnD_nx (N := N_Net_drop) (env := [some (.cell n), some (.int i), some (cur S).d, some (.lst (((cur S).W.map p3).take i.toNat ++ ((cur S).W.map p3).drop (i.toNat + 1)))]) ?_ rfl, g2⟩
  have pr := present_ok N
  have c1 : cutD ((cur S).W.map p3) none (some i) = _ := cut_to h0
  have c2 : cutD ((cur S).W.map p3) (some (i + 1)) none = _ := cut_from (by omega)
  have e : (i + 1).toNat = i.toNat + 1 := by omega
  rw [e] at c2
  unfold F_Net_drop startE
  have k1 : min i.toNat (cur S).W.length ≤ 16777216 := by omega
  have k2 : (cur S).W.length ≤ 16777216 + (i.toNat + 1) := by omega
  have k3 : S.length < 16777216 := by omega
  have k4 : min i.toNat (cur S).W.length + ((cur S).W.length - (i.toNat + 1)) ≤ 16777216 := by omega
  simp only [Sta.d] at pr
  simp [N.o, pr, k1, k2, k3, k4, den_State, N.s, h0, h1, c1, c2]
  simp [Sta.d]
theorem len_ok (N : NetAt n a b S M st) : den_Net__len_ [.cell n] st = .ok (.int S.length) st := by
  refine fnD_ret (N := N_Net__len_) ?_ rfl
  unfold F_Net__len_ startE
  simp [N.o, N.s]
theorem lines_ok (N : NetAt n a b S M st) (h : (cur S).L.length ≤ 1000) : den_Net_lines [.cell n] st = .ok (.cell st.length) (st ++ [.lst ((cur S).L.map p2)]) := by
  have pr := present_ok N
  refine fnD_ret (N := N_Net_lines) ?_ rfl
  unfold F_Net_lines startE
  have k : (cur S).L.length ≤ 16777216 := by omega
  simp only [Sta.d] at pr
  simp [N.o, pr, k]
theorem wishes_ok (N : NetAt n a b S M st) (h : (cur S).W.length ≤ 1000) : den_Net_wishes [.cell n] st = .ok (.cell st.length) (st ++ [.lst ((cur S).W.map p3)]) := by
  have pr := present_ok N
  refine fnD_ret (N := N_Net_wishes) ?_ rfl
  unfold F_Net_wishes startE
  have k : (cur S).W.length ≤ 16777216 := by omega
  simp only [Sta.d] at pr
  simp [N.o, pr, k]
theorem fixed_ok (N : NetAt n a b S M st) (h : (cur S).F.length ≤ 1000) : den_Net_fixed [.cell n] st = .ok (.cell st.length) (st ++ [.lst ((cur S).F.map p2)]) := by
  have pr := present_ok N
  refine fnD_ret (N := N_Net_fixed) ?_ rfl
  unfold F_Net_fixed startE
  have k : (cur S).F.length ≤ 16777216 := by omega
  simp only [Sta.d] at pr
  simp [N.o, pr, k]
theorem undo_ok (N : NetAt n a b S M st) (h : S ≠ []) (hl : S.length ≤ 1000) (hm : M.length ≤ 1000) : ∃ st', den_Net_undo [.cell n] st = .ok .non st' ∧ Goes n a b S.dropLast (M.filter fun k => decide (k ≤ S.length - 1)) st st' := by
  have c1 : cutD (S.map Sta.d) none (some (-1)) = _ := cut_front
  have ne : S.isEmpty = false := by cases S <;> simp_all
  have la := lt_of_get N.o
  have lb := lt_of_get N.m
  have k1 : S.length - 1 ≤ 16777216 := by omega
  have k2 : (M.filter fun k => decide (k ≤ S.length - 1)).length ≤ 16777216 := Nat.le_trans (List.length_filter_le _ _) (by omega)
  have fst : sFldSet [2] 0 (xVar 0) (xSl true (xFld [2] 0 (xVar 0)) oNo (oSo (xUn negD (xC (.int 1))))) [some (.cell n), none] st = .nx [some (.cell n), none] ((st ++ [O.lst (S.dropLast.map Sta.d)]).set n (.obj 2 [.cell st.length, .cell b])) := by
    have a1 : ∀ l : List O, (st ++ l)[n]? = some (.obj 2 [.cell a, .cell b]) := fun l => (List.getElem?_append_left la).trans N.o
    simp [N.o, N.s, c1, k1, a1]
  have g1 : ((st ++ [O.lst (S.dropLast.map Sta.d)]).set n (.obj 2 [.cell st.length, .cell b]))[n]? = some (.obj 2 [.cell st.length, .cell b]) := get_set_same ⟨_, (List.getElem?_append_left la).trans N.o⟩
  have g2 : ((st ++ [O.lst (S.dropLast.map Sta.d)]).set n (.obj 2 [.cell st.length, .cell b]))[st.length]? = some (.lst (S.dropLast.map Sta.d)) := by
    rw [get_set_other (by omega)]
    simp
  have g3 : ((st ++ [O.lst (S.dropLast.map Sta.d)]).set n (.obj 2 [.cell st.length, .cell b]))[b]? = some (.lst (mk M)) := by
    rw [get_set_other N.nb, List.getElem?_append_left lb]
    exact N.m
  have ch : Chg [n, a, b] st ((st ++ [O.lst (S.dropLast.map Sta.d)]).set n (.obj 2 [.cell st.length, .cell b])) := Chg.app.trans (.set (by simp))
  have ll : ((st ++ [O.lst (S.dropLast.map Sta.d)]).set n (.obj 2 [.cell st.length, .cell b])).length = st.length + 1 := by simp
  generalize ((st ++ [O.lst (S.dropLast.map Sta.d)]).set n (.obj 2 [.cell st.length, .cell b])) = s1 at *
  have l1 : n < s1.length := lt_of_get g1
  have lc : lcL [(b, mk M)] (gNm 1) [some (.cell n), none] (bTest (xOp leD (xVar 1) (xCB lenD (aCons (xFld [2] 0 (xVar 0)) aNil)))) (xVar 1) (mk M) [] s1 = .ok (mk (M.filter fun k => decide (k ≤ S.length - 1))) s1 := by
    rw [lc_pure (p := fun d => match d with | .int k => decide (k ≤ (S.length - 1 : Nat)) | _ => false) (φ := id) (keep_one g3)]
    · simp [mk, List.filter_map]
      congr 2
      funext k
      simp
    · intro d hd
      obtain ⟨k, hk, rfl⟩ := List.mem_map.mp hd
      exact ⟨[some (.cell n), some (.int k)], rfl, by simp [g1, g2], fun _ => rfl⟩
    · simp [mk]; omega
  have snd : sFldSet [2] 1 (xVar 0) (xLc true (fList (xFld [2] 1 (xVar 0))) (gNm 1) [1] (bTest (xOp leD (xVar 1) (xCB lenD (aCons (xFld [2] 0 (xVar 0)) aNil)))) (xVar 1)) [some (.cell n), none] s1 =
      .nx [some (.cell n), none] ((s1 ++ [O.lst (mk (M.filter fun k => decide (k ≤ S.length - 1)))]).set n (.obj 2 [.cell st.length, .cell s1.length])) := by
    have k2' : (mk (M.filter fun k => decide (k ≤ S.length - 1))).length ≤ 16777216 := by simpa [mk] using k2
    simp only [x_FldSet, e_Lc, f_List, e_Fld, e_V0, bind_ok, fo_cell, g1, objO_some, fldR_some, List.mem_singleton, if_true, List.getElem?_cons_succ, List.getElem?_cons_zero, ixR_some, src_cell g3, w_S, w_0, List.set_cons_succ, List.set_cons_zero, lc, mkL_mut, size_val, if_pos k2', to_ok, setC_cell, List.getElem?_append_left l1, setR_some, setF_1]
  refine ⟨(s1 ++ [O.lst (mk (M.filter fun k => decide (k ≤ S.length - 1)))]).set n (.obj 2 [.cell st.length, .cell s1.length]), fnD_nx (N := N_Net_undo) (env := [some (.cell n), none]) ?_ rfl, st.length, s1.length, ⟨?_, ?_, ?_, ?_⟩, ?_, .inr (Nat.le_refl _), .inr (by omega)⟩
  · show F_Net_undo [some (.cell n), none] st = _
    unfold F_Net_undo
    have z : sIf (bTest (xOp eqD (xFld [2] 0 (xVar 0)) (xLst false aNil))) (sRaise 25) sNil [some (.cell n), none] st = .nx [some (.cell n), none] st := by
      simp [N.o, eqc_nil N.s, ne]
    rw [x_Seq, z, seq_nx, x_Seq, fst, seq_nx, snd]
  · exact get_set_same ⟨_, (List.getElem?_append_left l1).trans g1⟩
  · rw [get_set_other (by omega), List.getElem?_append_left (by omega)]
    exact g2
  · rw [get_set_other (by omega)]
    simp
  · omega
  · exact ch.trans (Chg.app.trans (.set (by simp)))
/-- a new net, at the end of the store -/
theorem net_new : den_Net [] st = .ok (.cell st.length) (st ++ [.obj 2 [.cell (st.length + 1), .cell (st.length + 2)], .lst [], .lst []]) := by
  have e0 : den_Net__init_ [.cell st.length] (st ++ [.obj 2 []]) = .ok .non (st ++ [.obj 2 [.cell (st.length + 1), .cell (st.length + 2)], .lst [], .lst []]) := by
    refine fnD_nx (N := N_Net__init_) (env := [some (.cell st.length)]) ?_ rfl
    unfold F_Net__init_ startE
    simp
  show rawMk 2 den_Net__init_ [] st = _
  unfold rawMk
  rw [e0]
  rfl
theorem net_at : NetAt st.length (st.length + 1) (st.length + 2) [] [] (st ++ [.obj 2 [.cell (st.length + 1), .cell (st.length + 2)], .lst [], .lst []]) := ⟨by simp, by simp [List.getElem?_append_right], by simp [List.getElem?_append_right, mk], by omega⟩
end
end K48

namespace K48
open DS L2
def chainL : List Int := [1, 2, 6, 6, 12, 60, 6000000000000000000000]
structure Good (z : Sta) : Prop where
  l : z.L.length ≤ 40
  w : z.W.length ≤ 80
  f : z.F.length ≤ 40
  hl : ∀ p ∈ z.L, p.1 ∈ chainL ∧ 0 ≤ p.2 ∧ p.2 < 100
  hw : ∀ p ∈ z.W, 0 ≤ p.1 ∧ p.1 < 40 ∧ 0 ≤ p.2.1 ∧ p.2.1 < 40 ∧ 0 ≤ p.2.2 ∧ p.2.2 < 10 ^ 59
  hf : ∀ p ∈ z.F, 0 ≤ p.1 ∧ p.1 < 40 ∧ 0 ≤ p.2 ∧ p.2 < 6000000000000000000000
theorem good0 : Good Sta0 := ⟨by simp [Sta0], by simp [Sta0], by simp [Sta0], by simp [Sta0], by simp [Sta0], by simp [Sta0]⟩
theorem good_cur {S : List Sta} (h : ∀ z ∈ S, Good z) : Good (cur S) := by
  unfold cur
  cases e : S.getLast? with
  | none => exact good0
  | some z => exact h z (List.mem_of_getLast? e)
structure OwnAt (o : Nat) (S : List Sta) (M : List Nat) (st : Store) : Prop where
  o : st[o]? = some (.lst [.lst ((Sta0 :: S).map Sta.t), .lst (M.map fun k => D.int ((k : Nat) + 1))])
open PySem in
def y2 (p : Int × Int) : PyData := .tuple [.int p.1, .int p.2]
open PySem in
def y3 (p : Int × Int × Int) : PyData := .tuple [.int p.1, .int p.2.1, .int p.2.2]
open PySem in
def Sta.y (z : Sta) (m : Nat) : PyData := .list [.list (z.L.map y2), .list (z.W.map y3), .list (z.F.map y2), .int m]
open PySem in
theorem py2 (cf : Nat → Option PyData) : ∀ l : List (Int × Int), toPyAL cf (l.map p2) = some (l.map y2)
  | [] => by simp [toPyAL]
  | p :: l => by simp [toPyAL, toPyA, p2, y2, py2 cf l]
open PySem in
theorem py3 (cf : Nat → Option PyData) : ∀ l : List (Int × Int × Int), toPyAL cf (l.map p3) = some (l.map y3)
  | [] => by simp [toPyAL]
  | p :: l => by simp [toPyAL, toPyA, p3, y3, py3 cf l]
theorem num_of {x : Int} (h0 : 0 ≤ x) (h : x < 10 ^ 60) : Num x := by
  unfold Num
  have : (x.natAbs : Int) = x := Int.natAbs_of_nonneg h0
  have : (x.natAbs : Int) < ((10 ^ 65 : Nat) : Int) := by
    rw [this]
    exact Int.lt_trans h (by decide)
  exact_mod_cast this
theorem shy2 {p : Int × Int} (h1 : Num p.1) (h2 : Num p.2) : Shy 434 1 (y2 p) := (ShyL.cons h1.shy (ShyL.cons h2.shy .nil)).tuple
theorem shy3 {p : Int × Int × Int} (h1 : Num p.1) (h2 : Num p.2.1) (h3 : Num p.2.2) : Shy 651 1 (y3 p) := (ShyL.cons h1.shy (ShyL.cons h2.shy (ShyL.cons h3.shy .nil))).tuple
theorem chain_lt {x : Int} (h : x ∈ chainL) : 1 ≤ x ∧ x ≤ 6000000000000000000000 := by
  simp only [chainL, List.mem_cons, List.not_mem_nil, or_false] at h
  rcases h with h | h | h | h | h | h | h <;> subst h <;> decide
theorem shy_sta {z : Sta} (g : Good z) {m : Nat} (hm : m ≤ 1000) : Shy 100000 60 (z.y m) := by
  have h1 : Shy 17400 2 (.list (z.L.map y2)) := (ShyL.all (v := 434) (m := 40) (fun p hp => by
    obtain ⟨q, hq, rfl⟩ := List.mem_map.mp hp
    obtain ⟨a, b, c⟩ := g.hl q hq
    have := chain_lt a
    exact shy2 (num_of (by omega) (by omega)) (num_of b (by omega))) (by simpa using g.l)).list
  have h2 : Shy 52160 2 (.list (z.W.map y3)) := (ShyL.all (v := 651) (m := 80) (fun p hp => by
    obtain ⟨q, hq, rfl⟩ := List.mem_map.mp hp
    obtain ⟨a, b, c, d, e, f⟩ := g.hw q hq
    exact shy3 (num_of a (by omega)) (num_of c (by omega)) (num_of e (by omega))) (by simpa using g.w)).list
  have h3 : Shy 17400 2 (.list (z.F.map y2)) := (ShyL.all (v := 434) (m := 40) (fun p hp => by
    obtain ⟨q, hq, rfl⟩ := List.mem_map.mp hp
    obtain ⟨a, b, c, d⟩ := g.hf q hq
    exact shy2 (num_of a (by omega)) (num_of c (by omega))) (by simpa using g.f)).list
  have h4 : Shy 216 2 (.int (m : Int)) := ((num_of (x := (m : Int)) (by omega) (by omega)).shy).up (Nat.le_refl _) (by decide)
  exact ((ShyL.cons h1 (ShyL.cons h2 (ShyL.cons h3 (ShyL.cons h4 .nil)))).list).up (by decide) (by decide)
section
variable {n a b o : Nat} {S : List Sta} {M : List Nat} {st st' : Store}
def seenL (k : Nat) (S : List Sta) : D := .lst [.cell k, .cell (k + 1), .cell (k + 2), .int S.length]
theorem seen_ok (N : NetAt n a b S M st) (g : Good (cur S)) (hS : S.length ≤ 1000) : den__law_seen [.cell n] st = .ok (seenL st.length S) (st ++ [.lst ((cur S).L.map p2), .lst ((cur S).W.map p3), .lst ((cur S).F.map p2)]) := by
  have gl := g.l
  have gw := g.w
  have gf := g.f
  refine fnD_ret (N := N__law_seen) ?_ rfl
  have keep : ∀ l : Store, NetAt n a b S M (st ++ l) := fun l => ⟨(List.getElem?_append_left (lt_of_get N.o)).trans N.o, (List.getElem?_append_left (lt_of_get N.s)).trans N.s, (List.getElem?_append_left (lt_of_get N.m)).trans N.m, N.ne⟩
  have e1 := lines_ok N (by omega)
  have e2 := wishes_ok (keep [.lst ((cur S).L.map p2)]) (by omega)
  have e3 := fixed_ok (keep [.lst ((cur S).L.map p2), .lst ((cur S).W.map p3)]) (by omega)
  have e4 := len_ok (keep [.lst ((cur S).L.map p2), .lst ((cur S).W.map p3), .lst ((cur S).F.map p2)])
  have o1 := (keep [.lst ((cur S).L.map p2)]).o
  have o2 := (keep [.lst ((cur S).L.map p2), .lst ((cur S).W.map p3)]).o
  have o3 := (keep [.lst ((cur S).L.map p2), .lst ((cur S).W.map p3), .lst ((cur S).F.map p2)]).o
  have e5 : lenO [(2, den_Net__len_)] (.cell n) (st ++ [.lst ((cur S).L.map p2), .lst ((cur S).W.map p3), .lst ((cur S).F.map p2)]) = .ok (.int S.length) _ :=
    lenO_ok (by rw [fo_cell, o3]; rfl) rfl e4 (by omega) (by omega)
  unfold F__law_seen startE
  simp at e1 e2 e3 e5
  simp [N.o, e1, o1, e2, o2, e3, e5, seenL]
theorem seen_py {k m : Nat} {s : Store} {z : Sta} (h1 : s[k]? = some (.lst (z.L.map p2))) (h2 : s[k + 1]? = some (.lst (z.W.map p3))) (h3 : s[k + 2]? = some (.lst (z.F.map p2))) : toPy 3 s (.lst [.cell k, .cell (k + 1), .cell (k + 2), .int (m : Nat)]) = some (z.y m) := by
  unfold toPy
  simp [toPyA, toPyAL, h1, h2, h3, py2, py3, Sta.y]
theorem due_ok (Ow : OwnAt o S M st) : den__law_due [.cell o] st = .ok (.lst [.lst ((cur S).L.map p2), .lst ((cur S).W.map p3), .lst ((cur S).F.map p2), .int S.length]) st := by
  have e : atI ((Sta0 :: S).map Sta.t) (-1) = some (cur S).t := at_last (by
    rw [List.getLast?_map, List.getLast?_cons]
    rfl)
  refine fnD_ret (N := N__law_due) ?_ rfl
  unfold F__law_due startE
  have oo := Ow.o
  simp at oo e
  simp [oo, e]
  simp [Sta.t, oo]
theorem due_py {m : Nat} {s : Store} {z : Sta} : toPy 3 s (.lst [.lst (z.L.map p2), .lst (z.W.map p3), .lst (z.F.map p2), .int (m : Nat)]) = some (z.y m) := by
  unfold toPy
  simp [toPyA, toPyAL, py2, py3, Sta.y]
theorem Chg.set_hi {T : List Nat} {s0 s1 : Store} {k : Nat} {x : O} (c : Chg T s0 s1) (h : s0.length ≤ k) : Chg T s0 (s1.set k x) := ⟨by have := c.1; simpa using this, fun i hi hn => by
  rw [get_set_other (by omega)]
  exact c.2 i hi hn⟩
theorem NetAt.keep {T : List Nat} (N : NetAt n a b S M st) (c : Chg T st st') (h1 : n ∉ T) (h2 : a ∉ T) (h3 : b ∉ T) : NetAt n a b S M st' := ⟨c.keep h1 N.o, c.keep h2 N.s, c.keep h3 N.m, N.ne⟩
theorem OwnAt.keep {T : List Nat} (N : OwnAt o S M st) (c : Chg T st st') (h1 : o ∉ T) : OwnAt o S M st' := ⟨c.keep h1 N.o⟩
def bentB : FS := sSeq (sDrop (xBMt isLst appendD (xVar 4) (aCons (xTup (aCons (xC (.int 0)) (aCons (xC (.int 0)) aNil))) aNil))) (sDrop (xBMt isLst reverseD (xVar 4) aNil))
theorem bent_step {x y z w u : Option D} {k : Nat} {l : List D} (h : st[k]? = some (.lst l)) (hl : l.length ≤ 1000) : bentB [x, y, z, w, some (.cell k)] st = .nx [x, y, z, w, some (.cell k)] (st.set k (.lst (l ++ [D.tup [.int 0, .int 0]]).reverse)) := by
  have h1 : l.length < 16777216 := by omega
  unfold bentB
  simp [h, h1, e_VS, List.set_set]
theorem same_ok (N : NetAt n a b S M st) (Ow : OwnAt o S M st) (g : Good (cur S)) (hS : S.length ≤ 1000) : ∃ st', den__law_same [.cell n, .cell o] st = .ok (.bl true) st' ∧ Chg [] st st' := by
  have gl := g.l
  have gw := g.w
  have gf := g.f
  have sh := shy_sta g hS
  have e1 := seen_ok N g hS
  have c1 : Chg [] st (st ++ [.lst ((cur S).L.map p2), .lst ((cur S).W.map p3), .lst ((cur S).F.map p2)]) := .app
  have t1 : (st ++ [O.lst ((cur S).L.map p2), .lst ((cur S).W.map p3), .lst ((cur S).F.map p2)])[st.length]? = some (.lst ((cur S).L.map p2)) := by simp
  have t2 : (st ++ [O.lst ((cur S).L.map p2), .lst ((cur S).W.map p3), .lst ((cur S).F.map p2)])[st.length + 1]? = some (.lst ((cur S).W.map p3)) := by simp [List.getElem?_append_right]
  have t3 : (st ++ [O.lst ((cur S).L.map p2), .lst ((cur S).W.map p3), .lst ((cur S).F.map p2)])[st.length + 2]? = some (.lst ((cur S).F.map p2)) := by simp [List.getElem?_append_right]
  generalize (st ++ [O.lst ((cur S).L.map p2), .lst ((cur S).W.map p3), .lst ((cur S).F.map p2)]) = st1 at *
  have e2 := due_ok (Ow.keep c1 (by simp))
  have p1 := seen_py (m := S.length) t1 t2 t3
  have r1 := repr_ok p1 sh (by decide)
  have r2 := repr_ok (due_py (m := S.length) (s := st1) (z := cur S)) sh (by decide)
  -- the told lists are bent
  let env1 (x : Option D) : DEnv := [some (.cell n), some (.cell o), some (seenL st.length S), some (.lst [.lst ((cur S).L.map p2), .lst ((cur S).W.map p3), .lst ((cur S).F.map p2), .int S.length]), x]
  have b1 := fun x => bent_step (x := some (.cell n)) (y := some (.cell o)) (z := some (seenL st.length S)) (w := some (.lst [.lst ((cur S).L.map p2), .lst ((cur S).W.map p3), .lst ((cur S).F.map p2), .int S.length])) (u := x) t1 (by simp; omega)
  have t2' := (get_set_other (s := st1) (n := st.length) (o := .lst ((cur S).L.map p2 ++ [D.tup [.int 0, .int 0]]).reverse) (m := st.length + 1) (by omega)).trans t2
  have t3' := (get_set_other (s := st1) (n := st.length) (o := .lst ((cur S).L.map p2 ++ [D.tup [.int 0, .int 0]]).reverse) (m := st.length + 2) (by omega)).trans t3
  have c2 := Chg.set_hi (k := st.length) (x := .lst ((cur S).L.map p2 ++ [D.tup [.int 0, .int 0]]).reverse) c1 (by omega)
  have b1 := b1 none
  generalize (st1.set st.length (.lst ((cur S).L.map p2 ++ [D.tup [.int 0, .int 0]]).reverse)) = st2 at *
  have b2 := bent_step (x := some (.cell n)) (y := some (.cell o)) (z := some (seenL st.length S)) (w := some (.lst [.lst ((cur S).L.map p2), .lst ((cur S).W.map p3), .lst ((cur S).F.map p2), .int S.length])) (u := none) t2' (by simp; omega)
  have t3'' := (get_set_other (s := st2) (n := st.length + 1) (o := .lst ((cur S).W.map p3 ++ [D.tup [.int 0, .int 0]]).reverse) (m := st.length + 2) (by omega)).trans t3'
  have c3 := Chg.set_hi (k := st.length + 1) (x := .lst ((cur S).W.map p3 ++ [D.tup [.int 0, .int 0]]).reverse) c2 (by omega)
  generalize (st2.set (st.length + 1) (.lst ((cur S).W.map p3 ++ [D.tup [.int 0, .int 0]]).reverse)) = st3 at *
  have b3 := bent_step (x := some (.cell n)) (y := some (.cell o)) (z := some (seenL st.length S)) (w := some (.lst [.lst ((cur S).L.map p2), .lst ((cur S).W.map p3), .lst ((cur S).F.map p2), .int S.length])) (u := none) t3'' (by simp; omega)
  have c4 := Chg.set_hi (k := st.length + 2) (x := .lst ((cur S).F.map p2 ++ [D.tup [.int 0, .int 0]]).reverse) c3 (by omega)
  generalize (st3.set (st.length + 2) (.lst ((cur S).F.map p2 ++ [D.tup [.int 0, .int 0]]).reverse)) = st4 at *
  have N4 := N.keep c4 (by simp) (by simp) (by simp)
  have e4 := seen_ok N4 g hS
  have c5 : Chg [] st4 (st4 ++ [.lst ((cur S).L.map p2), .lst ((cur S).W.map p3), .lst ((cur S).F.map p2)]) := .app
  have u1 : (st4 ++ [O.lst ((cur S).L.map p2), .lst ((cur S).W.map p3), .lst ((cur S).F.map p2)])[st4.length]? = some (.lst ((cur S).L.map p2)) := by simp
  have u2 : (st4 ++ [O.lst ((cur S).L.map p2), .lst ((cur S).W.map p3), .lst ((cur S).F.map p2)])[st4.length + 1]? = some (.lst ((cur S).W.map p3)) := by simp [List.getElem?_append_right]
  have u3 : (st4 ++ [O.lst ((cur S).L.map p2), .lst ((cur S).W.map p3), .lst ((cur S).F.map p2)])[st4.length + 2]? = some (.lst ((cur S).F.map p2)) := by simp [List.getElem?_append_right]
  generalize (st4 ++ [O.lst ((cur S).L.map p2), .lst ((cur S).W.map p3), .lst ((cur S).F.map p2)]) = st5 at *
  have r3 := repr_ok (seen_py (m := S.length) u1 u2 u3) sh (by decide)
  have r4 := repr_ok (due_py (m := S.length) (s := st5) (z := cur S)) sh (by decide)
  refine ⟨st5, fnD_ret (N := N__law_same) ?_ rfl, c4.trans c5⟩
  have cu : cutD [D.cell st.length, .cell (st.length + 1), .cell (st.length + 2), .int S.length] none (some 3) = [D.cell st.length, .cell (st.length + 1), .cell (st.length + 2)] := cut_to (by decide)
  have f1 : forL [] (gNm 4) bentB [D.cell st.length, .cell (st.length + 1), .cell (st.length + 2)] (env1 none) st1 = .nx (env1 (some (.cell (st.length + 2)))) st4 := by
    rw [for_cons keep_nil rfl]
    show (match bentB [_, _, _, _, some (.cell st.length)] st1 with
      | .nx e s => forL [] (gNm 4) bentB _ e s
      | .ct e s => _
      | .bk e s => _
      | o => o) = _
    rw [b1]
    dsimp only
    rw [for_cons keep_nil rfl]
    show (match bentB [_, _, _, _, some (.cell (st.length + 1))] st2 with
      | .nx e s => forL [] (gNm 4) bentB _ e s
      | .ct e s => _
      | .bk e s => _
      | o => o) = _
    rw [b2]
    dsimp only
    rw [for_cons keep_nil rfl]
    show (match bentB [_, _, _, _, some (.cell (st.length + 2))] st3 with
      | .nx e s => forL [] (gNm 4) bentB _ e s
      | .ct e s => _
      | .bk e s => _
      | o => o) = _
    rw [b3]
    dsimp only
    rw [for_nil keep_nil]
  unfold F__law_same startE
  simp only [seenL] at e1 e4 r1 r3 f1
  simp [e1, e2, r1, r2, cu]
  simp only [bentB, env1, seenL] at f1
  rw [f1]
  simp [e4, r3, r4]
end
end K48

namespace K48
open DS L2
/-- the tank, the net (S, M) and what the law keeps (S', M') -/
structure Wk (G : Store × List Nat) (t q o n B : Nat) (S : List Sta) (M : List Nat) (S' : List Sta) (M' : List Nat) (st : Store) : Prop where
  tank : TankAt t q B st
  own : OwnAt o S' M' st
  net : ∃ a b, NetAt n a b S M st ∧ a ∉ [t, q, o] ∧ b ∉ [t, q, o] ∧ (a ∈ G.2 ∨ G.1.length ≤ a) ∧ (b ∈ G.2 ∨ G.1.length ≤ b)
  no : n ∉ [t, q, o]
  oo : o ∉ [t, q]
  lt : t < st.length ∧ q < st.length ∧ o < st.length
  fr : G.1.length ≤ st.length ∧ ∀ i, i < G.1.length → i ∉ [t, q, o, n] → i ∉ G.2 → st[i]? = G.1[i]?
section
variable {G : Store × List Nat} {t q o n a b B : Nat} {S S' T : List Sta} {M M' M2 : List Nat} {st st' : Store}
theorem TankAt.keep {U : List Nat} (T : TankAt t q B st) (c : Chg U st st') (h1 : t ∉ U) (h2 : q ∉ U) : TankAt t q B st' := by
  obtain ⟨xs, m, k, e1, e2, r⟩ := T.ex
  exact ⟨xs, m, k, c.keep h1 e1, c.keep h2 e2, r⟩
theorem Wk.frame (W : Wk G t q o n B S M S' M' st) {L : List Nat} (c : Chg L st st') (h : ∀ i ∈ L, i ∈ [t, q, o, n] ∨ i ∈ G.2 ∨ G.1.length ≤ i) : G.1.length ≤ st'.length ∧ ∀ i, i < G.1.length → i ∉ [t, q, o, n] → i ∉ G.2 → st'[i]? = G.1[i]? := by
  have f := W.fr
  refine ⟨Nat.le_trans f.1 c.1, fun i hi h1 h2 => ?_⟩
  rw [c.2 i (Nat.lt_of_lt_of_le hi f.1) fun z => ?_, f.2 i hi h1 h2]
  rcases h i z with z | z | z
  · exact h1 z
  · exact h2 z
  · omega
theorem Wk.sip (W : Wk G t q o n B S M S' M' st) (hB : B < 2 ^ 100) {many : Int} (h0 : 0 < many) (h1 : many ≤ 10 ^ 60) :
    ∃ v st', den__law_sip [.cell t, .int many] st = .ok (.int v) st' ∧ 0 ≤ v ∧ v < many ∧ Wk G t q o n (B + 1) S M S' M' st' := by
  obtain ⟨v, st', e, v0, v1, T, c⟩ := sip_ok W.tank hB h0 (Int.lt_of_le_of_lt h1 (by decide))
  obtain ⟨a, b, N, na, nb, fa, fb⟩ := W.net
  have fr := W.frame c (fun i hi => .inl (by simp at hi; rcases hi with h | h <;> simp [h]))
  have lt := W.lt
  have lc := c.1
  have h2 := W.no
  have h3 := W.oo
  have no : ∀ x, x ∉ [t, q, o] → x ∉ [t, q] := fun x hx h => hx (by simp at h; rcases h with h | h <;> simp [h])
  exact ⟨v, st', e, v0, v1, ⟨T, W.own.keep c h3, ⟨a, b, N.keep c (no n h2) (no a na) (no b nb), na, nb, fa, fb⟩, h2, h3, by omega, fr⟩⟩
theorem Wk.goes (W : Wk G t q o n B S M S' M' st) (N : NetAt n a b S M st) (na : a ∉ [t, q, o]) (nb : b ∉ [t, q, o] ∧ (a ∈ G.2 ∨ G.1.length ≤ a) ∧ (b ∈ G.2 ∨ G.1.length ≤ b)) (g : Goes n a b T M2 st st') : Wk G t q o n B T M2 S' M' st' := by
  obtain ⟨a', b', N', c, ha, hb⟩ := g
  obtain ⟨nb, fa, fb⟩ := nb
  obtain ⟨l1, l2, l3⟩ := W.lt
  have lc := c.1
  have lf := W.fr.1
  have fr := W.frame c (fun i hi => by
    simp only [List.mem_cons, List.not_mem_nil, or_false] at hi
    rcases hi with rfl | rfl | rfl
    · exact .inl (by simp)
    · exact .inr fa
    · exact .inr fb)
  have hn : ∀ x ∈ [t, q, o], x ∉ [n, a, b] := fun x hx h => by
    simp only [List.mem_cons, List.not_mem_nil, or_false] at h
    rcases h with rfl | rfl | rfl
    · exact W.no hx
    · exact na hx
    · exact nb hx
  have new : ∀ x c' : Nat, c' ∉ [t, q, o] → (x = c' ∨ st.length ≤ x) → x ∉ [t, q, o] := fun x c' hc hx h => by
    rcases hx with rfl | hx
    · exact hc h
    · simp only [List.mem_cons, List.not_mem_nil, or_false] at h
      rcases h with rfl | rfl | rfl <;> omega
  have new2 : ∀ x c' : Nat, (c' ∈ G.2 ∨ G.1.length ≤ c') → (x = c' ∨ st.length ≤ x) → (x ∈ G.2 ∨ G.1.length ≤ x) := fun x c' hc hx => by
    rcases hx with rfl | hx
    · exact hc
    · exact .inr (by omega)
  exact ⟨W.tank.keep c (hn t (by simp)) (hn q (by simp)), W.own.keep c (hn o (by simp)), ⟨a', b', N', new a' a na ha, new b' b nb hb, new2 a' a fa ha, new2 b' b fb hb⟩, W.no, W.oo, by omega, fr⟩
theorem cur_snoc {z : Sta} : cur (S ++ [z]) = z := by simp [cur]
def ml (M : List Nat) : List D := M.map fun k => D.int ((k : Nat) + 1)
def ownO (S : List Sta) (M : List Nat) : O := .lst [.lst (Sta0.t :: S.map Sta.t), .lst (ml M)]
theorem Wk.own_set {S2 : List Sta} (W : Wk G t q o n B S M S' M' st) : Wk G t q o n B S M S2 M2 (st.set o (ownO S2 M2)) := by
  obtain ⟨a, b, N, na, nb, fa, fb⟩ := W.net
  have h2 := W.no
  have h3 := W.oo
  have oo := W.own.o
  have c : Chg [o] st (st.set o (ownO S2 M2)) := .set (by simp)
  have fr := W.frame c (fun i hi => .inl (by simp only [List.mem_singleton] at hi; simp [hi]))
  have no : ∀ x, x ∉ [t, q, o] → x ∉ [o] := fun x hx h => hx (by simp at h; simp [h])
  have h4 : ∀ x ∈ [t, q], x ∉ [o] := fun x hx h => h3 (by simp only [List.mem_singleton] at h; rwa [← h])
  exact ⟨W.tank.keep c (h4 t (by simp)) (h4 q (by simp)), ⟨get_set_same ⟨_, oo⟩⟩, ⟨a, b, N.keep c (no n h2) (no a na) (no b nb), na, nb, fa, fb⟩, h2, h3, by simpa using W.lt, fr⟩
theorem own_o (W : Wk G t q o n B S M S' M' st) : st[o]? = some (.lst [.lst (Sta0.t :: S'.map Sta.t), .lst (ml M')]) := W.own.o
theorem put_ok {z : Sta} (W : Wk G t q o n B S M S' M' st) (hS : S'.length ≤ 1000) :
    ∃ st', den__law_put [.cell o, .lst (z.L.map p2), .lst (z.W.map p3), .lst (z.F.map p2)] st = .ok .non st' ∧ Wk G t q o n B S M (S' ++ [z]) M' st' := by
  have oo := own_o W
  refine ⟨_, fnD_nx (N := N__law_put) (env := [some (.cell o), some (.lst (z.L.map p2)), some (.lst (z.W.map p3)), some (.lst (z.F.map p2))]) ?_ rfl, W.own_set (S2 := S' ++ [z]) (M2 := M')⟩
  unfold F__law_put startE
  have k : S'.length + 1 + 1 ≤ 16777216 := by omega
  simp [oo, k]
  simp [Sta.t, ownO]
theorem headway_ok {z : Sta} (W : Wk G t q o n B S M S' M' st) (hB : B < 2 ^ 90) (g : Good z) :
    ∃ v st' B', den__law_headway [.cell t, .lst (z.L.map p2)] st = .ok (.int v) st' ∧ v ∈ chainL ∧ B' ≤ B + 2 ∧ Wk G t q o n B' S M S' M' st' := by
  have gl := g.l
  obtain ⟨v1, s1, e1, a1, b1, W1⟩ := W.sip (by omega) (many := 3) (by decide) (by decide)
  have p : ∀ v : Int, 0 ≤ v → v < 7 → ∃ x, ([D.int 1, D.int 2, D.int 6, D.int 6, D.int 12, D.int 60, D.int 6000000000000000000000] : List D)[v.toNat]? = some (.int x) ∧ x ∈ chainL := fun v h h' => by
    have : v = 0 ∨ v = 1 ∨ v = 2 ∨ v = 3 ∨ v = 4 ∨ v = 5 ∨ v = 6 := by omega
    rcases this with h | h | h | h | h | h | h <;> subst h <;> exact ⟨_, rfl, by decide⟩
  have m1 := mul_ok (p := 60) (q := 100000000000000000000) (.of (k := 10) (by decide) (by decide) (by decide)) (.of (k := 100) (by decide) (by decide) (by decide))
  by_cases h : z.L = []
  · obtain ⟨v2, s2, e2, a2, b2, W2⟩ := W.sip (by omega) (many := 7) (by decide) (by decide)
    obtain ⟨x, hx, hc⟩ := p v2 a2 b2
    have at1 := at_int a2 hx
    refine ⟨x, s2, B + 1, fnD_ret (N := N__law_headway) ?_ rfl, hc, by omega, W2⟩
    unfold F__law_headway startE
    simp [h, m1, e2, at1]
  · by_cases h' : v1 = 0
    · obtain ⟨v2, s2, e2, a2, b2, W2⟩ := W1.sip (by omega) (many := 7) (by decide) (by decide)
      obtain ⟨x, hx, hc⟩ := p v2 a2 b2
      have at1 := at_int a2 hx
      refine ⟨x, s2, B + 1 + 1, fnD_ret (N := N__law_headway) ?_ rfl, hc, by omega, W2⟩
      unfold F__law_headway startE
      simp [h, m1, e1, h', e2, at1]
    · have hl : 0 < z.L.length := List.length_pos_iff.mpr h
      obtain ⟨v2, s2, e2, a2, b2, W2⟩ := W1.sip (by omega) (many := z.L.length) (by omega) (by omega)
      have hlt : v2.toNat < z.L.length := by omega
      have at1 : atI (z.L.map p2) v2 = some (p2 z.L[v2.toNat]) := at_int a2 (by simp [hlt])
      refine ⟨z.L[v2.toNat].1, s2, B + 1 + 1, fnD_ret (N := N__law_headway) ?_ rfl, (g.hl _ (List.getElem_mem hlt)).1, by omega, W2⟩
      unfold F__law_headway startE
      simp only [p2] at at1
      simp [h, m1, e1, h', e2, at1]
end
end K48

namespace K48
open DS L2
theorem chain_fit : ∀ x ∈ chainL, ∀ y ∈ chainL, x % y = 0 ∨ y % x = 0 := by decide
theorem repr_int {s : Store} {x : Int} (h : Num x) : reprD [.int x] s = .ok (.str (PySem.PyData.int x).shown) s :=
  repr_ok (w := 216) (p := .int x) (by simp [toPy, toPyA]) (h.shy.up (Nat.le_refl _) (by decide)) (by decide)
theorem good_add {z : Sta} (g : Good z) {v w : Int} (hl : z.L.length < 40) (hv : v ∈ chainL) (h0 : 0 ≤ w) (h1 : w < 100) : Good ⟨z.L ++ [(v, w)], z.W, z.F⟩ :=
  ⟨by simp; omega, g.w, g.f, fun p hp => by
    rcases List.mem_append.mp hp with h | h
    · exact g.hl p h
    · simp only [List.mem_singleton] at h
      subst h
      exact ⟨hv, h0, h1⟩, g.hw, g.hf⟩
theorem good_wish {z : Sta} (g : Good z) {i j w : Int} (hl : z.W.length < 80) (hi : 0 ≤ i) (hi' : i < 40) (hj : 0 ≤ j) (hj' : j < 40) (h0 : 0 ≤ w) (h1 : w < 10 ^ 59) : Good ⟨z.L, z.W ++ [(i, j, w)], z.F⟩ :=
  ⟨g.l, by simp; omega, g.f, g.hl, fun p hp => by
    rcases List.mem_append.mp hp with h | h
    · exact g.hw p h
    · simp only [List.mem_singleton] at h
      subst h
      exact ⟨hi, hi', hj, hj', h0, h1⟩, g.hf⟩
theorem good_fix {z : Sta} (g : Good z) {i w : Int} (hl : z.F.length < 40) (hi : 0 ≤ i) (hi' : i < 40) (h0 : 0 ≤ w) (h1 : w < 6000000000000000000000) : Good ⟨z.L, z.W, z.F ++ [(i, w)]⟩ :=
  ⟨g.l, g.w, by simp; omega, g.hl, g.hw, fun p hp => by
    rcases List.mem_append.mp hp with h | h
    · exact g.hf p h
    · simp only [List.mem_singleton] at h
      subst h
      exact ⟨hi, hi', h0, h1⟩⟩
theorem good_drop {z : Sta} (g : Good z) {i : Nat} : Good ⟨z.L, z.W.take i ++ z.W.drop (i + 1), z.F⟩ :=
  ⟨g.l, by have := g.w; simp; omega, g.f, g.hl, fun p hp => by
    rcases List.mem_append.mp hp with h | h
    · exact g.hw p (List.mem_of_mem_take h)
    · exact g.hw p (List.mem_of_mem_drop h), g.hf⟩
theorem good_snoc {S : List Sta} {z : Sta} (h : ∀ y ∈ S, Good y) (g : Good z) : ∀ y ∈ S ++ [z], Good y := fun y hy => by
  rcases List.mem_append.mp hy with q | q
  · exact h y q
  · simp only [List.mem_singleton] at q
    subst q
    exact g
section
variable {G : Store × List Nat} {t q o n a b B : Nat} {S S' T : List Sta} {M M' M2 : List Nat} {st st' : Store}
def Done (G : Store × List Nat) (t q o n B : Nat) (S : List Sta) (M : List Nat) (r : Res D) (st : Store) : Prop := ∃ st' S2 B', r = .ok (.bl true) st' ∧ (∀ z ∈ S2, Good z) ∧ S2.length ≤ S.length + 1 ∧ B' ≤ B + 10 ∧ Wk G t q o n B' S2 M S2 M st'
theorem own_last (W : Wk G t q o n B S M S' M' st) : atI (Sta0.t :: S'.map Sta.t) (-1) = some (.tup [.lst ((cur S').L.map p2), .lst ((cur S').W.map p3), .lst ((cur S').F.map p2)]) := at_last (by
    show ((Sta0 :: S').map Sta.t).getLast? = _
    rw [List.getLast?_map, List.getLast?_cons]
    rfl)
def gE (t n o : Nat) (way : Int) (z : Sta) : DEnv := [some (.cell t), some (.cell n), some (.cell o), some (.int way), some (.lst (z.L.map p2)), some (.lst (z.W.map p3)), some (.lst (z.F.map p2)), none, none, none, none, none, none, none, none, none]
theorem grown_head (W : Wk G t q o n B S M S M st) {way : Int} : sAsg (gTp [4, 5, 6]) (xOp ixD (xOp ixD (xVar 2) (xC (.int 0))) (xUn negD (xC (.int 1)))) (startE N__law_grown [.cell t, .cell n, .cell o, .int way]) st = .nx (gE t n o way (cur S)) st := by
  have oo := W.own.o
  have ol := own_last W
  simp only [List.map_cons] at oo
  simp [oo, ol, startE, gE]
theorem grown_add (W : Wk G t q o n B S M S M st) (hB : B < 2 ^ 80) (g : ∀ z ∈ S, Good z) (hS : S.length ≤ 500) {way : Int} (h : (way = 0 ∧ (cur S).L.length < 40) ∨ (cur S).L = []) :
    Done G t q o n B S M (den__law_grown [.cell t, .cell n, .cell o, .int way] st) st := by
  have gc := good_cur g
  have hl : (cur S).L.length < 40 := by
    rcases h with h | h
    · exact h.2
    · rw [h]; decide
  obtain ⟨v, s1, B1, e1, hv, hB1, W1⟩ := headway_ok W (by omega) gc
  obtain ⟨w, s2, e2, w0, w1, W2⟩ := W1.sip (by omega) (many := 100) (by decide) (by decide)
  obtain ⟨a, b, N, na, nb⟩ := W2.net
  have cl := chain_lt hv
  obtain ⟨s3, e3, G⟩ := add_ok N (e := v) (r := w) (by omega) w0 hl (fun p hp => ⟨by have := chain_lt (gc.hl p hp).1; omega, chain_fit v hv p.1 (gc.hl p hp).1⟩) (by omega)
  have W3 := W2.goes N na nb G
  obtain ⟨s4, e4, W4⟩ := put_ok (z := ⟨(cur S).L ++ [(v, w)], (cur S).W, (cur S).F⟩) W3 (by omega)
  refine ⟨s4, _, B1 + 1, fnD_ret (N := N__law_grown) ?_ rfl, good_snoc g (good_add gc hl hv w0 w1), by simp, by omega, W4⟩
  have r1 := repr_int (s := s4) (x := ((cur S).L.length : Int)) (num_of (by omega) (by omega))
  have k1 : (cur S).L.length + 1 ≤ 16777216 := by omega
  have hl' : ((cur S).L.length : Int) < 40 := by omega
  simp [p2] at e4
  have test : bOr (bAnd (bTest (xOp eqD (xVar 3) (xC (.int 0)))) (bTest (xOp ltD (xCB lenD (aCons (xVar 4) aNil)) (xC (.int 40))))) (bTest (xOp eqD (xVar 4) (xLst false aNil))) (gE t n o way (cur S)) st = .ok true st := by
    rcases h with h | h
    · simp [gE, h.1, hl']
    · by_cases hw : way = 0
      · simp [gE, h, hw]
      · simp [gE, h, hw]
  unfold F__law_grown
  rw [x_Seq, grown_head W, seq_nx, x_Seq, x_If, test, to_ok, if_pos rfl]
  by_cases hp : ((cur S).W.length : Int) % 2 = 0
  · simp [gE, e1, e2, e3, e4, N.o, r1, k1, hp, p2]
  · simp [gE, e1, e2, e3, e4, N.o, r1, k1, hp, p2]
/-- what is left of n places -/
def freeL (n : Nat) (F : List (Int × Int)) : List Int := ((List.range n).map fun i => ((i : Nat) : Int)).filter fun i => !decide (i ∈ F.map (·.1))
theorem pigeon : ∀ (n : Nat) (X : List Int), (∀ i : Nat, i < n → ((i : Nat) : Int) ∈ X) → n ≤ X.length
  | 0, _, _ => Nat.zero_le _
  | n + 1, X, h => by
    have hm : ((n : Nat) : Int) ∈ X := h n (Nat.lt_succ_self _)
    have := pigeon n (X.erase (n : Nat)) fun i hi => (List.mem_erase_of_ne (by omega)).mpr (h i (Nat.lt_succ_of_lt hi))
    rw [List.length_erase_of_mem hm] at this
    have := List.length_pos_of_mem hm
    omega
theorem free_pos {n : Nat} {F : List (Int × Int)} (h : F.length < n) : 0 < (freeL n F).length := by
  apply Nat.pos_of_ne_zero
  intro z
  have hz := List.length_eq_zero_iff.mp z
  have := pigeon n (F.map (·.1)) fun i hi => by
    by_cases q : ((i : Nat) : Int) ∈ F.map (·.1)
    · exact q
    · have : ((i : Nat) : Int) ∈ freeL n F := by
        simp only [freeL, List.mem_filter, List.mem_map, List.mem_range]
        exact ⟨⟨i, hi, rfl⟩, by simpa using q⟩
      rw [hz] at this
      cases this
  rw [List.length_map] at this
  omega
theorem free_in {n : Nat} {F : List (Int × Int)} {x : Int} (h : x ∈ freeL n F) : 0 ≤ x ∧ x < n ∧ x ∉ F.map (·.1) := by
  simp only [freeL, List.mem_filter, List.mem_map, List.mem_range] at h
  obtain ⟨⟨i, hi, rfl⟩, hn⟩ := h
  exact ⟨by omega, by omega, by simpa using hn⟩
theorem free_len {n : Nat} {F : List (Int × Int)} : (freeL n F).length ≤ n := by
  refine Nat.le_trans (List.length_filter_le _ _) ?_
  simp
theorem grown_fix (W : Wk G t q o n B S M S M st) (hB : B < 2 ^ 80) (g : ∀ z ∈ S, Good z) (hS : S.length ≤ 500) (hl0 : (cur S).L ≠ []) (hf : (cur S).F.length < (cur S).L.length) :
    Done G t q o n B S M (den__law_grown [.cell t, .cell n, .cell o, .int 2] st) st := by
  have gc := good_cur g
  have gl := gc.l
  have gf := gc.f
  have fp := free_pos hf
  have fl := free_len (n := (cur S).L.length) (F := (cur S).F)
  obtain ⟨v, s1, e1, v0, v1, W1⟩ := W.sip (by omega) (many := (freeL (cur S).L.length (cur S).F).length) (by omega) (by omega)
  have hv : v.toNat < (freeL (cur S).L.length (cur S).F).length := by omega
  obtain ⟨f0, f1, f2⟩ := free_in (List.getElem_mem hv)
  have at1 : atI ((freeL (cur S).L.length (cur S).F).map D.int) v = some (.int (freeL (cur S).L.length (cur S).F)[v.toNat]) := at_int v0 (by simp [hv])
  generalize (freeL (cur S).L.length (cur S).F)[v.toNat] = x at *
  have hx : x.toNat < (cur S).L.length := by omega
  have at2 : atI ((cur S).L.map p2) x = some (p2 (cur S).L[x.toNat]) := at_int f0 (by simp [hx])
  have hc := gc.hl _ (List.getElem_mem hx)
  have hx' : (cur S).L[x.toNat]? = some (cur S).L[x.toNat] := List.getElem?_eq_getElem hx
  generalize (cur S).L[x.toNat] = p at *
  have cl := chain_lt hc.1
  obtain ⟨u, s2, e2, u0, u1, W2⟩ := W1.sip (by omega) (many := p.1) (by omega) (by omega)
  obtain ⟨a, b, N, na, nb⟩ := W2.net
  obtain ⟨s3, e3, G⟩ := fix_ok N f0 hx' u0 u1 f2 (by omega) (by omega)
  have W3 := W2.goes N na nb G
  obtain ⟨s4, e4, W4⟩ := put_ok (z := ⟨(cur S).L, (cur S).W, (cur S).F ++ [(x, u)]⟩) W3 (by omega)
  refine ⟨s4, _, B + 1 + 1, fnD_ret (N := N__law_grown) ?_ rfl, good_snoc g (good_fix gc (by omega) f0 (by omega) u0 (by omega)), by simp, by omega, W4⟩
  have k1 : (cur S).F.length + 1 ≤ 16777216 := by omega
  have k2 : (freeL (cur S).L.length (cur S).F).length ≤ 16777216 := by omega
  have k3 : (cur S).F.length ≤ 16777216 := by omega
  simp [p2] at e4 at2
  have test1 : bOr (bAnd (bTest (xOp eqD (xVar 3) (xC (.int 0)))) (bTest (xOp ltD (xCB lenD (aCons (xVar 4) aNil)) (xC (.int 40))))) (bTest (xOp eqD (xVar 4) (xLst false aNil))) (gE t n o 2 (cur S)) st = .ok false st := by
    simp [gE, hl0]
  have test2 : bAnd (bTest (xOp eqD (xVar 3) (xC (.int 2)))) (bTest (xOp ltD (xCB lenD (aCons (xVar 6) aNil)) (xCB lenD (aCons (xVar 4) aNil)))) (gE t n o 2 (cur S)) st = .ok true st := by
    simp [gE, hf]
  have inner : ∀ (y : Option D), lcL [] (gNm 15) ((gE t n o 2 (cur S)).set 11 y) bYes (xOp ixD (xVar 15) (xC (.int 0))) ((cur S).F.map p2) [] st = .ok (((cur S).F.map (·.1)).map D.int) st := fun y => by
    rw [lc_map (φ := fun d => match d with | .tup (x :: _) => x | _ => .non) keep_nil]
    · simp [p2]
    · intro d hd
      obtain ⟨w, hw, rfl⟩ := List.mem_map.mp hd
      exact ⟨_, rfl, rfl, by simp [gE, p2]⟩
    · simp; omega
  have lc : lcL [] (gNm 11) (gE t n o 2 (cur S)) (bTest (xOp (inD true) (xVar 11) (xLc false (fList (xVar 6)) (gNm 15) [15] bYes (xOp ixD (xVar 15) (xC (.int 0)))))) (xVar 11) ((List.range (cur S).L.length).map fun i => D.int ((i : Nat) : Int)) [] st = .ok ((freeL (cur S).L.length (cur S).F).map D.int) st := by
    rw [lc_pure (p := fun d => match d with | .int k => !decide (k ∈ (cur S).F.map (·.1)) | _ => false) (φ := id) keep_nil]
    · simp only [freeL, List.nil_append, List.map_id, List.filter_map, List.map_map]
      rfl
    · intro d hd
      obtain ⟨i, hi, rfl⟩ := List.mem_map.mp hd
      refine ⟨(gE t n o 2 (cur S)).set 11 (some (.int i)), rfl, ?_, fun _ => rfl⟩
      have z := inner (some (.int i))
      have hin := in_ints (neg := true) (j := (i : Int)) (zs := (cur S).F.map (·.1)) (st := st) (d := .lst (((cur S).F.map (·.1)).map D.int)) rfl
      simp only [gE, List.set_cons_succ, List.set_cons_zero] at z
      simp only [e_Test, e_Op, e_Lc, f_List, gE, List.set_cons_succ, List.set_cons_zero, e_VS, e_V0, bind_ok, src_lst, w_S, w_0, z, mkL_imm, size_val, List.length_map, if_pos k3, hin, if_true, tBl_bl]
    · simp; omega
  have k4 : -(2 ^ 62) ≤ ((cur S).L.length : Int) ∧ ((cur S).L.length : Int) < 2 ^ 62 := ⟨by omega, by omega⟩
  have rg : fRange1 (aCons (xCB lenD (aCons (xVar 4) aNil)) aNil) (gE t n o 2 (cur S)) st = .ok ((List.range (cur S).L.length).map fun i => D.int ((i : Nat) : Int), []) st := by
    have e : rg1 [.int ((cur S).L.length : Int)] st = .ok ((List.range (cur S).L.length).map fun i => D.int ((i : Nat) : Int), []) st := by
      rw [rg1_int, if_pos k4]
      simp [rangeL]
    rw [f_Range1]
    show (Res.bind _ rg1) = _
    have e0 : aCons (xCB lenD (aCons (xVar 4) aNil)) aNil (gE t n o 2 (cur S)) st = .ok [.int ((cur S).L.length : Int)] st := by simp [gE]
    rw [e0, bind_ok, e]
  have w10 : wipeE (gE t n o 2 (cur S)) [11] = gE t n o 2 (cur S) := rfl
  have stA : sAsg (gNm 10) (xLc false (fRange1 (aCons (xCB lenD (aCons (xVar 4) aNil)) aNil)) (gNm 11) [11] (bTest (xOp (inD true) (xVar 11) (xLc false (fList (xVar 6)) (gNm 15) [15] bYes (xOp ixD (xVar 15) (xC (.int 0)))))) (xVar 11)) (gE t n o 2 (cur S)) st =
      .nx ((gE t n o 2 (cur S)).set 10 (some (.lst ((freeL (cur S).L.length (cur S).F).map D.int)))) st := by
    rw [x_Asg, e_Lc, rg, bind_ok, w10, lc, bind_ok, mkL_imm, size_val, if_pos (by rw [List.length_map]; exact k2), to_ok, x_Nm]
  unfold F__law_grown
  rw [x_Seq, grown_head W, seq_nx, x_Seq, x_If, test1, to_ok, if_neg (by decide), x_Nil, seq_nx, x_Seq, x_If, test2, to_ok, if_pos rfl, x_Seq, stA, seq_nx]
  by_cases hp : x % 2 = 0
  · simp [gE, e1, at1, at2, e2, e3, e4, N.o, k1, hp, p2, isND2]
    trace_state
  · simp [gE, e1, at1, at2, e2, e3, e4, N.o, k1, hp, p2, isND2]
end
end K48

namespace K48
open DS L2
section
variable {G : Store × List Nat} {t q o n a b B : Nat} {S S' T : List Sta} {M M' M2 : List Nat} {st st' : Store}
theorem t1_no {way : Int} {z : Sta} (h : ¬((way = 0 ∧ z.L.length < 40) ∨ z.L = [])) : bOr (bAnd (bTest (xOp eqD (xVar 3) (xC (.int 0)))) (bTest (xOp ltD (xCB lenD (aCons (xVar 4) aNil)) (xC (.int 40))))) (bTest (xOp eqD (xVar 4) (xLst false aNil))) (gE t n o way z) st = .ok false st := by
  have h1 : ¬ z.L = [] := fun e => h (.inr e)
  by_cases hw : way = 0
  · have h2 : ¬ ((z.L.length : Nat) : Int) < 40 := fun e => h (.inl ⟨hw, by omega⟩)
    simp [gE, h1, hw, h2]
  · simp [gE, h1, hw]
theorem t2_no {way : Int} {z : Sta} (h : ¬(way = 2 ∧ z.F.length < z.L.length)) : bAnd (bTest (xOp eqD (xVar 3) (xC (.int 2)))) (bTest (xOp ltD (xCB lenD (aCons (xVar 6) aNil)) (xCB lenD (aCons (xVar 4) aNil)))) (gE t n o way z) st = .ok false st := by
  by_cases hw : way = 2
  · have h2 : ¬ z.F.length < z.L.length := fun e => h ⟨hw, e⟩
    have h3 : z.L.length ≤ z.F.length := by omega
    simp [gE, hw, h3]
  · simp [gE, hw]
theorem t3_no {way : Int} {z : Sta} (h : ¬(way = 3 ∧ z.W ≠ [])) : bAnd (bTest (xOp eqD (xVar 3) (xC (.int 3)))) (bTest (xOp neD (xVar 5) (xLst false aNil))) (gE t n o way z) st = .ok false st := by
  by_cases hw : way = 3
  · have h2 : z.W = [] := Classical.byContradiction fun e => h ⟨hw, e⟩
    simp [gE, hw, h2]
  · simp [gE, hw]
theorem grown_drop (W : Wk G t q o n B S M S M st) (hB : B < 2 ^ 80) (g : ∀ z ∈ S, Good z) (hS : S.length ≤ 500) (hl0 : (cur S).L ≠ []) (hw : (cur S).W ≠ []) :
    Done G t q o n B S M (den__law_grown [.cell t, .cell n, .cell o, .int 3] st) st := by
  have gc := good_cur g
  have gw := gc.w
  have wp := List.length_pos_iff.mpr hw
  obtain ⟨v, s1, e1, v0, v1, W1⟩ := W.sip (by omega) (many := (cur S).W.length) (by omega) (by omega)
  obtain ⟨a, b, N, na, nb⟩ := W1.net
  obtain ⟨s3, e3, G⟩ := drop_ok N v0 v1 (by omega) (by omega)
  have W3 := W1.goes N na nb G
  obtain ⟨s4, e4, W4⟩ := put_ok (z := ⟨(cur S).L, (cur S).W.take v.toNat ++ (cur S).W.drop (v.toNat + 1), (cur S).F⟩) W3 (by omega)
  refine ⟨s4, _, B + 1, fnD_ret (N := N__law_grown) ?_ rfl, good_snoc g (good_drop gc), by simp, by omega, W4⟩
  have c1 : cutD ((cur S).W.map p3) none (some v) = _ := cut_to v0
  have c2 : cutD ((cur S).W.map p3) (some (v + 1)) none = _ := cut_from (by omega)
  have e : (v + 1).toNat = v.toNat + 1 := by omega
  rw [e] at c2
  have k1 : min v.toNat (cur S).W.length ≤ 16777216 := by omega
  have k2 : (cur S).W.length ≤ 16777216 + (v.toNat + 1) := by omega
  have k4 : min v.toNat (cur S).W.length + ((cur S).W.length - (v.toNat + 1)) ≤ 16777216 := by omega
  simp at e4
  have test3 : bAnd (bTest (xOp eqD (xVar 3) (xC (.int 3)))) (bTest (xOp neD (xVar 5) (xLst false aNil))) (gE t n o 3 (cur S)) st = .ok true st := by
    simp [gE, hw]
  unfold F__law_grown
  rw [x_Seq, grown_head W, seq_nx, x_Seq, x_If, t1_no (by simp [hl0]), to_ok, if_neg (by decide), x_Nil, seq_nx, x_Seq, x_If, t2_no (by simp), to_ok, if_neg (by decide), x_Nil, seq_nx, x_Seq, x_If, test3, to_ok, if_pos rfl]
  by_cases hp : v % 2 = 0
  · simp [gE, e1, e3, e4, N.o, k1, k2, k4, c1, c2, hp, isND2]
  · simp [gE, e1, e3, e4, N.o, k1, k2, k4, c1, c2, hp, isND2]
theorem grown_wish (W : Wk G t q o n B S M S M st) (hB : B < 2 ^ 80) (g : ∀ z ∈ S, Good z) (hS : S.length ≤ 500) {way : Int} (h1 : ¬((way = 0 ∧ (cur S).L.length < 40) ∨ (cur S).L = [])) (h2 : ¬(way = 2 ∧ (cur S).F.length < (cur S).L.length)) (h3 : ¬(way = 3 ∧ (cur S).W ≠ [])) :
    Done G t q o n B S M (den__law_grown [.cell t, .cell n, .cell o, .int way] st) st := by
  have gc := good_cur g
  have gw := gc.w
  have gl := gc.l
  have lp : 0 < (cur S).L.length := List.length_pos_iff.mpr fun e => h1 (.inr e)
  by_cases h80 : (cur S).W.length = 80
  · refine ⟨st, S, B, fnD_ret (N := N__law_grown) ?_ rfl, g, by omega, by omega, W⟩
    have h80' : ((cur S).W.length : Int) = 80 := by omega
    unfold F__law_grown
    rw [x_Seq, grown_head W, seq_nx, x_Seq, x_If, t1_no h1, to_ok, if_neg (by decide), x_Nil, seq_nx, x_Seq, x_If, t2_no h2, to_ok, if_neg (by decide), x_Nil, seq_nx, x_Seq, x_If, t3_no h3, to_ok, if_neg (by decide), x_Nil, seq_nx]
    simp [gE, h80']
  obtain ⟨i, s1, e1, i0, i1, W1⟩ := W.sip (by omega) (many := (cur S).L.length) (by omega) (by omega)
  obtain ⟨j, s2, e2, j0, j1, W2⟩ := W1.sip (by omega) (many := (cur S).L.length) (by omega) (by omega)
  obtain ⟨u1, s3, e3, _, b1, W3⟩ := W2.sip (by omega) (many := 100) (by decide) (by decide)
  obtain ⟨u2, s4, e4, _, b2, W4⟩ := W3.sip (by omega) (many := 100000000000000000000000000000000000000000000000000000000000) (by decide) (by decide)
  obtain ⟨v, s5, e5, v0, v1, W5⟩ := W4.sip (by omega) (many := 3) (by decide) (by decide)
  have pick3 : ∃ x, atI [D.int u1, D.int 0, D.int u2] v = some (.int x) ∧ 0 ≤ x ∧ x < 10 ^ 59 := by
    have : v = 0 ∨ v = 1 ∨ v = 2 := by omega
    rcases this with h | h | h <;> subst h
    · exact ⟨u1, by simp, by omega, by omega⟩
    · exact ⟨0, by simp, by omega, by omega⟩
    · exact ⟨u2, by simp, by omega, by omega⟩
  obtain ⟨x, at1, x0, x1⟩ := pick3
  obtain ⟨a, b, N, na, nb⟩ := W5.net
  obtain ⟨s6, e6, G⟩ := wish_ok N i0 i1 j0 j1 x0 (by omega) (by omega)
  have W6 := W5.goes N na nb G
  obtain ⟨s7, e7, W7⟩ := put_ok (z := ⟨(cur S).L, (cur S).W ++ [(i, j, x)], (cur S).F⟩) W6 (by omega)
  refine ⟨s7, _, B + 1 + 1 + 1 + 1 + 1, fnD_ret (N := N__law_grown) ?_ rfl, good_snoc g (good_wish gc (by omega) i0 (by omega) j0 (by omega) x0 x1), by simp, by omega, W7⟩
  have k1 : (cur S).W.length + 1 ≤ 16777216 := by omega
  have h80' : ¬ ((cur S).W.length : Int) = 80 := by omega
  simp [p3] at e7
  unfold F__law_grown
  rw [x_Seq, grown_head W, seq_nx, x_Seq, x_If, t1_no h1, to_ok, if_neg (by decide), x_Nil, seq_nx, x_Seq, x_If, t2_no h2, to_ok, if_neg (by decide), x_Nil, seq_nx, x_Seq, x_If, t3_no h3, to_ok, if_neg (by decide), x_Nil, seq_nx]
  by_cases hp : x % 2 = 0
  · simp [gE, h80', e1, e2, e3, e4, e5, at1, e6, e7, N.o, k1, hp, p3, isND2]
  · simp [gE, h80', e1, e2, e3, e4, e5, at1, e6, e7, N.o, k1, hp, p3, isND2]
theorem grown_ok (W : Wk G t q o n B S M S M st) (hB : B < 2 ^ 80) (g : ∀ z ∈ S, Good z) (hS : S.length ≤ 500) {way : Int} : Done G t q o n B S M (den__law_grown [.cell t, .cell n, .cell o, .int way] st) st := by
  by_cases h1 : (way = 0 ∧ (cur S).L.length < 40) ∨ (cur S).L = []
  · exact grown_add W hB g hS h1
  have l0 : (cur S).L ≠ [] := fun e => h1 (.inr e)
  by_cases h2 : way = 2 ∧ (cur S).F.length < (cur S).L.length
  · rw [h2.1]
    exact grown_fix W hB g hS l0 h2.2
  by_cases h3 : way = 3 ∧ (cur S).W ≠ []
  · rw [h3.1]
    exact grown_drop W hB g hS l0 h3.2
  exact grown_wish W hB g hS h1 h2 h3
end
end K48

namespace K48
open DS L2
/-- a net with what the law keeps of it, and where they stand -/
structure Px where
  o : Nat
  n : Nat
  a : Nat
  b : Nat
  S : List Sta
  M : List Nat
def Px.fp (p : Px) : List Nat := [p.o, p.n, p.a, p.b]
structure Px.at (p : Px) (st : Store) : Prop where
  own : OwnAt p.o p.S p.M st
  net : NetAt p.n p.a p.b p.S p.M st
structure World (t q B : Nat) (ps : List Px) (st : Store) : Prop where
  tank : TankAt t q B st
  at_ : ∀ p ∈ ps, p.at st
  nd : ∀ p ∈ ps, p.fp.Nodup ∧ t ∉ p.fp ∧ q ∉ p.fp
  apart : ps.Pairwise fun p r => ∀ x ∈ p.fp, x ∉ r.fp
section
variable {t q B B' : Nat} {ps l1 l2 : List Px} {p : Px} {S2 : List Sta} {M2 : List Nat} {st st' : Store}
theorem Px.at.lt (h : p.at st) : ∀ x ∈ p.fp, x < st.length := fun x hx => by
  simp only [Px.fp, List.mem_cons, List.not_mem_nil, or_false] at hx
  rcases hx with rfl | rfl | rfl | rfl
  · exact lt_of_get h.own.o
  · exact lt_of_get h.net.o
  · exact lt_of_get h.net.s
  · exact lt_of_get h.net.m
theorem TankAt.lt (T : TankAt t q B st) : t < st.length ∧ q < st.length := by
  obtain ⟨_, _, _, e1, e2, _⟩ := T.ex
  exact ⟨lt_of_get e1, lt_of_get e2⟩
theorem World.solo (W : World t q B (l1 ++ p :: l2) st) : Wk (st, [p.a, p.b]) t q p.o p.n B p.S p.M p.S p.M st := by
  have h := W.at_ p (by simp)
  obtain ⟨nd, ht, hq⟩ := W.nd p (by simp)
  have lt := h.lt
  have tl := W.tank.lt
  simp only [Px.fp, List.mem_cons, List.not_mem_nil, or_false, not_or] at ht hq lt
  simp only [Px.fp, List.nodup_cons, List.mem_cons, List.not_mem_nil, or_false, not_or] at nd
  obtain ⟨⟨n1, n2, n3⟩, ⟨n4, n5⟩, n6, _⟩ := nd
  obtain ⟨t1, t2, t3, t4⟩ := ht
  obtain ⟨q1, q2, q3, q4⟩ := hq
  refine ⟨W.tank, h.own, ⟨p.a, p.b, h.net, ?_, ?_, .inl (by simp), .inl (by simp)⟩, ?_, ?_, ⟨tl.1, tl.2, lt _ (.inl rfl)⟩, Nat.le_refl _, fun _ _ _ _ => rfl⟩
  · simp only [List.mem_cons, List.not_mem_nil, or_false, not_or]; exact ⟨Ne.symm t3, Ne.symm q3, Ne.symm n2⟩
  · simp only [List.mem_cons, List.not_mem_nil, or_false, not_or]; exact ⟨Ne.symm t4, Ne.symm q4, Ne.symm n3⟩
  · simp only [List.mem_cons, List.not_mem_nil, or_false, not_or]; exact ⟨Ne.symm t2, Ne.symm q2, Ne.symm n1⟩
  · simp only [List.mem_cons, List.not_mem_nil, or_false, not_or]; exact ⟨Ne.symm t1, Ne.symm q1⟩
theorem Px.at.frame {r : Px} (h : r.at st) (f : ∀ i ∈ r.fp, st'[i]? = st[i]?) : r.at st' := by
  have f1 := f r.o (by simp [Px.fp])
  have f2 := f r.n (by simp [Px.fp])
  have f3 := f r.a (by simp [Px.fp])
  have f4 := f r.b (by simp [Px.fp])
  exact ⟨⟨f1.trans h.own.o⟩, ⟨f2.trans h.net.o, f3.trans h.net.s, f4.trans h.net.m, h.net.ne⟩⟩
theorem World.step (W : World t q B (l1 ++ p :: l2) st) (K : Wk (st, [p.a, p.b]) t q p.o p.n B' S2 M2 S2 M2 st') :
    ∃ a b, World t q B' (l1 ++ ⟨p.o, p.n, a, b, S2, M2⟩ :: l2) st' := by
  obtain ⟨a, b, N, na, nb, fa, fb⟩ := K.net
  obtain ⟨nd, ht, hq⟩ := W.nd p (by simp)
  have pat := W.at_ p (by simp)
  have plt := pat.lt
  have ap := List.pairwise_append.mp W.apart
  have ap2 := List.pairwise_cons.mp ap.2.1
  have others : ∀ r, r ∈ l1 ∨ r ∈ l2 → (∀ x ∈ r.fp, x ∉ p.fp ∧ x ≠ t ∧ x ≠ q ∧ x < st.length) := fun r hr x hx => by
    have hm : r ∈ l1 ++ p :: l2 := by
      rcases hr with hr | hr
      · exact List.mem_append_left _ hr
      · exact List.mem_append_right _ (List.mem_cons_of_mem _ hr)
    obtain ⟨_, rt, rq⟩ := W.nd r hm
    refine ⟨fun hp => ?_, fun e => rt (e ▸ hx), fun e => rq (e ▸ hx), (W.at_ r hm).lt x hx⟩
    rcases hr with hr | hr
    · exact ap.2.2 r hr p List.mem_cons_self x hx hp
    · exact ap2.1 r hr x hp hx
  have keep : ∀ r, r ∈ l1 ∨ r ∈ l2 → r.at st' := fun r hr => by
    have hm : r ∈ l1 ++ p :: l2 := by
      rcases hr with hr | hr
      · exact List.mem_append_left _ hr
      · exact List.mem_append_right _ (List.mem_cons_of_mem _ hr)
    refine (W.at_ r hm).frame fun i hi => ?_
    obtain ⟨h1, h2, h3, h4⟩ := others r hr i hi
    simp only [Px.fp, List.mem_cons, List.not_mem_nil, or_false, not_or] at h1
    exact K.fr.2 i h4 (by simp only [List.mem_cons, List.not_mem_nil, or_false, not_or]; exact ⟨h2, h3, h1.1, h1.2.1⟩) (by simp only [List.mem_cons, List.not_mem_nil, or_false, not_or]; exact ⟨h1.2.2.1, h1.2.2.2⟩)
  -- where the net's lists stand now
  have place : ∀ x, (x ∈ [p.a, p.b] ∨ st.length ≤ x) → x ∉ [t, q, p.o] → x ≠ p.n → ∀ r, r ∈ l1 ∨ r ∈ l2 → x ∉ r.fp := fun x hx _ _ r hr hxr => by
    obtain ⟨h1, h2, h3, h4⟩ := others r hr x hxr
    rcases hx with hx | hx
    · exact h1 (by simp only [Px.fp]; simp only [List.mem_cons, List.not_mem_nil, or_false] at hx ⊢; rcases hx with h | h <;> simp [h])
    · omega
  have nfp : ∀ r, r ∈ l1 ∨ r ∈ l2 → ∀ x ∈ (⟨p.o, p.n, a, b, S2, M2⟩ : Px).fp, x ∉ r.fp := fun r hr x hx => by
    simp only [Px.fp, List.mem_cons, List.not_mem_nil, or_false] at hx
    rcases hx with rfl | rfl | rfl | rfl
    · exact fun z => (others r hr _ z).1 (by simp [Px.fp])
    · exact fun z => (others r hr _ z).1 (by simp [Px.fp])
    · exact place _ fa na N.na.symm r hr
    · exact place _ fb nb N.nb.symm r hr
  simp only [Px.fp, List.nodup_cons, List.mem_cons, List.not_mem_nil, or_false, not_or] at nd ht hq
  simp only [List.mem_cons, List.not_mem_nil, or_false, not_or] at na nb
  refine ⟨a, b, K.tank, fun r hr => ?_, fun r hr => ?_, ?_⟩
  · rcases List.mem_append.mp hr with h | h
    · exact keep r (.inl h)
    · rcases List.mem_cons.mp h with h | h
      · subst h; exact ⟨K.own, N⟩
      · exact keep r (.inr h)
  · rcases List.mem_append.mp hr with h | h
    · exact W.nd r (List.mem_append_left _ h)
    · rcases List.mem_cons.mp h with h | h
      · subst h
        simp only [Px.fp, List.nodup_cons, List.mem_cons, List.not_mem_nil, or_false, not_or, not_false_eq_true, List.nodup_nil, and_true]
        exact ⟨⟨⟨nd.1.1, Ne.symm na.2.2, Ne.symm nb.2.2⟩, ⟨N.na, N.nb⟩, N.ne⟩, ⟨ht.1, ht.2.1, Ne.symm na.1, Ne.symm nb.1⟩, ⟨hq.1, hq.2.1, Ne.symm na.2.1, Ne.symm nb.2.1⟩⟩
      · exact W.nd r (List.mem_append_right _ (List.mem_cons_of_mem _ h))
  · refine List.pairwise_append.mpr ⟨ap.1, List.pairwise_cons.mpr ⟨fun r hr => nfp r (.inr hr), ap2.2⟩, fun r hr s hs x hx => ?_⟩
    rcases List.mem_cons.mp hs with h | h
    · subst h
      exact fun z => nfp r (.inl hr) x z hx
    · exact ap.2.2 r hr s (List.mem_cons_of_mem _ h) x hx
end
end K48

namespace K48
open DS L2
section
variable {G : Store × List Nat} {t q o n a b B B' : Nat} {S S' : List Sta} {M M' : List Nat} {ps l1 l2 : List Px} {p : Px} {S2 : List Sta} {M2 : List Nat} {st st' : Store}
theorem Wk.same (W : Wk G t q o n B S M S M st) (g : ∀ z ∈ S, Good z) (hS : S.length ≤ 900) : ∃ st', den__law_same [.cell n, .cell o] st = .ok (.bl true) st' ∧ Wk G t q o n B S M S M st' := by
  obtain ⟨a, b, N, na, nb, fa, fb⟩ := W.net
  obtain ⟨s1, e, c⟩ := same_ok N W.own (good_cur g) (by omega)
  have lt := W.lt
  have lc := c.1
  exact ⟨s1, e, W.tank.keep c (by simp) (by simp), W.own.keep c (by simp), ⟨a, b, N.keep c (by simp) (by simp) (by simp), na, nb, fa, fb⟩, W.no, W.oo, by omega, W.frame c (by simp)⟩
theorem undo_exn (N : NetAt n a b [] M st) : den_Net_undo [.cell n] st = .exn 25 [] st := by
  refine fnD_exn (N := N_Net_undo) (env := [some (.cell n), none]) ?_ rfl
  unfold F_Net_undo startE
  simp [N.o, eqc_nil N.s]
theorem World.app (W : World t q B ps st) {l : Store} : World t q B ps (st ++ l) :=
  ⟨W.tank.keep (U := []) .app (by simp) (by simp), fun p hp => (W.at_ p hp).frame fun i hi => List.getElem?_append_left ((W.at_ p hp).lt i hi), W.nd, W.apart⟩
theorem World.add (W : World t q B ps st) (W' : World t q B' ps st') (h : p.at st') (hn : p.fp.Nodup) (hf : ∀ x ∈ p.fp, st.length ≤ x) : World t q B' (ps ++ [p]) st' := by
  have tl := W.tank.lt
  refine ⟨W'.tank, fun r hr => ?_, fun r hr => ?_, ?_⟩
  · rcases List.mem_append.mp hr with z | z
    · exact W'.at_ r z
    · simp only [List.mem_singleton] at z; subst z; exact h
  · rcases List.mem_append.mp hr with z | z
    · exact W.nd r z
    · simp only [List.mem_singleton] at z
      subst z
      exact ⟨hn, fun y => by have := hf t y; omega, fun y => by have := hf q y; omega⟩
  · refine List.pairwise_append.mpr ⟨W.apart, by simp, fun r hr s hs x hx z => ?_⟩
    simp only [List.mem_singleton] at hs
    subst hs
    have h1 := (W.at_ r hr).lt x hx
    have h2 := hf x z
    omega
theorem World.sip (W : World t q B ps st) (hB : B < 2 ^ 100) {many : Int} (h0 : 0 < many) (h1 : many ≤ 10 ^ 60) :
    ∃ v st', den__law_sip [.cell t, .int many] st = .ok (.int v) st' ∧ 0 ≤ v ∧ v < many ∧ World t q (B + 1) ps st' := by
  obtain ⟨v, st', e, v0, v1, T, c⟩ := sip_ok W.tank hB h0 (Int.lt_of_le_of_lt h1 (by decide))
  refine ⟨v, st', e, v0, v1, T, fun p hp => ?_, W.nd, W.apart⟩
  obtain ⟨_, h2, h3⟩ := W.nd p hp
  exact (W.at_ p hp).frame fun i hi => c.2 i ((W.at_ p hp).lt i hi) fun z => by
    simp only [List.mem_cons, List.not_mem_nil, or_false] at z
    rcases z with rfl | rfl
    · exact h2 hi
    · exact h3 hi
/-- a new net with a blank book -/
theorem World.fresh (W : World t q B ps st) : World t q B (ps ++ [⟨st.length + 3, st.length, st.length + 1, st.length + 2, [], []⟩]) (st ++ [.obj 2 [.cell (st.length + 1), .cell (st.length + 2)], .lst [], .lst [], ownO [] []]) := by
  refine W.add W.app ⟨⟨by simp [List.getElem?_append_right]; rfl⟩, ⟨by simp, by simp [List.getElem?_append_right], by simp [List.getElem?_append_right]; rfl, by simp⟩⟩ ?_ ?_
  · simp [Px.fp]
  · simp [Px.fp]
theorem World.none_ (T : TankAt t q B st) : World t q B [] st := ⟨T, by simp, by simp, .nil⟩
theorem World.bare (W : World t q B ps st) : World t q B [] st := .none_ W.tank
/-- a twin, with a book that is told of the same -/
def twinS (L : Nat) (S : List Sta) (M : List Nat) : Store := [.obj 2 [.cell (L + 3), .cell (L + 4)], .lst [], .lst [], .lst (S.map Sta.d), .lst (mk M)]
theorem twin_ok (N : NetAt n a b S M st) (hS : S.length ≤ 1000) (hM : M.length ≤ 1000) : den_Net_twin [.cell n] st = .ok (.cell st.length) (st ++ twinS st.length S M) := by
  have la := lt_of_get N.o
  have lb := lt_of_get N.s
  have lc := lt_of_get N.m
  have e0 := net_new (st := st)
  have k1 : S.length ≤ 16777216 := by omega
  have k2 : (mk M).length ≤ 16777216 := by simp [mk]; omega
  have a1 : ∀ l : Store, (st ++ l)[n]? = some (.obj 2 [.cell a, .cell b]) := fun l => (List.getElem?_append_left la).trans N.o
  have a2 : ∀ l : Store, (st ++ l)[a]? = some (.lst (S.map Sta.d)) := fun l => (List.getElem?_append_left lb).trans N.s
  have a3 : ∀ l : Store, (st ++ l)[b]? = some (.lst (mk M)) := fun l => (List.getElem?_append_left lc).trans N.m
  refine fnD_ret (N := N_Net_twin) ?_ rfl
  unfold F_Net_twin startE
  simp [e0, a1, a2, a3, k1, k2, twinS]
theorem World.twin (W : World t q B (l1 ++ p :: l2) st) (hS : p.S.length ≤ 1000) (hM : p.M.length ≤ 1000) :
    World t q B (l1 ++ p :: l2 ++ [⟨st.length + 5, st.length, st.length + 3, st.length + 4, p.S, p.M⟩]) (st ++ (twinS st.length p.S p.M ++ [ownO p.S p.M])) := by
  refine W.add W.app ⟨⟨?_⟩, ⟨?_, ?_, ?_, by simp⟩⟩ ?_ ?_
  · simp [List.getElem?_append_right, twinS]; rfl
  · simp [List.getElem?_append_right, twinS]
  · simp [List.getElem?_append_right, twinS]
  · simp [List.getElem?_append_right, twinS]
  · simp [Px.fp]
  · simp [Px.fp]
end
end K48

namespace K48
open DS L2
theorem tank_loop {ns : List Int} {y : Option D} : ∀ (zs : List Int) (m : Int) (x : Option D), 0 ≤ m → m < 170141183460469231731687303715884105727 → ∃ m' x', 0 ≤ m' ∧ m' < 170141183460469231731687303715884105727 ∧
    forL [] (gNm 2) (sAsg (gNm 1) (xOp modD (xOp (addD false) (xOp (mulD false) (xVar 1) (xC (.int 2862933555777941757))) (xVar 2)) (xC (.int 170141183460469231731687303715884105727)))) (zs.map D.int) [some (.scr ns), some (.int m), x] [] = .nx [some (.scr ns), some (.int m'), x'] []
  | [], m, x, h0, h1 => ⟨m, x, h0, h1, for_nil keep_nil⟩
  | z :: zs, m, x, h0, h1 => by
    obtain ⟨m', x', g0, g1, e⟩ := tank_loop (ns := ns) (y := y) zs ((m * 2862933555777941757 + z) % 170141183460469231731687303715884105727) (some (.int z)) (Int.emod_nonneg _ (by decide)) (Int.emod_lt_of_pos _ (by decide))
    refine ⟨m', x', g0, g1, ?_⟩
    have p1 := mul_ok (p := m) (q := 2862933555777941757) (.of (k := 127) h0 (by omega) (by decide)) (.of (k := 127) (by decide) (by decide) (by decide))
    rw [List.map_cons, for_cons keep_nil (env1 := [some (.scr ns), some (.int m), some (.int z)]) rfl]
    simp [p1]
    exact e
theorem tank_ok (ns : List Int) (hl : ns.length ≤ 63) : ∃ xs m, den__law_tank [.scr ns] [] = .ok (.cell 1) [.lst (iL xs), .lst [.cell 0, .int m, .int 0]] ∧ xs.length ≤ 40 ∧ 0 ≤ m ∧ m < 170141183460469231731687303715884105727 := by
  obtain ⟨m, x', m0, m1, e⟩ := tank_loop (ns := ns) (y := none) (ns.take 40) 5843211045545439551605946764725979847 none (by decide) (by decide)
  refine ⟨((ns.take 40).filter fun z => decide (10 ^ 18 ≤ (if z < 0 then -z else z))).map fun z => if z < 0 then -z else z, m, fnD_ret (N := N__law_tank) ?_ rfl, ?_, m0, m1⟩
  · have c1 : cutD (ns.map D.int) none (some 40) = (ns.take 40).map D.int := by
      rw [cut_to (by decide)]
      simp
    have k1 : min 40 ns.length ≤ 16777216 := by omega
    have lc : lcL [] (gNm 2) [some (.scr ns), some (.int m), none] (bTest (xOp geD (xCB absD (aCons (xVar 2) aNil)) (xOp powD (xC (.int 10)) (xC (.int 18))))) (xCB absD (aCons (xVar 2) aNil)) ((ns.take 40).map D.int) [] [] =
        .ok (iL (((ns.take 40).filter fun z => decide (10 ^ 18 ≤ (if z < 0 then -z else z))).map fun z => if z < 0 then -z else z)) [] := by
      rw [lc_pure (p := fun d => match d with | .int z => decide (10 ^ 18 ≤ (if z < 0 then -z else z)) | _ => false) (φ := fun d => match d with | .int z => .int (if z < 0 then -z else z) | _ => .non) keep_nil]
      · simp only [iL, List.nil_append, List.filter_map, List.map_map]
        rfl
      · intro d hd
        obtain ⟨z, hz, rfl⟩ := List.mem_map.mp hd
        exact ⟨[some (.scr ns), some (.int m), some (.int z)], rfl, by simp, fun _ => by simp⟩
      · simp; omega
    have k2 : (iL (((ns.take 40).filter fun z => decide (10 ^ 18 ≤ (if z < 0 then -z else z))).map fun z => if z < 0 then -z else z)).length ≤ 16777216 := by
      simp only [iL, List.length_map]
      refine Nat.le_trans (List.length_filter_le _ _) ?_
      simp; omega
    have st1 : sAsg (gNm 1) (xOp powD (xC (.int 23)) (xC (.int 27))) (startE N__law_tank [.scr ns]) [] = .nx [some (.scr ns), some (.int 5843211045545439551605946764725979847), none] [] := by
      simp [startE]
    have st2 : sFor (fList (xSl false (xVar 0) oNo (oSo (xC (.int 40))))) (gNm 2) (sAsg (gNm 1) (xOp modD (xOp (addD false) (xOp (mulD false) (xVar 1) (xC (.int 2862933555777941757))) (xVar 2)) (xC (.int 170141183460469231731687303715884105727)))) [some (.scr ns), some (.int 5843211045545439551605946764725979847), none] [] = .nx [some (.scr ns), some (.int m), x'] [] := by
      have e0 : fList (xSl false (xVar 0) oNo (oSo (xC (.int 40)))) [some (.scr ns), some (.int 5843211045545439551605946764725979847), none] [] = .ok ((ns.take 40).map D.int, []) [] := by
        simp only [f_List, e_Sl, e_V0, bind_ok, e_oNo, e_oSo, e_C, sl_scr, c1, mkL_imm, size_val, List.length_map, List.length_take, if_pos k1, src_lst]
      rw [x_For, e0, to_ok]
      exact e
    unfold F__law_tank
    rw [x_Seq, st1, seq_nx, x_Seq, st2, seq_nx]
    have w2 : wipeE [some (.scr ns), some (.int m), x'] [2] = [some (.scr ns), some (.int m), none] := rfl
    have e0 : fList (xSl false (xVar 0) oNo (oSo (xC (.int 40)))) [some (.scr ns), some (.int m), x'] [] = .ok ((ns.take 40).map D.int, []) [] := by
      simp only [f_List, e_Sl, e_V0, bind_ok, e_oNo, e_oSo, e_C, sl_scr, c1, mkL_imm, size_val, List.length_map, List.length_take, if_pos k1, src_lst]
    rw [x_Ret, e_Lst, e_Cons, e_Lc, e0, bind_ok, w2, lc, bind_ok, mkL_mut, size_val, if_pos k2]
    simp
  · simp only [List.length_map]
    refine Nat.le_trans (List.length_filter_le _ _) ?_
    simp; omega
end K48

namespace K48
open DS L2
section
variable {st : Store}
/-- net, own = Net(), _law_blank() -/
theorem new_pair {env : DEnv} {i j : Nat} : sPar [i, j] (aCons (xCall den_Net aNil) (aCons (xCall den__law_blank aNil) aNil)) env st = .nx ((env.set i (some (.cell st.length))).set j (some (.cell (st.length + 3)))) (st ++ [.obj 2 [.cell (st.length + 1), .cell (st.length + 2)], .lst [], .lst [], ownO [] []]) := by
  have e0 := net_new (st := st)
  have e1 : den__law_blank [] (st ++ [.obj 2 [.cell (st.length + 1), .cell (st.length + 2)], .lst [], .lst []]) = .ok (.cell (st ++ [O.obj 2 [.cell (st.length + 1), .cell (st.length + 2)], .lst [], .lst []]).length) (st ++ [.obj 2 [.cell (st.length + 1), .cell (st.length + 2)], .lst [], .lst []] ++ [ownO [] []]) := by
    refine fnD_ret (N := N__law_blank) ?_ rfl
    unfold F__law_blank startE
    simp [ownO, Sta0, Sta.t, ml]
  simp at e1
  simp [e0, e1]
end
end K48

namespace K48
open DS L2
section
variable {G : Store × List Nat} {t q o n a b B B' : Nat} {S S' : List Sta} {M M' : List Nat} {ps l1 l2 : List Px} {p : Px} {S2 : List Sta} {M2 : List Nat} {st st' : Store}
theorem y0_eq {k : Nat} {s : Store} (h1 : s[k]? = some (.lst [])) (h2 : s[k + 1]? = some (.lst [])) (h3 : s[k + 2]? = some (.lst [])) : eqD (.lst [.cell k, .cell (k + 1), .cell (k + 2), .int 0]) (.lst [.lst [], .lst [], .lst [], .int 0]) s = .ok (.bl true) s := by
  have e1 : toPy 3 s (.lst [.cell k, .cell (k + 1), .cell (k + 2), .int 0]) = some (.list [.list [], .list [], .list [], .int 0]) := by
    unfold toPy
    simp [toPyA, toPyAL, h1, h2, h3]
  have e2 : toPy 3 s (.lst [.lst [], .lst [], .lst [], .int 0]) = some (.list [.list [], .list [], .list [], .int 0]) := by
    unfold toPy
    simp [toPyA, toPyAL]
  have e3 : (PySem.SeqAt.shaped (.list [.list [], .list [], .list [], .int 0]) = true) ∧ PySem.PyData.eqv (.list [.list [], .list [], .list [], .int 0]) (.list [.list [], .list [], .list [], .int 0]) = true := ⟨by decide +kernel, by decide +kernel⟩
  have e4 : eqP (.lst [.cell k, .cell (k + 1), .cell (k + 2), .int 0]) (.lst [.lst [], .lst [], .lst [], .int 0]) s = some true := by
    unfold eqP
    rw [e1, e2]
    dsimp only
    rw [if_pos ⟨e3.1, e3.1⟩, e3.2]
  unfold eqD
  have e5 : eqB (.lst [.cell k, .cell (k + 1), .cell (k + 2), .int 0]) (.lst [.lst [], .lst [], .lst [], .int 0]) s = some true := by
    unfold eqB
    simp [e4]
  rw [e5]
theorem Wk.empty (W : Wk G t q o n B [] M [] M st) : ∃ st', den__law_is_empty [.cell n] st = .ok (.bl true) st' ∧ Wk G t q o n B [] M [] M st' := by
  obtain ⟨a, b, N, na, nb, fa, fb⟩ := W.net
  have e1 := undo_exn N
  have e2 := seen_ok N good0 (by simp)
  have c : Chg [] st (st ++ [.lst ((cur []).L.map p2), .lst ((cur []).W.map p3), .lst ((cur []).F.map p2)]) := .app
  have lt := W.lt
  have lc := c.1
  refine ⟨_, fnD_ret (N := N__law_is_empty) ?_ rfl, ⟨W.tank.keep c (by simp) (by simp), W.own.keep c (by simp), ⟨a, b, N.keep c (by simp) (by simp) (by simp), na, nb, fa, fb⟩, W.no, W.oo, by omega, W.frame c (by simp)⟩⟩
  have e3 := y0_eq (k := st.length) (s := st ++ [.lst ((cur []).L.map p2), .lst ((cur []).W.map p3), .lst ((cur []).F.map p2)]) (by simp [cur, Sta0]) (by simp [List.getElem?_append_right, cur, Sta0]) (by simp [List.getElem?_append_right, cur, Sta0])
  unfold F__law_is_empty startE
  simp only [seenL, List.length_nil] at e2
  try simp at e3
  simp [N.o, e1, tryR_hit (k := 25) (cs := cs_NothingToUndo) rfl, e2, e3]
def unB : FS := sSeq (sSetI (xVar 1) (xC (.int 0)) (xSl false (xOp ixD (xVar 1) (xC (.int 0))) oNo (oSo (xUn negD (xC (.int 1))))))
 (sIf (bOr (bTest (xOp notND2 (xMeth [(2, den_Net_undo)] (xVar 0) aNil) (xC .non))) (bNot (bTest (xCall den__law_same (aCons (xVar 0) (aCons (xVar 1) aNil))))))
 (sRet (xC (.bl false)))
 sNil)
theorem undo_step {x : Option D} {m : Int} (W : Wk G t q o n B S [] S [] st) (g : ∀ z ∈ S, Good z) (hS : S.length ≤ 500) (ne : S ≠ []) :
    ∃ st', unB [some (.cell n), some (.cell o), some (.int m), x] st = .nx [some (.cell n), some (.cell o), some (.int m), x] st' ∧ Wk G t q o n B S.dropLast [] S.dropLast [] st' := by
  have oo := own_o W
  have sl : 0 < S.length := List.length_pos_iff.mpr ne
  have c1 : cutD (Sta0.t :: S.map Sta.t) none (some (-1)) = Sta0.t :: (S.dropLast).map Sta.t := by
    rw [cut_front]
    cases S with
    | nil => exact (ne rfl).elim
    | cons z S => simp [List.dropLast]
  have W1 := W.own_set (S2 := S.dropLast) (M2 := [])
  have k1 : S.length - 1 + 1 ≤ 16777216 := by omega
  have st1 : sSetI (xVar 1) (xC (.int 0)) (xSl false (xOp ixD (xVar 1) (xC (.int 0))) oNo (oSo (xUn negD (xC (.int 1))))) [some (.cell n), some (.cell o), some (.int m), x] st = .nx [some (.cell n), some (.cell o), some (.int m), x] (st.set o (ownO S.dropLast [])) := by
    simp [oo, c1, k1, ownO]
  generalize st.set o (ownO S.dropLast []) = s1 at *
  obtain ⟨a, b, N, na, nb⟩ := W1.net
  obtain ⟨s2, e2, G⟩ := undo_ok N ne (by omega) (by simp)
  have W2 := W1.goes N na nb G
  obtain ⟨s3, e3, W3⟩ := W2.same (fun z hz => g z ((List.dropLast_sublist S).subset hz)) (by simp; omega)
  refine ⟨s3, ?_, W3⟩
  unfold unB
  rw [x_Seq, st1, seq_nx]
  simp [N.o, e2, e3]
theorem undo_loop {m : Int} : ∀ (ds : List D) {S : List Sta} {st : Store} {x : Option D} (W : Wk G t q o n B S [] S [] st) (g : ∀ z ∈ S, Good z) (hS : S.length ≤ 500) (hd : ds.length ≤ S.length),
    ∃ st' y, forL [] (gNm 3) unB ds [some (.cell n), some (.cell o), some (.int m), x] st = .nx [some (.cell n), some (.cell o), some (.int m), y] st' ∧ Wk G t q o n B (S.take (S.length - ds.length)) [] (S.take (S.length - ds.length)) [] st'
  | [], S, st, x, W, g, hS, hd => ⟨st, x, for_nil keep_nil, by simpa using W⟩
  | d :: ds, S, st, x, W, g, hS, hd => by
    simp only [List.length_cons] at hd
    have ne : S ≠ [] := fun z => by subst z; simp at hd
    obtain ⟨s1, e1, W1⟩ := undo_step (x := some d) (m := m) W g hS ne
    obtain ⟨s2, y, e2, W2⟩ := undo_loop (m := m) (x := some d) ds W1 (fun z hz => g z ((List.dropLast_sublist S).subset hz)) (by simp; omega) (by simp; omega)
    have eq : S.dropLast.take (S.dropLast.length - ds.length) = S.take (S.length - (ds.length + 1)) := by
      rw [List.dropLast_eq_take, List.take_take, List.length_take]
      congr 1
      omega
    rw [eq] at W2
    refine ⟨s2, y, ?_, by simpa using W2⟩
    rw [for_cons keep_nil (env1 := [some (.cell n), some (.cell o), some (.int m), some d]) rfl, e1]
    exact e2
theorem undone_ok {m : Int} (W : Wk G t q o n B S [] S [] st) (g : ∀ z ∈ S, Good z) (hS : S.length ≤ 500) (h0 : 0 ≤ m) (h1 : m ≤ S.length) :
    ∃ st', den__law_undone [.cell n, .cell o, .int m] st = .ok (.bl true) st' ∧ Wk G t q o n B (S.take (S.length - m.toNat)) [] (S.take (S.length - m.toNat)) [] st' := by
  have rl : (rangeL 0 m.toNat).length = m.toNat := by simp [rangeL]
  obtain ⟨s1, y, e1, W1⟩ := undo_loop (m := m) (x := none) (rangeL 0 m.toNat) W g hS (by omega)
  rw [rl] at W1
  refine ⟨s1, fnD_ret (N := N__law_undone) ?_ rfl, W1⟩
  have rg : fRange1 (aCons (xVar 2) aNil) [some (.cell n), some (.cell o), some (.int m), none] st = .ok (rangeL 0 m.toNat, []) st := range1_ok (by simp) (by omega) (by omega)
  have stA : sFor (fRange1 (aCons (xVar 2) aNil)) (gNm 3) unB (startE N__law_undone [.cell n, .cell o, .int m]) st = .nx [some (.cell n), some (.cell o), some (.int m), y] s1 := by
    show sFor _ _ _ [some (.cell n), some (.cell o), some (.int m), none] st = _
    rw [x_For, rg, to_ok]
    exact e1
  show F__law_undone _ _ = _
  unfold F__law_undone
  rw [x_Seq]
  show ((sFor _ (gNm 3) unB _ _).seq _) = _
  rw [stA]
  simp
theorem call3 {env : DEnv} {den : List D → DS.M D} {f g h : FE} {x y z : D} (h1 : f env st = .ok x st) (h2 : g env st = .ok y st) (h3 : h env st = .ok z st) : xCall den (aCons f (aCons g (aCons h aNil))) env st = den [x, y, z] st := by
  rw [e_Call, e_Cons, h1, bind_ok, e_Cons, h2, bind_ok, e_Cons, h3, bind_ok, e_Nil, bind_ok, bind_ok, bind_ok, bind_ok]
/-- len(own[0]) - 1, own in slot 3 -/
theorem len_own {x0 x1 x2 : Option D} {l : DEnv} (oo : st[o]? = some (.lst [.lst (Sta0.t :: S.map Sta.t), .lst (ml M)])) : xOp subD (xCB lenD (aCons (xOp ixD (xVar 3) (xC (.int 0))) aNil)) (xC (.int 1)) (x0 :: x1 :: x2 :: some (.cell o) :: l) st = .ok (.int S.length) st := by
  have e : ((Sta0.t :: S.map Sta.t).length : Int) - 1 = S.length := by
    simp only [List.length_cons, List.length_map]
    omega
  have e1 : xCB lenD (aCons (xOp ixD (xVar 3) (xC (.int 0))) aNil) (x0 :: x1 :: x2 :: some (.cell o) :: l) st = .ok (.int (Sta0.t :: S.map Sta.t).length) st := by
    simp only [e_CB, e_Cons, e_Op, e_VS, e_V0, bind_ok, e_C, ix_cell, oo, ixO_some, at_0, ixR_some, e_Nil, len_lst]
  rw [e_Op, e1, bind_ok, e_C, bind_ok, sub_i, e]
/-- the loop over _law_grown, in two places of law -/
def grB : FS := sIf (bNot (bTest (xCall den__law_grown (aCons (xVar 1) (aCons (xVar 2) (aCons (xVar 3) (aCons (xCall den__law_sip (aCons (xVar 1) (aCons (xC (.int 5)) aNil))) aNil)))))))
 (sRet (xC (.bl false)))
 sNil
theorem grown_loop {w : D} {gt : TGD} (rest : Option D → DEnv) (hg : ∀ x y, gt (some w :: some (.cell t) :: some (.cell n) :: some (.cell o) :: rest x) y = some (some w :: some (.cell t) :: some (.cell n) :: some (.cell o) :: rest (some y))) :
    ∀ (ds : List D) {B : Nat} {S : List Sta} {st : Store} {x : Option D} (W : Wk G t q o n B S [] S [] st) (g : ∀ z ∈ S, Good z) (hB : B + 20 * ds.length < 2 ^ 60) (hS : S.length + ds.length ≤ 300),
      ∃ st' y B' S2, forL [] gt grB ds (some w :: some (.cell t) :: some (.cell n) :: some (.cell o) :: rest x) st = .nx (some w :: some (.cell t) :: some (.cell n) :: some (.cell o) :: rest y) st' ∧ B' ≤ B + 20 * ds.length ∧ (∀ z ∈ S2, Good z) ∧ S2.length ≤ S.length + ds.length ∧ Wk G t q o n B' S2 [] S2 [] st'
  | [], B, S, st, x, W, g, hB, hS => ⟨st, x, B, S, for_nil keep_nil, by omega, g, by omega, W⟩
  | d :: ds, B, S, st, x, W, g, hB, hS => by
    simp only [List.length_cons] at hB hS
    obtain ⟨f, s1, e1, f0, f1, W1⟩ := W.sip (by omega) (many := 5) (by decide) (by decide)
    obtain ⟨s2, S2, B2, e2, g2, l2, b2, W2⟩ := grown_ok W1 (by omega) g (by omega) (way := f)
    obtain ⟨s3, y, B3, S3, e3, b3, g3, l3, W3⟩ := grown_loop rest hg ds (x := some d) W2 g2 (by omega) (by omega)
    refine ⟨s3, y, B3, S3, ?_, by simp only [List.length_cons]; omega, g3, by simp only [List.length_cons]; omega, W3⟩
    have e4 : grB (some w :: some (.cell t) :: some (.cell n) :: some (.cell o) :: rest (some d)) st = .nx (some w :: some (.cell t) :: some (.cell n) :: some (.cell o) :: rest (some d)) s2 := by
      unfold grB
      simp [e1, e2]
    rw [for_cons keep_nil (hg _ _), e4]
    exact e3
end
end K48

namespace K48
open DS L2
section
variable {G : Store × List Nat} {t q o n a b B B' : Nat} {S S' : List Sta} {M M' : List Nat} {ps l1 l2 : List Px} {p : Px} {S2 : List Sta} {M2 : List Nat} {st st' : Store}
def kE (w : D) (t n o : Nat) (x y z u v r : Option D) : DEnv := [some w, some (.cell t), some (.cell n), some (.cell o), x, y, z, u, v, r]
def inB : FS := (sSeq (sFor (fRange1 (aCons (xOp (addD false) (xC (.int 1)) (xCall den__law_sip (aCons (xVar 1) (aCons (xC (.int 14)) aNil)))) aNil)) (gNm 9) grB)
 (sIf (bNot (bTest (xCall den__law_undone (aCons (xVar 2) (aCons (xVar 3) (aCons (xCall den__law_sip (aCons (xVar 1) (aCons (xCB lenD (aCons (xOp ixD (xVar 3) (xC (.int 0))) aNil)) aNil))) aNil))))))
 (sRet (xC (.bl false)))
 sNil))
theorem in_step {w : D} {x y z u v r : Option D} (W : Wk G t q o n B S [] S [] st) (g : ∀ z ∈ S, Good z) (hB : B < 2 ^ 50) (hS : S.length ≤ 200) :
    ∃ st' r' B' S2, inB (kE w t n o x y z u v r) st = .nx (kE w t n o x y z u v r') st' ∧ B' ≤ B + 500 ∧ (∀ z ∈ S2, Good z) ∧ S2.length ≤ S.length + 20 ∧ Wk G t q o n B' S2 [] S2 [] st' := by
  obtain ⟨f, s1, e1, f0, f1, W1⟩ := W.sip (by omega) (many := 14) (by decide) (by decide)
  have rl : (rangeL 0 (1 + f).toNat).length ≤ 14 := by simp [rangeL]; omega
  obtain ⟨s2, r2, B2, S2, e2, b2, g2, l2, W2⟩ := grown_loop (w := w) (gt := gNm 9) (fun r => [x, y, z, u, v, r]) (fun _ _ => rfl) (rangeL 0 (1 + f).toNat) (x := r) W1 g (by omega) (by omega)
  have oo := own_o W2
  obtain ⟨m, s3, e3, m0, m1, W3⟩ := W2.sip (by omega) (many := (S2.length : Int) + 1) (by omega) (by omega)
  obtain ⟨s4, e4, W4⟩ := undone_ok W3 g2 (by omega) m0 (by omega)
  refine ⟨s4, r2, B2 + 1, _, ?_, by omega, fun z hz => g2 z (List.mem_of_mem_take hz), by simp; omega, W4⟩
  have rg : fRange1 (aCons (xOp (addD false) (xC (.int 1)) (xCall den__law_sip (aCons (xVar 1) (aCons (xC (.int 14)) aNil)))) aNil) (kE w t n o x y z u v r) st = .ok (rangeL 0 (1 + f).toNat, []) s1 := range1_ok (s := s1) (by simp [kE, e1]) (by omega) (by omega)
  have stA : sFor (fRange1 (aCons (xOp (addD false) (xC (.int 1)) (xCall den__law_sip (aCons (xVar 1) (aCons (xC (.int 14)) aNil)))) aNil)) (gNm 9) grB (kE w t n o x y z u v r) st = .nx (kE w t n o x y z u v r2) s2 := by
    rw [x_For, rg, to_ok]
    exact e2
  unfold inB
  rw [x_Seq, stA, seq_nx]
  simp [kE, oo, e3, e4]
theorem in_loop {w : D} {y z u v : Option D} : ∀ (ds : List D) {x r : Option D} {B : Nat} {S : List Sta} {st : Store} (W : Wk G t q o n B S [] S [] st) (g : ∀ z ∈ S, Good z) (hB : B + 500 * ds.length < 2 ^ 45) (hS : S.length + 20 * ds.length ≤ 200),
    ∃ st' x' r' B' S2, forL [] (gNm 4) inB ds (kE w t n o x y z u v r) st = .nx (kE w t n o x' y z u v r') st' ∧ B' ≤ B + 500 * ds.length ∧ (∀ z ∈ S2, Good z) ∧ S2.length ≤ 200 ∧ Wk G t q o n B' S2 [] S2 [] st'
  | [], x, r, B, S, st, W, g, hB, hS => ⟨st, x, r, B, S, for_nil keep_nil, by omega, g, by simpa using hS, W⟩
  | d :: ds, x, r, B, S, st, W, g, hB, hS => by
    simp only [List.length_cons] at hB hS
    obtain ⟨s1, r1, B1, S1, e1, b1, g1, l1, W1⟩ := in_step (w := w) (x := some d) (y := y) (z := z) (u := u) (v := v) (r := r) W g (by omega) (by omega)
    obtain ⟨s2, x2, r2, B2, S2, e2, b2, g2, l2, W2⟩ := in_loop (w := w) (x := some d) (y := y) (z := z) (u := u) (v := v) (r := r1) ds W1 g1 (by omega) (by omega)
    refine ⟨s2, x2, r2, B2, S2, ?_, by simp only [List.length_cons]; omega, g2, l2, W2⟩
    rw [for_cons keep_nil (env1 := kE w t n o (some d) y z u v r) rfl, e1]
    exact e2
def lapB : FS := (sSeq (sPar [2, 3] (aCons (xCall den_Net aNil) (aCons (xCall den__law_blank aNil) aNil)))
 (sSeq (sFor (fRange1 (aCons (xC (.int 3)) aNil)) (gNm 4) inB)
 (sIf (bOr (bNot (bTest (xCall den__law_undone (aCons (xVar 2) (aCons (xVar 3) (aCons (xOp subD (xCB lenD (aCons (xOp ixD (xVar 3) (xC (.int 0))) aNil)) (xC (.int 1))) aNil)))))) (bNot (bTest (xCall den__law_is_empty (aCons (xVar 2) aNil)))))
 (sRet (xC (.bl false)))
 sNil)))
theorem take0 : S.take (S.length - ((S.length : Nat) : Int).toNat) = [] := by simp
theorem lap_ok {w : D} {x y z u v r : Option D} (T : TankAt t q B st) (hB : B < 2 ^ 40) : ∃ st' n1 o1 x' r' B', lapB (kE w t n o x y z u v r) st = .nx (kE w t n1 o1 x' y z u v r') st' ∧ B' ≤ B + 2000 ∧ TankAt t q B' st' := by
  have W0 := (World.none_ T).fresh
  have K0 := World.solo (l1 := []) (l2 := []) W0
  have st1 := new_pair (st := st) (env := kE w t n o x y z u v r) (i := 2) (j := 3)
  generalize (st ++ [O.obj 2 [.cell (st.length + 1), .cell (st.length + 2)], .lst [], .lst [], ownO [] []]) = s1 at *
  generalize st.length = L at *
  have st1 : _ = Out.nx (kE w t L (L + 3) x y z u v r) s1 := st1
  dsimp only at K0
  obtain ⟨s2, x2, r2, B2, S2, e2, b2, g2, l2, K2⟩ := in_loop (w := w) (x := x) (y := y) (z := z) (u := u) (v := v) (r := r) [.int 0, .int 1, .int 2] K0 (by simp) (by simp; omega) (by simp)
  simp only [List.length_cons, List.length_nil] at b2
  have oo := own_o K2
  obtain ⟨s3, e3, K3⟩ := undone_ok (m := (S2.length : Int)) K2 g2 (by omega) (by omega) (by omega)
  rw [take0] at K3
  obtain ⟨s4, e4, K4⟩ := K3.empty
  refine ⟨s4, L, L + 3, x2, r2, B2, ?_, by omega, K4.tank⟩
  have rg : fRange1 (aCons (xC (.int 3)) aNil) (kE w t L (L + 3) x y z u v r) s1 = .ok ([.int 0, .int 1, .int 2], []) s1 := range1_ok (j := 3) rfl (by decide) (by decide)
  have stB : sFor (fRange1 (aCons (xC (.int 3)) aNil)) (gNm 4) inB (kE w t L (L + 3) x y z u v r) s1 = .nx (kE w t L (L + 3) x2 y z u v r2) s2 := by
    rw [x_For, rg, to_ok]
    exact e2
  unfold lapB
  rw [x_Seq, st1, seq_nx, x_Seq, stB, seq_nx]
  have hm : xOp subD (xCB lenD (aCons (xOp ixD (xVar 3) (xC (.int 0))) aNil)) (xC (.int 1)) (kE w t L (L + 3) x2 y z u v r2) s2 = .ok (.int S2.length) s2 := len_own oo
  rw [x_If, e_bOr, e_bNot, e_Test, e_Call, e_Cons, show xVar 2 (kE w t L (L + 3) x2 y z u v r2) s2 = .ok (.cell L) s2 from rfl, bind_ok, e_Cons, show xVar 3 (kE w t L (L + 3) x2 y z u v r2) s2 = .ok (.cell (L + 3)) s2 from rfl, bind_ok, e_Cons, hm, bind_ok, e_Nil, bind_ok, bind_ok, bind_ok, bind_ok, e3]
  simp [kE, e4]
theorem laps_ok {w : D} {y z u : Option D} : ∀ (ds : List D) {n o B : Nat} {st : Store} {x v r : Option D} (T : TankAt t q B st) (hB : B + 2000 * ds.length < 2 ^ 40), ∃ st' n1 o1 x' v' r', forL [] (gNm 8) lapB ds (kE w t n o x y z u v r) st = .nx (kE w t n1 o1 x' y z u v' r') st'
  | [], n, o, B, st, x, v, r, T, hB => ⟨st, n, o, x, v, r, for_nil keep_nil⟩
  | d :: ds, n, o, B, st, x, v, r, T, hB => by
    simp only [List.length_cons] at hB
    obtain ⟨s1, n1, o1, x1, r1, B1, e1, b1, T1⟩ := lap_ok (w := w) (n := n) (o := o) (x := x) (y := y) (z := z) (u := u) (v := some d) (r := r) T (by omega)
    obtain ⟨s2, n2, o2, x2, v2, r2, e2⟩ := laps_ok (w := w) (n := n1) (o := o1) (x := x1) (y := y) (z := z) (u := u) (v := some d) (r := r1) ds T1 (by omega)
    refine ⟨s2, n2, o2, x2, v2, r2, ?_⟩
    rw [for_cons keep_nil (env1 := kE w t n o x y z u (some d) r) rfl, e1]
    exact e2
theorem plain (ns : List Int) (hl : ns.length ≤ 63) : ∃ st, den_law [.scr ns] [] = .ok (.bl true) st := by
  obtain ⟨xs, m, e, x0, m0, m1⟩ := tank_ok ns hl
  have T : TankAt 1 0 0 [.lst (iL xs), .lst [.cell 0, .int m, .int 0]] := ⟨xs, m, 0, rfl, rfl, x0, m0, m1, by decide, by decide⟩
  generalize hst0 : [O.lst (iL xs), O.lst [.cell 0, .int m, .int 0]] = st0 at *
  have W0 := (World.none_ T).fresh
  have K0 := World.solo (l1 := []) (l2 := []) W0
  have st1 := new_pair (st := st0) (env := [some (.scr ns), some (.cell 1), none, none, none, none, none, none, none, none]) (i := 2) (j := 3)
  generalize (st0 ++ [O.obj 2 [.cell (st0.length + 1), .cell (st0.length + 2)], .lst [], .lst [], ownO [] []]) = s1 at *
  generalize st0.length = L at *
  have st1 : _ = Out.nx (kE (.scr ns) 1 L (L + 3) none none none none none none) s1 := st1
  dsimp only at K0
  obtain ⟨s2, e2, K2⟩ := K0.empty
  obtain ⟨s3, y3, B3, S3, e3, b3, g3, l3, K3⟩ := grown_loop (w := .scr ns) (gt := gNm 4) (fun r => [r, none, none, none, none, none]) (fun _ _ => rfl) (rangeL 0 100) (x := none) K2 (by simp) (by simp [rangeL]) (by simp [rangeL])
  have rl : (rangeL 0 100).length = 100 := by simp [rangeL]
  rw [rl] at b3 l3
  simp only [List.length_nil] at l3
  obtain ⟨a3, b3', W3⟩ := W0.step (l1 := []) (l2 := []) K3
  have at3 := W3.at_ ⟨L + 3, L, a3, b3', S3, []⟩ (by simp)
  have e4 := twin_ok at3.net (show S3.length ≤ 1000 by omega) (by simp)
  have a1 : ∀ l : Store, (s3 ++ l)[L + 3]? = some (.lst [.lst (Sta0.t :: S3.map Sta.t), .lst (ml [])]) := fun l => (List.getElem?_append_left (lt_of_get at3.own.o)).trans at3.own.o
  have W4 := W3.twin (show S3.length ≤ 1000 by omega) (by simp)
  dsimp only at e4 W4
  have st5 : sPar [5, 6, 7] (aCons (xMeth [(2, den_Net_twin)] (xVar 2) aNil) (aCons (xLst true (aCons (xOp ixD (xVar 3) (xC (.int 0))) (aCons (xOp ixD (xVar 3) (xC (.int 1))) aNil))) (aCons (xOp subD (xCB lenD (aCons (xOp ixD (xVar 3) (xC (.int 0))) aNil)) (xC (.int 1))) aNil))) (kE (.scr ns) 1 L (L + 3) y3 none none none none none) s3 =
      .nx (kE (.scr ns) 1 L (L + 3) y3 (some (.cell s3.length)) (some (.cell (s3.length + 5))) (some (.int S3.length)) none none) (s3 ++ (twinS s3.length S3 [] ++ [ownO S3 []])) := by
    have a2 := at3.net.o
    dsimp only at a2
    have hm : xOp subD (xCB lenD (aCons (xOp ixD (xVar 3) (xC (.int 0))) aNil)) (xC (.int 1)) (kE (.scr ns) 1 L (L + 3) y3 none none none none none) (s3 ++ (twinS s3.length S3 [] ++ [ownO S3 []])) = .ok (.int S3.length) (s3 ++ (twinS s3.length S3 [] ++ [ownO S3 []])) := len_own (a1 _)
    have h1 : xMeth [(2, den_Net_twin)] (xVar 2) aNil (kE (.scr ns) 1 L (L + 3) y3 none none none none none) s3 = .ok (.cell s3.length) (s3 ++ twinS s3.length S3 []) := by
      simp [kE, a2, e4]
    have h2 : xLst true (aCons (xOp ixD (xVar 3) (xC (.int 0))) (aCons (xOp ixD (xVar 3) (xC (.int 1))) aNil)) (kE (.scr ns) 1 L (L + 3) y3 none none none none none) (s3 ++ twinS s3.length S3 []) = .ok (.cell (s3.length + 5)) (s3 ++ (twinS s3.length S3 [] ++ [ownO S3 []])) := by
      simp [kE, a1]
      simp [twinS, ownO]
    rw [x_Par, e_Cons, h1, bind_ok, e_Cons, h2, bind_ok, e_Cons, hm, bind_ok, e_Nil, bind_ok, bind_ok, bind_ok, to_ok]
    rfl
  generalize (s3 ++ (twinS s3.length S3 [] ++ [ownO S3 []])) = s5 at *
  generalize s3.length = L2 at *
  have K5 := World.solo (l1 := []) (l2 := [⟨L2 + 5, L2, L2 + 3, L2 + 4, S3, []⟩]) W4
  dsimp only at K5
  obtain ⟨s6, e6, K6⟩ := K5.same g3 (by omega)
  obtain ⟨s7, e7, K7⟩ := undone_ok (m := (S3.length : Int)) K6 g3 (by omega) (by omega) (by omega)
  rw [take0] at K7
  obtain ⟨s8, e8, K8⟩ := K7.empty
  obtain ⟨a8, b8, W8⟩ := W4.step (l1 := []) (l2 := [⟨L2 + 5, L2, L2 + 3, L2 + 4, S3, []⟩]) K8
  have K9 := World.solo (l1 := [⟨L + 3, L, a8, b8, [], []⟩]) (l2 := []) W8
  dsimp only at K9
  obtain ⟨s10, e10, K10⟩ := K9.same g3 (by omega)
  obtain ⟨s11, e11, K11⟩ := undone_ok (m := (S3.length : Int)) K10 g3 (by omega) (by omega) (by omega)
  rw [take0] at K11
  obtain ⟨s12, e12, K12⟩ := K11.empty
  have hlen : (rangeL 0 (if 2 < (ns.length : Int) then 2 else (ns.length : Int)).toNat).length ≤ 2 := by
    simp [rangeL]
    split <;> omega
  obtain ⟨s13, n13, o13, x13, v13, r13, e13⟩ := laps_ok (w := .scr ns) (n := L) (o := L + 3) (x := y3) (y := some (.cell L2)) (z := some (.cell (L2 + 5))) (u := some (.int S3.length)) (v := none) (r := none) (rangeL 0 (if 2 < (ns.length : Int) then 2 else (ns.length : Int)).toNat) K12.tank (by omega)
  refine ⟨s13, fnD_ret (N := N_law) ?_ rfl⟩
  have stA : sAsg (gNm 1) (xCall den__law_tank (aCons (xVar 0) aNil)) (startE N_law [.scr ns]) [] = .nx [some (.scr ns), some (.cell 1), none, none, none, none, none, none, none, none] st0 := by
    simp [startE, e]
  have stC : sIf (bNot (bTest (xCall den__law_is_empty (aCons (xVar 2) aNil)))) (sRet (xC (.bl false))) sNil (kE (.scr ns) 1 L (L + 3) none none none none none none) s1 = .nx (kE (.scr ns) 1 L (L + 3) none none none none none none) s2 := by
    simp [kE, e2]
  have rg : fRange1 (aCons (xC (.int 100)) aNil) (kE (.scr ns) 1 L (L + 3) none none none none none none) s2 = .ok (rangeL 0 100, []) s2 := range1_ok (j := 100) rfl (by decide) (by decide)
  have stD : sFor (fRange1 (aCons (xC (.int 100)) aNil)) (gNm 4) grB (kE (.scr ns) 1 L (L + 3) none none none none none none) s2 = .nx (kE (.scr ns) 1 L (L + 3) y3 none none none none none) s3 := by
    rw [x_For, rg, to_ok]
    exact e3
  have stE : sIf (bOr (bNot (bTest (xCall den__law_same (aCons (xVar 2) (aCons (xVar 3) aNil))))) (bOr (bNot (bTest (xCall den__law_undone (aCons (xVar 2) (aCons (xVar 3) (aCons (xVar 7) aNil)))))) (bNot (bTest (xCall den__law_is_empty (aCons (xVar 2) aNil)))))) (sRet (xC (.bl false))) sNil
      (kE (.scr ns) 1 L (L + 3) y3 (some (.cell L2)) (some (.cell (L2 + 5))) (some (.int S3.length)) none none) s5 = .nx (kE (.scr ns) 1 L (L + 3) y3 (some (.cell L2)) (some (.cell (L2 + 5))) (some (.int S3.length)) none none) s8 := by
    have b1 : bNot (bTest (xCall den__law_same (aCons (xVar 2) (aCons (xVar 3) aNil)))) (kE (.scr ns) 1 L (L + 3) y3 (some (.cell L2)) (some (.cell (L2 + 5))) (some (.int S3.length)) none none) s5 = .ok false s6 := by
      rw [e_bNot, e_Test, show xCall den__law_same (aCons (xVar 2) (aCons (xVar 3) aNil)) (kE (.scr ns) 1 L (L + 3) y3 (some (.cell L2)) (some (.cell (L2 + 5))) (some (.int S3.length)) none none) s5 = .ok (.bl true) s6 from e6]
      rfl
    have b2 : bNot (bTest (xCall den__law_undone (aCons (xVar 2) (aCons (xVar 3) (aCons (xVar 7) aNil))))) (kE (.scr ns) 1 L (L + 3) y3 (some (.cell L2)) (some (.cell (L2 + 5))) (some (.int S3.length)) none none) s6 = .ok false s7 := by
      rw [e_bNot, e_Test, show xCall den__law_undone (aCons (xVar 2) (aCons (xVar 3) (aCons (xVar 7) aNil))) (kE (.scr ns) 1 L (L + 3) y3 (some (.cell L2)) (some (.cell (L2 + 5))) (some (.int S3.length)) none none) s6 = .ok (.bl true) s7 from (call3 (x := .cell L) (y := .cell (L + 3)) (z := .int S3.length) rfl rfl rfl).trans e7]
      rfl
    have b3 : bNot (bTest (xCall den__law_is_empty (aCons (xVar 2) aNil))) (kE (.scr ns) 1 L (L + 3) y3 (some (.cell L2)) (some (.cell (L2 + 5))) (some (.int S3.length)) none none) s7 = .ok false s8 := by
      rw [e_bNot, e_Test, show xCall den__law_is_empty (aCons (xVar 2) aNil) (kE (.scr ns) 1 L (L + 3) y3 (some (.cell L2)) (some (.cell (L2 + 5))) (some (.int S3.length)) none none) s7 = .ok (.bl true) s8 from e8]
      rfl
    rw [x_If, e_bOr, b1, bind_ok, if_neg (by decide), e_bOr, b2, bind_ok, if_neg (by decide), b3, to_ok, if_neg (by decide)]
    rfl
  have stF : sIf (bOr (bNot (bTest (xCall den__law_same (aCons (xVar 5) (aCons (xVar 6) aNil))))) (bOr (bNot (bTest (xCall den__law_undone (aCons (xVar 5) (aCons (xVar 6) (aCons (xVar 7) aNil)))))) (bNot (bTest (xCall den__law_is_empty (aCons (xVar 5) aNil)))))) (sRet (xC (.bl false))) sNil
      (kE (.scr ns) 1 L (L + 3) y3 (some (.cell L2)) (some (.cell (L2 + 5))) (some (.int S3.length)) none none) s8 = .nx (kE (.scr ns) 1 L (L + 3) y3 (some (.cell L2)) (some (.cell (L2 + 5))) (some (.int S3.length)) none none) s12 := by
    have b1 : bNot (bTest (xCall den__law_same (aCons (xVar 5) (aCons (xVar 6) aNil)))) (kE (.scr ns) 1 L (L + 3) y3 (some (.cell L2)) (some (.cell (L2 + 5))) (some (.int S3.length)) none none) s8 = .ok false s10 := by
      rw [e_bNot, e_Test, show xCall den__law_same (aCons (xVar 5) (aCons (xVar 6) aNil)) (kE (.scr ns) 1 L (L + 3) y3 (some (.cell L2)) (some (.cell (L2 + 5))) (some (.int S3.length)) none none) s8 = .ok (.bl true) s10 from e10]
      rfl
    have b2 : bNot (bTest (xCall den__law_undone (aCons (xVar 5) (aCons (xVar 6) (aCons (xVar 7) aNil))))) (kE (.scr ns) 1 L (L + 3) y3 (some (.cell L2)) (some (.cell (L2 + 5))) (some (.int S3.length)) none none) s10 = .ok false s11 := by
      rw [e_bNot, e_Test, show xCall den__law_undone (aCons (xVar 5) (aCons (xVar 6) (aCons (xVar 7) aNil))) (kE (.scr ns) 1 L (L + 3) y3 (some (.cell L2)) (some (.cell (L2 + 5))) (some (.int S3.length)) none none) s10 = .ok (.bl true) s11 from (call3 (x := .cell L2) (y := .cell (L2 + 5)) (z := .int S3.length) rfl rfl rfl).trans e11]
      rfl
    have b3 : bNot (bTest (xCall den__law_is_empty (aCons (xVar 5) aNil))) (kE (.scr ns) 1 L (L + 3) y3 (some (.cell L2)) (some (.cell (L2 + 5))) (some (.int S3.length)) none none) s11 = .ok false s12 := by
      rw [e_bNot, e_Test, show xCall den__law_is_empty (aCons (xVar 5) aNil) (kE (.scr ns) 1 L (L + 3) y3 (some (.cell L2)) (some (.cell (L2 + 5))) (some (.int S3.length)) none none) s11 = .ok (.bl true) s12 from e12]
      rfl
    rw [x_If, e_bOr, b1, bind_ok, if_neg (by decide), e_bOr, b2, bind_ok, if_neg (by decide), b3, to_ok, if_neg (by decide)]
    rfl
  have rg2 : fRange1 (aCons (xCB min2D (aCons (xCB lenD (aCons (xVar 0) aNil)) (aCons (xC (.int 2)) aNil))) aNil) (kE (.scr ns) 1 L (L + 3) y3 (some (.cell L2)) (some (.cell (L2 + 5))) (some (.int S3.length)) none none) s12 = .ok (rangeL 0 (if 2 < (ns.length : Int) then 2 else (ns.length : Int)).toNat, []) s12 :=
    range1_ok (by simp [kE]) (by split <;> omega) (by split <;> omega)
  have stG : sFor (fRange1 (aCons (xCB min2D (aCons (xCB lenD (aCons (xVar 0) aNil)) (aCons (xC (.int 2)) aNil))) aNil)) (gNm 8) lapB (kE (.scr ns) 1 L (L + 3) y3 (some (.cell L2)) (some (.cell (L2 + 5))) (some (.int S3.length)) none none) s12 = .nx (kE (.scr ns) 1 n13 o13 x13 (some (.cell L2)) (some (.cell (L2 + 5))) (some (.int S3.length)) v13 r13) s13 := by
    rw [x_For, rg2, to_ok]
    exact e13
  show F_law _ _ = _
  unfold F_law
  rw [x_Seq, stA, seq_nx, x_Seq, st1, seq_nx, x_Seq, stC, seq_nx, x_Seq]
  show ((sFor _ (gNm 4) grB _ _).seq _) = _
  rw [stD, seq_nx, x_Seq, st5, seq_nx, x_Seq, stE, seq_nx, x_Seq, stF, seq_nx, x_Seq]
  show ((sFor _ (gNm 8) lapB _ _).seq _) = _
  rw [stG]
  simp
end
end K48

open PySem PySem.W PyProof.Rows in
set_option maxRecDepth 100000 in
set_option maxHeartbeats 0 in
theorem PySem.Challenge.cw_onwardlines_k48_histories_of_nets_holds : PySem.Challenge.rw_onwardlines_k48_histories_of_nets.Holds := by
  w_on; o_law; k_head; (case hw => w_witness2)
  k_fill
  refine DS.walkD (l := PySem.Challenge.rw_onwardlines_k48_histories_of_nets) (n := 63) (k := 8) (den := K48.den_law) (x := "script") rfl (by decide) rfl ⟨rfl, by decide, by decide⟩ (fun w h Y => PySem.W.kIn_of Y) ?F K48.plain
  case F =>
    intro w mg fa h KX G hmg
    refine' K48.all_mk KX G hmg ?aCNet ?aCState ?aCInvalidFixed ?aCInvalidIndex ?aCInvalidLine ?aCInvalidWishes ?aCNothingToUndo ?a_Net__init_ ?i_Net__init_ ?l_Net__init_ ?c_Net__init_ ?k_Net__init_ ?a_Net_twin ?i_Net_twin ?l_Net_twin ?c_Net_twin ?k_Net_twin ?a__law_blank ?l__law_blank ?c__law_blank ?k__law_blank ?a_State__init_ ?i_State__init_ ?l_State__init_ ?c_State__init_ ?k_State__init_ ?a_Net_present ?i_Net_present ?l_Net_present ?c_Net_present ?k_Net_present ?a_is_number_from ?l_is_number_from ?c_is_number_from ?k_is_number_from ?a_Net_add ?i_Net_add ?l_Net_add ?c_Net_add ?k_Net_add ?a_Net_drop ?i_Net_drop ?l_Net_drop ?c_Net_drop ?k_Net_drop ?a_Net_need_line ?i_Net_need_line ?l_Net_need_line ?c_Net_need_line ?k_Net_need_line ?a_Net_fix ?i_Net_fix ?l_Net_fix ?c_Net_fix ?k_Net_fix ?a_Net_wish ?i_Net_wish ?l_Net_wish ?c_Net_wish ?k_Net_wish ?a__law_sip ?l__law_sip ?c__law_sip ?k__law_sip ?a__law_headway ?l__law_headway ?c__law_headway ?k__law_headway ?a__law_put ?l__law_put ?c__law_put ?k__law_put ?a__law_grown ?l__law_grown ?c__law_grown ?k__law_grown ?a_Net_undo ?i_Net_undo ?l_Net_undo ?c_Net_undo ?k_Net_undo ?a_Net__len_ ?i_Net__len_ ?l_Net__len_ ?c_Net__len_ ?k_Net__len_ ?a_Net_fixed ?i_Net_fixed ?l_Net_fixed ?c_Net_fixed ?k_Net_fixed ?a_Net_lines ?i_Net_lines ?l_Net_lines ?c_Net_lines ?k_Net_lines ?a_Net_wishes ?i_Net_wishes ?l_Net_wishes ?c_Net_wishes ?k_Net_wishes ?a__law_seen ?l__law_seen ?c__law_seen ?k__law_seen ?a__law_is_empty ?l__law_is_empty ?c__law_is_empty ?k__law_is_empty ?a__law_due ?l__law_due ?c__law_due ?k__law_due ?a__law_same ?l__law_same ?c__law_same ?k__law_same ?a__law_tank ?l__law_tank ?c__law_tank ?k__law_tank ?a__law_undone ?l__law_undone ?c__law_undone ?k__law_undone ?a_law ?l_law ?c_law ?k_law ?pg_Net ?hd_Net ?po_Net ?sa_Net ?mk_Net ?kc_Net ?pg_State ?hd_State ?po_State ?sa_State ?mk_State ?kc_State ?n_states_Net ?n_marks_Net ?n_all_lines_State ?n_all_wishes_State ?n_all_fixed_State ?z_abs ?z_all ?z_bool ?z_int ?z_isinstance ?z_len ?z_list ?z_min ?z_range ?z_repr ?v_MOST_LINES ?v_MOST_WISHES ?x1_InvalidFixed ?x2_InvalidFixed ?x3_InvalidFixed ?x4_InvalidFixed ?x1_InvalidIndex ?x2_InvalidIndex ?x3_InvalidIndex ?x4_InvalidIndex ?x1_InvalidLine ?x2_InvalidLine ?x3_InvalidLine ?x4_InvalidLine ?x1_InvalidWishes ?x2_InvalidWishes ?x3_InvalidWishes ?x4_InvalidWishes ?x1_NothingToUndo ?x2_NothingToUndo ?x3_NothingToUndo ?x4_NothingToUndo ?y_NothingToUndo ?s_InvalidFixed_NothingToUndo ?s_InvalidIndex_NothingToUndo ?s_InvalidLine_NothingToUndo ?s_InvalidWishes_NothingToUndo ?s_NothingToUndo_NothingToUndo
    (case aCNet => k_is)
    (case aCState => k_is)
    (case aCInvalidFixed => k_is)
    (case aCInvalidIndex => k_is)
    (case aCInvalidLine => k_is)
    (case aCInvalidWishes => k_is)
    (case aCNothingToUndo => k_is)
    (case a_Net__init_ => k_is)
    (case i_Net__init_ => k_is)
    (case l_Net__init_ => k_is)
    (case c_Net__init_ => k_is)
    (case k_Net__init_ => k_is)
    (case a_Net_twin => k_is)
    (case i_Net_twin => k_is)
    (case l_Net_twin => k_is)
    (case c_Net_twin => k_is)
    (case k_Net_twin => k_is)
    (case a__law_blank => k_is)
    (case l__law_blank => k_is)
    (case c__law_blank => k_is)
    (case k__law_blank => k_is)
    (case a_State__init_ => k_is)
    (case i_State__init_ => k_is)
    (case l_State__init_ => k_is)
    (case c_State__init_ => k_is)
    (case k_State__init_ => k_is)
    (case a_Net_present => k_is)
    (case i_Net_present => k_is)
    (case l_Net_present => k_is)
    (case c_Net_present => k_is)
    (case k_Net_present => k_is)
    (case a_is_number_from => k_is)
    (case l_is_number_from => k_is)
    (case c_is_number_from => k_is)
    (case k_is_number_from => k_is)
    (case a_Net_add => k_is)
    (case i_Net_add => k_is)
    (case l_Net_add => k_is)
    (case c_Net_add => k_is)
    (case k_Net_add => k_is)
    (case a_Net_drop => k_is)
    (case i_Net_drop => k_is)
    (case l_Net_drop => k_is)
    (case c_Net_drop => k_is)
    (case k_Net_drop => k_is)
    (case a_Net_need_line => k_is)
    (case i_Net_need_line => k_is)
    (case l_Net_need_line => k_is)
    (case c_Net_need_line => k_is)
    (case k_Net_need_line => k_is)
    (case a_Net_fix => k_is)
    (case i_Net_fix => k_is)
    (case l_Net_fix => k_is)
    (case c_Net_fix => k_is)
    (case k_Net_fix => k_is)
    (case a_Net_wish => k_is)
    (case i_Net_wish => k_is)
    (case l_Net_wish => k_is)
    (case c_Net_wish => k_is)
    (case k_Net_wish => k_is)
    (case a__law_sip => k_is)
    (case l__law_sip => k_is)
    (case c__law_sip => k_is)
    (case k__law_sip => k_is)
    (case a__law_headway => k_is)
    (case l__law_headway => k_is)
    (case c__law_headway => k_is)
    (case k__law_headway => k_is)
    (case a__law_put => k_is)
    (case l__law_put => k_is)
    (case c__law_put => k_is)
    (case k__law_put => k_is)
    (case a__law_grown => k_is)
    (case l__law_grown => k_is)
    (case c__law_grown => k_is)
    (case k__law_grown => k_is)
    (case a_Net_undo => k_is)
    (case i_Net_undo => k_is)
    (case l_Net_undo => k_is)
    (case c_Net_undo => k_is)
    (case k_Net_undo => k_is)
    (case a_Net__len_ => k_is)
    (case i_Net__len_ => k_is)
    (case l_Net__len_ => k_is)
    (case c_Net__len_ => k_is)
    (case k_Net__len_ => k_is)
    (case a_Net_fixed => k_is)
    (case i_Net_fixed => k_is)
    (case l_Net_fixed => k_is)
    (case c_Net_fixed => k_is)
    (case k_Net_fixed => k_is)
    (case a_Net_lines => k_is)
    (case i_Net_lines => k_is)
    (case l_Net_lines => k_is)
    (case c_Net_lines => k_is)
    (case k_Net_lines => k_is)
    (case a_Net_wishes => k_is)
    (case i_Net_wishes => k_is)
    (case l_Net_wishes => k_is)
    (case c_Net_wishes => k_is)
    (case k_Net_wishes => k_is)
    (case a__law_seen => k_is)
    (case l__law_seen => k_is)
    (case c__law_seen => k_is)
    (case k__law_seen => k_is)
    (case a__law_is_empty => k_is)
    (case l__law_is_empty => k_is)
    (case c__law_is_empty => k_is)
    (case k__law_is_empty => k_is)
    (case a__law_due => k_is)
    (case l__law_due => k_is)
    (case c__law_due => k_is)
    (case k__law_due => k_is)
    (case a__law_same => k_is)
    (case l__law_same => k_is)
    (case c__law_same => k_is)
    (case k__law_same => k_is)
    (case a__law_tank => k_is)
    (case l__law_tank => k_is)
    (case c__law_tank => k_is)
    (case k__law_tank => k_is)
    (case a__law_undone => k_is)
    (case l__law_undone => k_is)
    (case c__law_undone => k_is)
    (case k__law_undone => k_is)
    (case a_law => k_is)
    (case l_law => k_is)
    (case c_law => k_is)
    (case k_law => k_is)
    (case pg_Net => k_is)
    (case hd_Net => k_is)
    (case po_Net => k_is)
    (case sa_Net => k_is)
    (case mk_Net => k_is)
    (case kc_Net => k_is)
    (case pg_State => k_is)
    (case hd_State => k_is)
    (case po_State => k_is)
    (case sa_State => k_is)
    (case mk_State => k_is)
    (case kc_State => k_is)
    (case n_states_Net => k_is)
    (case n_marks_Net => k_is)
    (case n_all_lines_State => k_is)
    (case n_all_wishes_State => k_is)
    (case n_all_fixed_State => k_is)
    (case z_abs => k_is)
    (case z_all => k_is)
    (case z_bool => k_is)
    (case z_int => k_is)
    (case z_isinstance => k_is)
    (case z_len => k_is)
    (case z_list => k_is)
    (case z_min => k_is)
    (case z_range => k_is)
    (case z_repr => k_is)
    (case v_MOST_LINES => k_is)
    (case v_MOST_WISHES => k_is)
    (case x1_InvalidFixed => k_exc)
    (case x2_InvalidFixed => k_is)
    (case x3_InvalidFixed => k_is)
    (case x4_InvalidFixed => k_is)
    (case x1_InvalidIndex => k_exc)
    (case x2_InvalidIndex => k_is)
    (case x3_InvalidIndex => k_is)
    (case x4_InvalidIndex => k_is)
    (case x1_InvalidLine => k_exc)
    (case x2_InvalidLine => k_is)
    (case x3_InvalidLine => k_is)
    (case x4_InvalidLine => k_is)
    (case x1_InvalidWishes => k_exc)
    (case x2_InvalidWishes => k_is)
    (case x3_InvalidWishes => k_is)
    (case x4_InvalidWishes => k_is)
    (case x1_NothingToUndo => k_exc)
    (case x2_NothingToUndo => k_is)
    (case x3_NothingToUndo => k_is)
    (case x4_NothingToUndo => k_is)
    (case y_NothingToUndo => k_is)
    (case s_InvalidFixed_NothingToUndo => k_is)
    (case s_InvalidIndex_NothingToUndo => k_is)
    (case s_InvalidLine_NothingToUndo => k_is)
    (case s_InvalidWishes_NothingToUndo => k_is)
    (case s_NothingToUndo_NothingToUndo => k_is)
