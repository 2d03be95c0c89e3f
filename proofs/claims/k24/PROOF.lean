import PyProof.Rows.All
import HandS.ForMost
import HandS.Wide
import HandS.WideMore
import HandS.TupAny
import HandS.TupMul
import HandS.SortInts
import HandS.IsInst
import HandS.Exc
import HandS.ExcOwn
import HandS.Conv
import KE.DataEq
import KE.DataFind
import HandS.NoneIn
import HandS.Style
import HandS.SetFor
import HandS.DictTup
import HandS.More
import KE.SortData
import KE.KDictPairs
import KE.GoesMore
import PyProof.Draws
import HandS.Iter
import HandS.Defaults
import HandS.Head0
import HandS.Head1
import HandS.Head2
import HandS.HeadEnd
import HandS.HeadHook1
import HandS.HeadHook2
import HandS.Strs
import HandS.CallSlots
import KE.DatumOrd
import HandS.TryOnly
import KE.KDictKeyed
import KE.KDictCopyH
import KE.KeyNested
import PySem.Challenge.RW_leastout_k24_whole_parted_by_a_store
section
set_option Elab.async false
set_option linter.all false
set_option maxRecDepth 100000
/-! FL0: a layer of plain data over the hand layer: what a slot holds is a datum or a list that nobody else has; a piece of the program is a function on such states. -/
namespace FL
open PySem PySem.Spec PyProof.Rows L2
abbrev D := PyData
/-- a thing that can be changed -/
inductive M where
  | lst (xs : List D)
  | dicK (kvs : List (Key × D))
  | dicT (kvs : List (List Key × D))
/-- what a slot holds -/
inductive R where
  | d (x : D)
  | own (m : M)
  | ro (m : M)
  | io (j : Nat)
/-- a state: slots, things handed in that may be changed -/
structure S where
  δ : List (Option R)
  γ : List (Option M)
/-- an expression's value -/
inductive Rs where
  | d (x : D)
  | own (m : M)
  | var (i : Nat)
/-- an error of an own class -/
structure Ex where
  cls : Str
  fs : List (Str × D)
inductive Rz (α : Type) where
  | ok (a : α) (st : S)
  | ex (e : Ex) (st : S)
  | no
def Rz.bind {α β : Type} (x : Rz α) (k : α → S → Rz β) : Rz β := match x with
  | .ok a st => k a st
  | .ex e st => .ex e st
  | .no => .no
theorem bind_ok {α β : Type} (a : α) (st : S) (k : α → S → Rz β) : (Rz.ok a st).bind k = k a st := rfl
theorem bind_ex {α β : Type} (e : Ex) (st : S) (k : α → S → Rz β) : (Rz.ex e st : Rz α).bind k = .ex e st := rfl
theorem bind_no {α β : Type} (k : α → S → Rz β) : (Rz.no : Rz α).bind k = .no := rfl
/-- a tuple that has no attributes of its own -/
def TqT (K : PySem.W.Frag) (H : Hp) (a : Addr) (vs : List V) : Prop :=
  (∃ o : Obj, H a = some (.frz o (.tup vs)) ∧ o.dict = none) ∨
    ∃ (o : Obj) (its : Array Value) (n : Nat), K.lookup a = some o ∧ o.cls = .type "tuple" ∧ o.data = .seq its n ∧ its.size ≤ sizeLine ∧ Vals vs its.toList ∧ o.dict = none
theorem TqT.sq {K : PySem.W.Frag} {H : Hp} {a : Addr} {vs : List V} (h : TqT K H a vs) : SqT K H a vs := by
  rcases h with ⟨o, e, _⟩ | ⟨o, its, n, h1, h2, h3, h4, h5, _⟩
  · exact .inl (.inr ⟨o, e⟩)
  · exact .inr ⟨o, its, n, h1, h2, h3, h4, h5⟩
/-- a list of the root, or one that nobody writes any more -/
def FqL (K : PySem.W.Frag) (Hr H : Hp) (a : Addr) (vs : List V) : Prop := SqL K Hr a vs ∨ ∃ o : Obj, H a = some (.frz o (.lst vs))
theorem FqL.sq {K : PySem.W.Frag} {Hr H : Hp} {a : Addr} {vs : List V} (root : ∀ b u, Hr b = some u → H b = some u) (h : FqL K Hr H a vs) : SqL K H a vs := by
  rcases h with ((h | ⟨o, h⟩) | h) | ⟨o, h⟩
  · exact .inl (.inl (root _ _ h))
  · exact .inl (.inr ⟨o, root _ _ h⟩)
  · exact .inr h
  · exact .inl (.inr ⟨o, h⟩)
/-- what never changes is kept -/
structure TP (K : PySem.W.Frag) (H H' : Hp) : Prop where
  t : ∀ a vs, TqT K H a vs → TqT K H' a vs
  l : ∀ a vs (o : Obj), H a = some (.frz o (.lst vs)) → H' a = some (.frz o (.lst vs))
theorem TP.refl (K : PySem.W.Frag) (H : Hp) : TP K H H := ⟨fun _ _ q => q, fun _ _ _ q => q⟩
theorem TP.trans {K : PySem.W.Frag} {H H' H'' : Hp} (a : TP K H H') (b : TP K H' H'') : TP K H H'' := ⟨fun c vs q => b.t c vs (a.t c vs q), fun c vs o q => b.l c vs o (a.l c vs o q)⟩
instance {K : PySem.W.Frag} {H H' : Hp} : CoeFun (TP K H H') (fun _ => ∀ a vs, TqT K H a vs → TqT K H' a vs) := ⟨TP.t⟩
theorem FqL.mono {K : PySem.W.Frag} {Hr H H' : Hp} {a : Addr} {vs : List V} (k : TP K H H') : FqL K Hr H a vs → FqL K Hr H' a vs
  | .inl h => .inl h
  | .inr ⟨o, h⟩ => .inr ⟨o, k.l _ _ _ h⟩
mutual
inductive At (K : PySem.W.Frag) (Hr H : Hp) : D → V → Prop
  | non : At K Hr H .none .non
  | bl {b : Bool} : At K Hr H (.bool b) (.bl b)
  | int {i : Int} : At K Hr H (.int i) (.int i)
  | str {x : Str} : At K Hr H (.str x) (.str x)
  | tup {a : Addr} {vs : List V} {ds : List D} : TqT K H a vs → AtL K Hr H ds vs → At K Hr H (.tuple ds) (.ref a)
  | lst {a : Addr} {vs : List V} {ds : List D} : FqL K Hr H a vs → AtL K Hr H ds vs → At K Hr H (.list ds) (.ref a)
inductive AtL (K : PySem.W.Frag) (Hr H : Hp) : List D → List V → Prop
  | nil : AtL K Hr H [] []
  | cons {v : V} {vs : List V} {d : D} {ds : List D} : At K Hr H d v → AtL K Hr H ds vs → AtL K Hr H (d :: ds) (v :: vs)
end
section
variable {K : PySem.W.Frag} {Hr H H' : Hp}
mutual
theorem At.mono (k : TP K H H') : ∀ (d : D) (v : V), At K Hr H d v → At K Hr H' d v
  | .none, _, h => by cases h; exact .non
  | .bool _, _, h => by cases h; exact .bl
  | .int _, _, h => by cases h; exact .int
  | .str _, _, h => by cases h; exact .str
  | .tuple ds, _, h => by
    cases h with
    | tup q r => exact .tup (k.t _ _ q) (AtL.mono k ds _ r)
  | .list ds, _, h => by
    cases h with
    | lst q r => exact .lst (q.mono k) (AtL.mono k ds _ r)
  | .dict _, _, h => by cases h
theorem AtL.mono (k : TP K H H') : ∀ (ds : List D) (vs : List V), AtL K Hr H ds vs → AtL K Hr H' ds vs
  | [], _, h => by cases h; exact .nil
  | d :: ds, _, h => by
    cases h with
    | cons q t => exact .cons (At.mono k d _ q) (AtL.mono k ds _ t)
end
theorem AtL.cons_inv {d : D} {ds : List D} {vs : List V} (h : AtL K Hr H (d :: ds) vs) : ∃ v r, vs = v :: r ∧ At K Hr H d v ∧ AtL K Hr H ds r := by
  cases h with
  | cons q t => exact ⟨_, _, rfl, q, t⟩
theorem AtL.nil_inv {vs : List V} (h : AtL K Hr H [] vs) : vs = [] := by cases h; rfl
theorem AtL.len : ∀ {ds : List D} {vs : List V}, AtL K Hr H ds vs → vs.length = ds.length
  | [], _, h => by rw [h.nil_inv] <;> rfl
  | d :: ds, _, h => by
    obtain ⟨v, r, rfl, _, t⟩ := h.cons_inv
    simp [AtL.len t]
theorem AtL.append : ∀ {ds es : List D} {vs ws : List V}, AtL K Hr H ds vs → AtL K Hr H es ws → AtL K Hr H (ds ++ es) (vs ++ ws)
  | [], _, _, _, h, g => by rw [h.nil_inv]; exact g
  | d :: ds, _, _, _, h, g => by
    obtain ⟨v, r, rfl, q, t⟩ := h.cons_inv
    exact AtL.cons q (AtL.append t g)
theorem AtL.get : ∀ {ds : List D} {vs : List V} {i : Nat} {d : D}, AtL K Hr H ds vs → ds[i]? = some d → ∃ v, vs[i]? = some v ∧ At K Hr H d v
  | [], _, i, d, h, e => by simp at e
  | x :: ds, _, 0, d, h, e => by
    obtain ⟨v, r, rfl, q, t⟩ := h.cons_inv
    simp at e; subst e
    exact ⟨v, rfl, q⟩
  | x :: ds, _, i + 1, d, h, e => by
    obtain ⟨v, r, rfl, q, t⟩ := h.cons_inv
    obtain ⟨w, e1, e2⟩ := AtL.get (i := i) (d := d) t (by simpa using e)
    exact ⟨w, by simpa using e1, e2⟩
theorem AtL.getV {ds : List D} {vs : List V} {i : Nat} {v : V} (h : AtL K Hr H ds vs) (e : vs[i]? = some v) : ∃ d, ds[i]? = some d ∧ At K Hr H d v := by
  have hl := h.len
  have hi : i < vs.length := (List.getElem?_eq_some_iff.mp e).1
  have hd : ds[i]? = some ds[i] := List.getElem?_eq_getElem (by omega)
  obtain ⟨w, e1, e2⟩ := h.get hd
  rw [e] at e1; cases e1
  exact ⟨_, hd, e2⟩
theorem AtL.take (n : Nat) : ∀ {ds : List D} {vs : List V}, AtL K Hr H ds vs → AtL K Hr H (ds.take n) (vs.take n) := by
  induction n with
  | zero => intro ds vs h; simp; exact .nil
  | succ n ih =>
    intro ds vs h
    cases ds with
    | nil => rw [h.nil_inv]; simp; exact .nil
    | cons d ds =>
      obtain ⟨v, r, rfl, q, t⟩ := h.cons_inv
      simp only [List.take_succ_cons]
      exact .cons q (ih t)
theorem AtL.drop (n : Nat) : ∀ {ds : List D} {vs : List V}, AtL K Hr H ds vs → AtL K Hr H (ds.drop n) (vs.drop n) := by
  induction n with
  | zero => intro ds vs h; simpa using h
  | succ n ih =>
    intro ds vs h
    cases ds with
    | nil => rw [h.nil_inv]; simp; exact .nil
    | cons d ds =>
      obtain ⟨v, r, rfl, q, t⟩ := h.cons_inv
      simp only [List.drop_succ_cons]
      exact ih t
theorem AtL.reverse : ∀ {ds : List D} {vs : List V}, AtL K Hr H ds vs → AtL K Hr H ds.reverse vs.reverse
  | [], _, h => by rw [h.nil_inv]; exact .nil
  | d :: ds, _, h => by
    obtain ⟨v, r, rfl, q, t⟩ := h.cons_inv
    simp only [List.reverse_cons]
    exact .append (AtL.reverse t) (.cons q .nil)
theorem AtL.set {d : D} {v : V} (q : At K Hr H d v) : ∀ {ds : List D} {vs : List V} (i : Nat), AtL K Hr H ds vs → AtL K Hr H (ds.set i d) (vs.set i v)
  | [], _, i, h => by rw [h.nil_inv]; simp; exact .nil
  | x :: ds, _, 0, h => by
    obtain ⟨w, r, rfl, _, t⟩ := h.cons_inv
    exact .cons q t
  | x :: ds, _, i + 1, h => by
    obtain ⟨w, r, rfl, z, t⟩ := h.cons_inv
    exact .cons z (AtL.set q i t)
theorem AtL.ints : ∀ (ns : List Int), AtL K Hr H (ns.map .int) (ns.map V.int)
  | [] => .nil
  | n :: ns => .cons .int (AtL.ints ns)
theorem At.int_inv {i : Int} {v : V} (h : At K Hr H (.int i) v) : v = .int i := by cases h; rfl
theorem At.bool_inv {i : Bool} {v : V} (h : At K Hr H (.bool i) v) : v = .bl i := by cases h; rfl
theorem At.str_inv {i : Str} {v : V} (h : At K Hr H (.str i) v) : v = .str i := by cases h; rfl
theorem At.none_inv {v : V} (h : At K Hr H .none v) : v = .non := by cases h; rfl
theorem At.tup_invT {ds : List D} {v : V} (h : At K Hr H (.tuple ds) v) : ∃ a vs, v = .ref a ∧ TqT K H a vs ∧ AtL K Hr H ds vs := by
  cases h with
  | tup q r => exact ⟨_, _, rfl, q, r⟩
theorem At.tup_inv {ds : List D} {v : V} (h : At K Hr H (.tuple ds) v) : ∃ a vs, v = .ref a ∧ SqT K H a vs ∧ AtL K Hr H ds vs := by
  cases h with
  | tup q r => exact ⟨_, _, rfl, q.sq, r⟩
theorem At.lst_inv {ds : List D} {v : V} (h : At K Hr H (.list ds) v) : ∃ a vs, v = .ref a ∧ FqL K Hr H a vs ∧ AtL K Hr H ds vs := by
  cases h with
  | lst q r => exact ⟨_, _, rfl, q, r⟩
theorem At.mk_int {i : Int} : At K Hr H (.int i) (.int i) := .int
theorem At.mk_bool {i : Bool} : At K Hr H (.bool i) (.bl i) := .bl
theorem At.mk_str {i : Str} : At K Hr H (.str i) (.str i) := .str
theorem At.mk_none : At K Hr H .none .non := .non
theorem At.mk_tup {a : Addr} {ds : List D} {vs : List V} (h : TqT K H a vs) (q : AtL K Hr H ds vs) : At K Hr H (.tuple ds) (.ref a) := .tup h q
theorem AtL.ints_inv : ∀ {ns : List Int} {vs : List V}, AtL K Hr H (ns.map .int) vs → vs = ns.map V.int
  | [], _, h => h.nil_inv
  | n :: ns, _, h => by
    obtain ⟨v, r, rfl, q, t⟩ := AtL.cons_inv (show AtL K Hr H (.int n :: ns.map .int) _ from h)
    rw [q.int_inv, AtL.ints_inv t]
    rfl
mutual
theorem At.dp (root : ∀ b u, Hr b = some u → H b = some u) : ∀ (d : D) (v : V), At K Hr H d v → Dp K H v d
  | .none, _, h => by rw [h.none_inv]; exact .non
  | .bool b, _, h => by rw [h.bool_inv]; exact .bl b
  | .int i, _, h => by rw [h.int_inv]; exact .int i
  | .str x, _, h => by rw [h.str_inv]; exact .str x
  | .tuple ds, _, h => by
    obtain ⟨a, vs, rfl, q, r⟩ := h.tup_inv
    exact .tup q (AtL.dp root ds vs r)
  | .list ds, _, h => by
    obtain ⟨a, vs, rfl, q, r⟩ := h.lst_inv
    exact .lst (q.sq root) (AtL.dp root ds vs r)
  | .dict _, _, h => by cases h
theorem AtL.dp (root : ∀ b u, Hr b = some u → H b = some u) : ∀ (ds : List D) (vs : List V), AtL K Hr H ds vs → DpAll K H vs ds
  | [], _, h => by rw [h.nil_inv]; exact .nil
  | d :: ds, _, h => by
    obtain ⟨v, r, rfl, q, t⟩ := h.cons_inv
    exact .cons (At.dp root d v q) (AtL.dp root ds r t)
end
end
/-- a thing at its place -/
def MR (K : PySem.W.Frag) (Hr H : Hp) (a : Addr) : M → Prop
  | .lst xs => ∃ vs, H a = some (.lst vs) ∧ AtL K Hr H xs vs
  | .dicK kvs => ∃ ws, H a = some (.dK ws) ∧ ws.map (·.1) = kvs.map (·.1) ∧ AtL K Hr H (kvs.map (·.2)) (ws.map (·.2))
  | .dicT kvs => ∃ ws, H a = some (.dT ws) ∧ ws.map (·.1) = kvs.map (·.1) ∧ AtL K Hr H (kvs.map (·.2)) (ws.map (·.2))
theorem MR.mu {K : PySem.W.Frag} {Hr H : Hp} {a : Addr} {m : M} (h : MR K Hr H a m) : Mut (H a) := by
  cases m with
  | lst xs => obtain ⟨vs, e, _⟩ := h; rw [e]; trivial
  | dicK xs => obtain ⟨vs, e, _⟩ := h; rw [e]; trivial
  | dicT xs => obtain ⟨vs, e, _⟩ := h; rw [e]; trivial
theorem MR.mono {K : PySem.W.Frag} {Hr H H' : Hp} {a : Addr} (k : TP K H H') (e : H' a = H a) : ∀ {m : M}, MR K Hr H a m → MR K Hr H' a m
  | .lst _, ⟨vs, h, q⟩ => ⟨vs, e.trans h, q.mono k _ _⟩
  | .dicK _, ⟨vs, h, h2, q⟩ => ⟨vs, e.trans h, h2, q.mono k _ _⟩
  | .dicT _, ⟨vs, h, h2, q⟩ => ⟨vs, e.trans h, h2, q.mono k _ _⟩
theorem Mut.some {x : Option HO} (h : Mut x) : x ≠ none := by
  intro e; rw [e] at h; exact h
inductive Ow where
  | slot (i : Nat) | arg (j : Nat) | fz
abbrev Own := Addr → Option Ow
/-- what is fixed through a def's body -/
structure B where
  K : PySem.W.Frag
  Hr : Hp
  H0 : Hp
  FP : Addr → Prop
  gv : List V
/-- a slot's content stands -/
def SlotR (b : B) (o : Own) (H : Hp) (i : Nat) (v : V) (γ : List (Option M)) : R → Prop
  | .d x => At b.K b.Hr H x v
  | .own m => ∃ a, v = .ref a ∧ MR b.K b.Hr H a m ∧ o a = some (.slot i)
  | .ro m => ∃ a, v = .ref a ∧ MR b.K b.Hr H a m ∧ o a = some .fz
  | .io j => b.gv[j]? = some v ∧ ∃ m, γ[j]? = some (some m)
structure SRel (b : B) (o : Own) (st : S) (σ : L2.St) (H : Hp) : Prop where
  len : σ.length = st.δ.length
  slot : ∀ i r, st.δ[i]? = some (some r) → ∃ v, σ[i]? = some (some v) ∧ SlotR b o H i v st.γ r
  arg : ∀ j m, st.γ[j]? = some (some m) → ∃ a, b.gv[j]? = some (.ref a) ∧ MR b.K b.Hr H a m ∧ o a = some (.arg j)
  mu : ∀ a w, o a = some w → Mut (H a)
  keep : ∀ c u, b.H0 c = some u → ¬ b.FP c → H c = some u
  sfresh : ∀ a i, o a = some (.slot i) → b.H0 a = none
  afp : ∀ a j, o a = some (.arg j) → b.H0 a = none ∨ b.FP a
  fp : ∀ a, b.FP a → H a ≠ none
  root : ∀ c u, b.Hr c = some u → H c = some u ∧ o c = none
  rootH : ∀ c u, b.Hr c = some u → b.H0 c = some u
/-- what nobody writes -/
def Stb (w : Option Ow) : Prop := w = none ∨ w = some .fz
/-- how a piece may go from state to state -/
structure Tr (o : Own) (H : Hp) (o' : Own) (H' : Hp) : Prop where
  keep : ∀ b u, H b = some u → Stb (o b) → H' b = some u ∧ o' b = o b
  trk : ∀ b, H b ≠ none → H' b ≠ none
  own : ∀ b w, H b ≠ none → o' b = some w → o b = some w ∨ w = .fz
theorem Tr.refl (o : Own) (H : Hp) : Tr o H o H := ⟨fun _ _ h e => ⟨h, rfl⟩, fun _ h => h, fun _ _ _ h => .inl h⟩
theorem Tr.trans {o o1 o2 : Own} {H H1 H2 : Hp} (a : Tr o H o1 H1) (c : Tr o1 H1 o2 H2) : Tr o H o2 H2 :=
  ⟨fun b u h e => let ⟨h1, e1⟩ := a.keep b u h e; let ⟨h2, e2⟩ := c.keep b u h1 (by rw [e1]; exact e); ⟨h2, e2.trans e1⟩, fun b h => c.trk b (a.trk b h), fun b w h e => by
    rcases c.own b w (a.trk b h) e with e1 | e1
    · exact a.own b w h e1
    · exact .inr e1⟩
/-- an expression's value stands; Hs: the heap at the expression's start -/
def XRep (b : B) (Hs : Hp) (o : Own) (H : Hp) (σ : L2.St) : Rs → V → Prop
  | .d x, v => At b.K b.Hr H x v
  | .own m, v => ∃ a, v = .ref a ∧ MR b.K b.Hr H a m ∧ o a = none ∧ Hs a = none
  | .var i, v => σ[i]? = some (some v)
section
variable {b : B} {o o' : Own} {st st' : S} {σ : L2.St} {H H' Hs Hs' : Hp}
theorem SRel.tups (h : SRel b o st σ H) (t : Tr o H o' H') : TP b.K H H' := by
  have nm : ∀ a u, H a = some u → ¬ Mut (some u) → o a = none := fun a u e n => by
    cases z : o a with
    | none => rfl
    | some w => have := h.mu a w z; rw [e] at this; exact absurd this n
  refine ⟨fun a vs q => ?_, fun a vs ob e => (t.keep a _ e (.inl (nm a _ e fun z => z))).1⟩
  rcases q with ⟨ob, q, d⟩ | q
  · exact .inl ⟨ob, (t.keep a _ q (.inl (nm a _ q fun z => z))).1, d⟩
  · exact .inr q
theorem XRep.step (h : SRel b o st σ H) (t : Tr o H o' H') : ∀ {r : Rs} {v : V}, XRep b Hs o H σ r v → XRep b Hs o' H' σ r v
  | .d x, v, q => At.mono (h.tups t) x v q
  | .own m, v, ⟨a, e, q, n, f⟩ => by
    cases z : H a with
    | none => exact absurd z (Mut.some q.mu)
    | some u =>
      obtain ⟨k1, k2⟩ := t.keep a u z (.inl n)
      exact ⟨a, e, q.mono (h.tups t) (k1.trans z.symm), k2.trans n, f⟩
  | .var i, v, q => q
theorem XRep.start (t : ∀ a, Hs a ≠ none → Hs' a ≠ none) : ∀ {r : Rs} {v : V}, XRep b Hs' o H σ r v → XRep b Hs o H σ r v
  | .d x, v, q => q
  | .own m, v, ⟨a, e, q, n, f⟩ => ⟨a, e, q, n, by
    cases z : Hs a with
    | none => rfl
    | some u => exact absurd f (t a (by rw [z]; exact fun q => nomatch q))⟩
  | .var i, v, q => q
/-- a new thing laid -/
theorem SRel.fresh0 (h : SRel b o st σ H) {p : Addr} (n : H p = none) : o p = none ∧ b.H0 p = none := by
  constructor
  · cases z : o p with
    | none => rfl
    | some w => exact absurd n (Mut.some (h.mu p w z))
  · cases z : b.H0 p with
    | none => rfl
    | some u =>
      by_cases f : b.FP p
      · exact absurd n (h.fp p f)
      · rw [h.keep p u z f] at n; cases n
theorem upd_some {H : Hp} {p c : Addr} {u x : HO} (n : H p = none) (e : H c = some x) : upd H p u c = some x := by
  rw [upd_ne (ne_of_none e n)]; exact e
theorem sqt_upd {K : PySem.W.Frag} {H : Hp} {p a : Addr} {u : HO} {vs : List V} (n : H p = none) (q : TqT K H a vs) : TqT K (upd H p u) a vs := by
  rcases q with ⟨ob, q, d⟩ | q
  · exact .inl ⟨ob, upd_some n q, d⟩
  · exact .inr q
theorem tp_upd {K : PySem.W.Frag} {H : Hp} {p : Addr} {u : HO} (n : H p = none) : TP K H (upd H p u) := ⟨fun a vs q => sqt_upd n q, fun a vs o e => upd_some n e⟩
theorem Tr.laid {p : Addr} {u : HO} (n : H p = none) : Tr o H o (upd H p u) :=
  ⟨fun c x e k => ⟨upd_some n e, rfl⟩, (fun c hc => by
    cases z : H c with
    | none => exact absurd z hc
    | some x => rw [upd_some n z]; exact fun q => nomatch q), fun _ _ _ e => .inl e⟩
theorem SlotR.mono {γ γ' : List (Option M)} (k : TP b.K H H') {i : Nat} {v : V} (e : ∀ a u, H a = some u → o a = some (.slot i) ∨ o a = some .fz → H' a = some u ∧ o' a = o a) (g : ∀ (j : Nat) (m : M), γ[j]? = some (some m) → ∃ m', γ'[j]? = some (some m')) : ∀ {r : R}, SlotR b o H i v γ r → SlotR b o' H' i v γ' r
  | .d x, q => At.mono k x v q
  | .own m, ⟨a, e1, q, n⟩ => by
    cases z : H a with
    | none => exact absurd z (Mut.some q.mu)
    | some u =>
      obtain ⟨k1, k2⟩ := e a u z (.inl n)
      exact ⟨a, e1, q.mono k (k1.trans z.symm), k2.trans n⟩
  | .ro m, ⟨a, e1, q, n⟩ => by
    cases z : H a with
    | none => exact absurd z (Mut.some q.mu)
    | some u =>
      obtain ⟨k1, k2⟩ := e a u z (.inr n)
      exact ⟨a, e1, q.mono k (k1.trans z.symm), k2.trans n⟩
  | .io j, ⟨q, m, hm⟩ => ⟨q, g j m hm⟩
theorem SRel.laid (h : SRel b o st σ H) {p : Addr} {u : HO} (n : H p = none) : SRel b o st σ (upd H p u) := by
  have T : Tr o H o (upd H p u) := Tr.laid n
  have k := h.tups T
  have hs : ∀ c x, H c = some x → upd H p u c = some x := fun c x e => upd_some n e
  refine ⟨h.len, fun i r e => ?_, fun j m e => ?_, fun a w e => ?_, fun c x e f => hs _ _ (h.keep c x e f), h.sfresh, h.afp, fun a f => T.trk a (h.fp a f), fun c x e => ⟨hs _ _ (h.root c x e).1, (h.root c x e).2⟩, h.rootH⟩
  · obtain ⟨v, e1, q⟩ := h.slot i r e
    exact ⟨v, e1, q.mono k (fun a x e2 _ => ⟨hs _ _ e2, rfl⟩) fun j m e => ⟨m, e⟩⟩
  · obtain ⟨a, e1, q, n1⟩ := h.arg j m e
    cases z : H a with
    | none => exact absurd z (Mut.some q.mu)
    | some x => exact ⟨a, e1, q.mono k ((hs _ _ z).trans z.symm), n1⟩
  · cases z : H a with
    | none => exact absurd z (Mut.some (h.mu a w e))
    | some x => have := h.mu a w e; rw [z] at this; rw [hs _ _ z]; exact this
/-- what a value is, where it is a thing -/
def S.der (st : S) : Rs → Option M
  | .d _ => none
  | .own m => some m
  | .var i => match st.δ[i]? with
    | some (some (.own m)) => some m
    | some (some (.ro m)) => some m
    | some (some (.io j)) => (st.γ[j]?).join
    | _ => none
theorem SRel.der (h : SRel b o st σ H) : ∀ {r : Rs} {v : V} {m : M}, XRep b Hs o H σ r v → st.der r = some m → ∃ a, v = .ref a ∧ MR b.K b.Hr H a m
  | .d _, _, _, _, e => by cases e
  | .own m, v, m', ⟨a, e1, q, _, _⟩, e => by
    have e' : m = m' := Option.some.inj e
    subst e'
    exact ⟨a, e1, q⟩
  | .var i, v, m', q, e => by
    simp only [S.der] at e
    cases hd : st.δ[i]? with
    | none => rw [hd] at e; cases e
    | some x =>
      rw [hd] at e
      cases x with
      | none => cases e
      | some r =>
        obtain ⟨w, e1, q1⟩ := h.slot i r hd
        have q' : σ[i]? = some (some v) := q
        rw [e1] at q'
        have ev : w = v := Option.some.inj (Option.some.inj q')
        subst ev
        cases r with
        | d x => cases e
        | own m =>
          have e' : m = m' := Option.some.inj e
          subst e'
          obtain ⟨a, e2, q2, _⟩ := q1
          exact ⟨a, e2, q2⟩
        | ro m =>
          have e' : m = m' := Option.some.inj e
          subst e'
          obtain ⟨a, e2, q2, _⟩ := q1
          exact ⟨a, e2, q2⟩
        | io j =>
          obtain ⟨q2, m2, q3⟩ := q1
          have e' : (st.γ[j]?).join = some m' := e
          rw [q3] at e'
          have e'' : m2 = m' := Option.some.inj e'
          subst e''
          obtain ⟨a, e4, q4, _⟩ := h.arg j _ q3
          rw [q2] at e4
          exact ⟨a, Option.some.inj e4, q4⟩
end
/-- where an own class stands, for errors -/
structure EB where
  mg : Str → Option Value
def ERep (b : B) (mg : Str → Option Value) (H : Hp) (e : Ex) (cls : Value) (d : Option Addr) : Prop :=
  mg e.cls = some cls ∧ ((e.fs = [] ∧ d = none) ∨ ∃ dd vs, d = some dd ∧ H dd = some (.xd vs) ∧ vs.map (·.1) = e.fs.map (·.1) ∧ AtL b.K b.Hr H (e.fs.map (·.2)) (vs.map (·.2)))
end FL
end
section
set_option Elab.async false
set_option linter.all false
set_option maxRecDepth 100000
namespace FL
open PySem PySem.Spec PyProof.Rows L2
/-! ### the readings -/
theorem PE.mono {X : Cx} {e : Expr} {t t' : TE} (h : PE X e t) (m : ∀ σ H Q, t' σ H Q → t σ H Q) : PE X e t' := ⟨fun pins s σ H Q I q => h.run pins s σ H Q I (m σ H Q q)⟩
theorem PT.mono {X : Cx} {e : Expr} {t t' : TT} (h : PT X e t) (m : ∀ σ H Q, t' σ H Q → t σ H Q) : PT X e t' := ⟨fun pins s σ H Q I q => h.run pins s σ H Q I (m σ H Q q)⟩
theorem PA.mono {X : Cx} {e : List Expr} {t t' : TA} (h : PA X e t) (m : ∀ σ H Q, t' σ H Q → t σ H Q) : PA X e t' := ⟨fun pos pins s σ H Q I q => h.run pos pins s σ H Q I (m σ H Q q)⟩
theorem PS.mono {X : Cx} {e : Stmt} {t t' : TS} (h : PS X e t) (m : ∀ D σ H, t' D σ H → t D σ H) : PS X e t' := ⟨fun pins s σ H D I q => h.run pins s σ H D I (m D σ H q)⟩
theorem PSs.mono {X : Cx} {e : List Stmt} {t t' : TS} (h : PSs X e t) (m : ∀ D σ H, t' D σ H → t D σ H) : PSs X e t' := ⟨fun pins s σ H D I q => h.run pins s σ H D I (m D σ H q)⟩
structure C where
  b : B
  mg : Str → Option Value
  W : WX
/-- an end by value -/
def teK (c : C) (o : Own) (σ : L2.St) (H : Hp) (z : Rz Rs) (Q : VK) : Prop := match z with
  | .ok r st' => ∀ v H' o', SRel c.b o' st' σ H' → Tr o H o' H' → XRep c.b H o' H' σ r v → Q v H'
  | .ex e st' => ∀ cls d H' o', SRel c.b o' st' σ H' → Tr o H o' H' → ERep c.b c.mg H' e cls d → c.W cls d σ H'
  | .no => False
def teOf (c : C) (f : S → Rz Rs) : TE := fun σ H Q => ∃ o st, SRel c.b o st σ H ∧ teK c o σ H (f st) Q
def ttK (c : C) (o : Own) (σ : L2.St) (H : Hp) (z : Rz Bool) (Q : Bool → Hp → Prop) : Prop := match z with
  | .ok r st' => ∀ H' o', SRel c.b o' st' σ H' → Tr o H o' H' → Q r H'
  | .ex e st' => ∀ cls d H' o', SRel c.b o' st' σ H' → Tr o H o' H' → ERep c.b c.mg H' e cls d → c.W cls d σ H'
  | .no => False
def ttOf (c : C) (f : S → Rz Bool) : TT := fun σ H Q => ∃ o st, SRel c.b o st σ H ∧ ttK c o σ H (f st) Q
/-- two things made are two -/
def Apart (r : Rs) (v : V) (rs : List Rs) (us : List V) : Prop := ∀ m, r = .own m → ∀ (j : Nat) (m' : M), rs[j]? = some (.own m') → us[j]? ≠ some v
def XReps (b : B) (Hs : Hp) (o : Own) (H : Hp) (σ : L2.St) : List Rs → List V → Prop
  | [], vs => vs = []
  | r :: rs, vs => ∃ v us, vs = v :: us ∧ XRep b Hs o H σ r v ∧ XReps b Hs o H σ rs us ∧ Apart r v rs us
def taK (c : C) (o : Own) (σ : L2.St) (H : Hp) (z : Rz (List Rs)) (Q : List V → Hp → Prop) : Prop := match z with
  | .ok r st' => ∀ v H' o', SRel c.b o' st' σ H' → Tr o H o' H' → XReps c.b H o' H' σ r v → Q v H'
  | .ex e st' => ∀ cls d H' o', SRel c.b o' st' σ H' → Tr o H o' H' → ERep c.b c.mg H' e cls d → c.W cls d σ H'
  | .no => False
def taOf (c : C) (f : S → Rz (List Rs)) : TA := fun σ H Q => ∃ o st, SRel c.b o st σ H ∧ taK c o σ H (f st) Q
abbrev DE (X : Cx) (c : C) (e : Expr) (f : S → Rz Rs) : Prop := PE X e (teOf c f)
abbrev DT (X : Cx) (c : C) (e : Expr) (f : S → Rz Bool) : Prop := PT X e (ttOf c f)
abbrev DA (X : Cx) (c : C) (e : List Expr) (f : S → Rz (List Rs)) : Prop := PA X e (taOf c f)
section
variable {c : C} {o o1 : Own} {σ : L2.St} {H H1 : Hp} {st : S}
theorem XReps.step (h : SRel c.b o st σ H) (t : Tr o H o1 H1) {Hs : Hp} : ∀ {rs : List Rs} {vs : List V}, XReps c.b Hs o H σ rs vs → XReps c.b Hs o1 H1 σ rs vs
  | [], _, q => q
  | r :: rs, _, ⟨v, us, e, q1, q2, q3⟩ => ⟨v, us, e, q1.step h t, XReps.step h t q2, q3⟩
theorem XReps.start {Hs Hs' : Hp} (t : ∀ a, Hs a ≠ none → Hs' a ≠ none) : ∀ {rs : List Rs} {vs : List V}, XReps c.b Hs' o H σ rs vs → XReps c.b Hs o H σ rs vs
  | [], _, q => q
  | r :: rs, _, ⟨v, us, e, q1, q2, q3⟩ => ⟨v, us, e, q1.start t, XReps.start t q2, q3⟩
theorem XReps.get {Hs : Hp} : ∀ {rs : List Rs} {vs : List V} {j : Nat} {r : Rs}, XReps c.b Hs o H σ rs vs → rs[j]? = some r → ∃ v, vs[j]? = some v ∧ XRep c.b Hs o H σ r v
  | [], _, j, r, q, e => by simp at e
  | x :: rs, _, 0, r, ⟨v, us, e1, q1, q2, q3⟩, e => by
    subst e1
    have e' : x = r := by simpa using e
    subst e'
    exact ⟨v, rfl, q1⟩
  | x :: rs, _, j + 1, r, ⟨v, us, e1, q1, q2, q3⟩, e => by
    subst e1
    obtain ⟨w, h1, h2⟩ := XReps.get (j := j) q2 (by simpa using e)
    exact ⟨w, by simpa using h1, h2⟩
theorem XReps.len {Hs : Hp} : ∀ {rs : List Rs} {vs : List V}, XReps c.b Hs o H σ rs vs → vs.length = rs.length
  | [], _, q => by have q' : _ = [] := q; rw [q']; rfl
  | r :: rs, _, ⟨v, us, e, q1, q2, q3⟩ => by rw [e, List.length_cons, List.length_cons, XReps.len q2]
theorem ERep.w {z : Ex} {o' o'' : Own} {H' H'' : Hp} (h : ∀ cls d H' o', SRel c.b o' st σ H' → Tr o H o' H' → ERep c.b c.mg H' z cls d → c.W cls d σ H') (t : Tr o H o1 H1) :
    ∀ cls d H' o', SRel c.b o' st σ H' → Tr o1 H1 o' H' → ERep c.b c.mg H' z cls d → c.W cls d σ H' := fun cls d H' o' r t' e => h cls d H' o' r (t.trans t') e
/-- a piece, then the rest; (o, H) the start of the whole -/
theorem te_bind {α : Type} {fa : S → Rz Rs} {k : Rs → S → Rz α} {R : V → Hp → Prop} {E : Rz α → Prop} (rel : SRel c.b o1 st σ H1) (t : Tr o H o1 H1)
    (he : ∀ e st2, E (.ex e st2) → ∀ cls d H' o', SRel c.b o' st2 σ H' → Tr o H o' H' → ERep c.b c.mg H' e cls d → c.W cls d σ H') (hn : ¬ E .no) (h : E ((fa st).bind k))
    (go : ∀ r st2 v H2 o2, SRel c.b o2 st2 σ H2 → Tr o1 H1 o2 H2 → Tr o H o2 H2 → XRep c.b H1 o2 H2 σ r v → E (k r st2) → R v H2) : teOf c fa σ H1 R := by
  refine ⟨o1, st, rel, ?_⟩
  cases z : fa st with
  | ok r st1 =>
    rw [z] at h
    exact fun v H2 o2 r1 t1 x1 => go r st1 v H2 o2 r1 t1 (t.trans t1) x1 h
  | ex e st1 =>
    rw [z] at h
    exact fun cls d H' o' r1 t1 x1 => he e st1 h cls d H' o' r1 (t.trans t1) x1
  | no => rw [z] at h; exact absurd h hn
theorem tt_bind {α : Type} {fa : S → Rz Bool} {k : Bool → S → Rz α} {R : Bool → Hp → Prop} {E : Rz α → Prop} (rel : SRel c.b o1 st σ H1) (t : Tr o H o1 H1)
    (he : ∀ e st2, E (.ex e st2) → ∀ cls d H' o', SRel c.b o' st2 σ H' → Tr o H o' H' → ERep c.b c.mg H' e cls d → c.W cls d σ H') (hn : ¬ E .no) (h : E ((fa st).bind k))
    (go : ∀ r st2 H2 o2, SRel c.b o2 st2 σ H2 → Tr o1 H1 o2 H2 → Tr o H o2 H2 → E (k r st2) → R r H2) : ttOf c fa σ H1 R := by
  refine ⟨o1, st, rel, ?_⟩
  cases z : fa st with
  | ok r st1 =>
    rw [z] at h
    exact fun H2 o2 r1 t1 => go r st1 H2 o2 r1 t1 (t.trans t1) h
  | ex e st1 =>
    rw [z] at h
    exact fun cls d H' o' r1 t1 x1 => he e st1 h cls d H' o' r1 (t.trans t1) x1
  | no => rw [z] at h; exact absurd h hn
theorem ta_bind {α : Type} {fa : S → Rz (List Rs)} {k : List Rs → S → Rz α} {R : List V → Hp → Prop} {E : Rz α → Prop} (rel : SRel c.b o1 st σ H1) (t : Tr o H o1 H1)
    (he : ∀ e st2, E (.ex e st2) → ∀ cls d H' o', SRel c.b o' st2 σ H' → Tr o H o' H' → ERep c.b c.mg H' e cls d → c.W cls d σ H') (hn : ¬ E .no) (h : E ((fa st).bind k))
    (go : ∀ r st2 v H2 o2, SRel c.b o2 st2 σ H2 → Tr o1 H1 o2 H2 → Tr o H o2 H2 → XReps c.b H1 o2 H2 σ r v → E (k r st2) → R v H2) : taOf c fa σ H1 R := by
  refine ⟨o1, st, rel, ?_⟩
  cases z : fa st with
  | ok r st1 =>
    rw [z] at h
    exact fun v H2 o2 r1 t1 x1 => go r st1 v H2 o2 r1 t1 (t.trans t1) x1 h
  | ex e st1 =>
    rw [z] at h
    exact fun cls d H' o' r1 t1 x1 => he e st1 h cls d H' o' r1 (t.trans t1) x1
  | no => rw [z] at h; exact absurd h hn
theorem teK.e {Q : VK} : ∀ e st2, teK c o σ H (.ex e st2) Q → ∀ cls d H' o', SRel c.b o' st2 σ H' → Tr o H o' H' → ERep c.b c.mg H' e cls d → c.W cls d σ H' := fun _ _ h => h
theorem teK.n {Q : VK} : ¬ teK c o σ H .no Q := fun h => h
theorem ttK.e {Q : Bool → Hp → Prop} : ∀ e st2, ttK c o σ H (.ex e st2) Q → ∀ cls d H' o', SRel c.b o' st2 σ H' → Tr o H o' H' → ERep c.b c.mg H' e cls d → c.W cls d σ H' := fun _ _ h => h
theorem ttK.n {Q : Bool → Hp → Prop} : ¬ ttK c o σ H .no Q := fun h => h
theorem taK.e {Q : List V → Hp → Prop} : ∀ e st2, taK c o σ H (.ex e st2) Q → ∀ cls d H' o', SRel c.b o' st2 σ H' → Tr o H o' H' → ERep c.b c.mg H' e cls d → c.W cls d σ H' := fun _ _ h => h
theorem taK.n {Q : List V → Hp → Prop} : ¬ taK c o σ H .no Q := fun h => h
end
/-! ### constants and names -/
def fC (x : D) : S → Rz Rs := fun st => .ok (.d x) st
def fVar (i : Nat) : S → Rz Rs := fun st => match st.δ[i]? with
  | some (some (.d x)) => .ok (.d x) st
  | some (some _) => .ok (.var i) st
  | _ => .no
section
variable {X : Cx} {c : C}
theorem de_int {i : Int} {j : Nat} {pos : Pos} : DE X c (.Constant (.int i) j pos) (fC (.int i)) := PE.mono pe_int fun σ H Q ⟨o, st, rel, h⟩ => h _ H o rel (Tr.refl o H) (show At c.b.K c.b.Hr H _ _ from At.mk_int)
theorem de_bool {i : Bool} {j : Nat} {pos : Pos} : DE X c (.Constant (.bool i) j pos) (fC (.bool i)) := PE.mono pe_bl fun σ H Q ⟨o, st, rel, h⟩ => h _ H o rel (Tr.refl o H) (show At c.b.K c.b.Hr H _ _ from At.mk_bool)
theorem de_none {j : Nat} {pos : Pos} : DE X c (.Constant .none j pos) (fC .none) := PE.mono pe_non fun σ H Q ⟨o, st, rel, h⟩ => h _ H o rel (Tr.refl o H) (show At c.b.K c.b.Hr H _ _ from At.mk_none)
theorem de_str {x : Str} {j : Nat} {pos : Pos} : DE X c (.Constant (.str x) j pos) (fC (.str x)) := PE.mono pe_str fun σ H Q ⟨o, st, rel, h⟩ => h _ H o rel (Tr.refl o H) (show At c.b.K c.b.Hr H _ _ from At.mk_str)
theorem de_var_of {i : Nat} {e : Expr} (h : PE X e (tVar i)) : DE X c e (fVar i) := PE.mono h fun σ H Q ⟨o, st, rel, h⟩ => by
  unfold fVar at h
  cases hd : st.δ[i]? with
  | none => rw [hd] at h; exact h.elim
  | some x =>
    rw [hd] at h
    cases x with
    | none => exact h.elim
    | some r =>
      obtain ⟨v, e1, q⟩ := rel.slot i r hd
      refine ⟨v, e1, ?_⟩
      cases r with
      | d x => exact h v H o rel (Tr.refl o H) q
      | own m => exact h v H o rel (Tr.refl o H) e1
      | ro m => exact h v H o rel (Tr.refl o H) e1
      | io m => exact h v H o rel (Tr.refl o H) e1
/-- a name in slot i -/
theorem de_var (i : Nat) {x : Str} {pos : Pos} (hN : X.N[i]? = some x := by rfl) (hv : Vis X.env.scope x := by first | exact Or.inl rfl | exact Or.inr (Or.inl rfl) | exact Or.inr (Or.inr rfl)) (hd : (x == ("__debug__" : Str)) = false := by decide)
    (hcd : (x == ("__classdict__" : Str)) = false := by decide) : DE X c (.Name x pos) (fVar i) := de_var_of (pe_var hN hv hd hcd)
/-- a constant of the module -/
theorem de_glob {x : Str} {v : V} {d : D} {u : Value} {pos : Pos} (hg : Gl X x) (hm : X.mg x = some u) (r : RelV v u) (ha : ∀ H, (∀ a u, c.b.Hr a = some u → H a = some u) → At c.b.K c.b.Hr H d v) (hd : (x == ("__debug__" : Str)) = false := by decide) : DE X c (.Name x pos) (fC d) :=
  PE.mono (pe_glob hg hm r hd) fun σ H Q ⟨o, st, rel, h⟩ => h _ H o rel (Tr.refl o H) (ha H fun a u e => (rel.root a u e).1)
/-! ### two operands -/
def fBin (g : S → Rs → Rs → Option Rs) (fa fb : S → Rz Rs) : S → Rz Rs := fun st => (fa st).bind fun x st => (fb st).bind fun y st => match g st x y with
  | some r => .ok r st
  | none => .no
/-- what an operator does by values -/
def OpS (c : C) (r : R2) (g : S → Rs → Rs → Option Rs) : Prop := ∀ (o : Own) (st : S) (σ : L2.St) (H Hs : Hp) (x y z : Rs) (v u : V) (Q : VK), SRel c.b o st σ H → (∀ a, Hs a ≠ none → H a ≠ none) → XRep c.b Hs o H σ x v → XRep c.b Hs o H σ y u → g st x y = some z →
  (∀ w H' , SRel c.b o st σ H' → Tr o H o H' → XRep c.b Hs o H' σ z w → Q w H') → r v u H Q
theorem bin_of {r : R2} {g : S → Rs → Rs → Option Rs} {fa fb : S → Rz Rs} (hs : OpS c r g) {σ : L2.St} {H : Hp} {Q : VK} : teOf c (fBin g fa fb) σ H Q → tOp r (teOf c fa) (teOf c fb) σ H Q := fun ⟨o, st, rel, h⟩ => by
  refine te_bind (E := fun z => teK c o σ H z Q) rel (Tr.refl o H) teK.e teK.n h fun x st1 v H1 o1 rel1 t1 _ x1 h1 => ?_
  refine te_bind (E := fun z => teK c o σ H z Q) rel1 t1 teK.e teK.n h1 fun y st2 u H2 o2 rel2 t2 t12 x2 h2 => ?_
  cases z : g st2 x y with
  | none => simp only [z] at h2; exact h2.elim
  | some w =>
    simp only [z] at h2
    exact hs o2 st2 σ H2 H x y w v u Q rel2 t12.trk (x1.step rel1 t2) (x2.start t1.trk) z fun w H' r' t' xr => h2 w H' o2 r' (t12.trans t') xr
theorem de_op {op : Operator} {a e : Expr} {pos : Pos} {r : R2} {g : S → Rs → Rs → Option Rs} {fa fb : S → Rz Rs} (ho : OpR X (binaryOp op) r) (hs : OpS c r g) (ha : DE X c a fa) (hb : DE X c e fb) : DE X c (.BinOp a op e pos) (fBin g fa fb) :=
  PE.mono (pe_op ho ha hb) fun _ _ _ h => bin_of hs h
theorem de_cmp {op : CmpOp} {a e : Expr} {pos : Pos} {r : R2} {g : S → Rs → Rs → Option Rs} {fa fb : S → Rz Rs} (ho : OpR X (compareOp op) r) (hs : OpS c r g) (ha : DE X c a fa) (hb : DE X c e fb) (hm : behindInMarks op e = false) : DE X c (.Compare a [op] [e] pos) (fBin g fa fb) :=
  PE.mono (pe_cmpR ho ha hb hm) fun _ _ _ h => bin_of hs h
/-- a value as a test -/
def fTest (f : S → Rz Rs) : S → Rz Bool := fun st => (f st).bind fun r st => match r with
  | .d (.bool b) => .ok b st
  | _ => .no
theorem test_of {t : TE} {f : S → Rz Rs} (h : ∀ {σ H Q}, teOf c f σ H Q → t σ H Q) {σ : L2.St} {H : Hp} {Q : Bool → Hp → Prop} : ttOf c (fTest f) σ H Q → tTest t σ H Q := fun ⟨o, st, rel, h1⟩ => by
  refine h (te_bind (E := fun z => ttK c o σ H z Q) rel (Tr.refl o H) ttK.e ttK.n h1 fun x st1 v H1 o1 rel1 t1 _ x1 h2 => ?_)
  cases x with
  | d x =>
    cases x with
    | bool b => exact ⟨b, At.bool_inv x1, h2 H1 o1 rel1 t1⟩
    | none => exact h2.elim
    | int _ => exact h2.elim
    | str _ => exact h2.elim
    | list _ => exact h2.elim
    | tuple _ => exact h2.elim
    | dict _ => exact h2.elim
  | own _ => exact h2.elim
  | var _ => exact h2.elim
theorem dt_cmp {op : CmpOp} {a e : Expr} {pos : Pos} {r : R2} {g : S → Rs → Rs → Option Rs} {fa fb : S → Rz Rs} (ho : OpR X (compareOp op) r) (hs : OpS c r g) (ha : DE X c a fa) (hb : DE X c e fb) (hm : behindInMarks op e = false) : DT X c (.Compare a [op] [e] pos) (fTest (fBin g fa fb)) :=
  PT.mono (pt_cmpR ho ha hb hm) fun _ _ _ h => test_of (fun h => bin_of hs h) h
theorem dt_val {e : Expr} {f : S → Rz Rs} (h : DE X c e f) (he : ∀ whole, isTrue e X.env whole = (do let v ← whole; standAt e.pos; holding [v] (truthy v)) := by intro _; rfl) : DT X c e (fTest f) :=
  PT.mono (pt_val h he) fun _ _ _ h => test_of (fun h => h) h
/-- a < b < c -/
def fChain (g g' : S → Rs → Rs → Option Rs) (fa fb fc : S → Rz Rs) : S → Rz Rs := fun st => (fa st).bind fun x st => (fb st).bind fun y st => match g st x y with
  | some (.d (.bool true)) => (fc st).bind fun z st => match g' st y z with
    | some r => .ok r st
    | none => .no
  | some (.d (.bool false)) => .ok (.d (.bool false)) st
  | _ => .no
theorem chain_of {r r' : R2} {g g' : S → Rs → Rs → Option Rs} {fa fb fc : S → Rz Rs} (hs : OpS c r g) (hs' : OpS c r' g') {σ : L2.St} {H : Hp} {Q : VK} : teOf c (fChain g g' fa fb fc) σ H Q → tChain r r' (teOf c fa) (teOf c fb) (teOf c fc) σ H Q := fun ⟨o, st, rel, h⟩ => by
  refine te_bind (E := fun z => teK c o σ H z Q) rel (Tr.refl o H) teK.e teK.n h fun x st1 v H1 o1 rel1 t1 _ x1 h1 => ?_
  refine te_bind (E := fun z => teK c o σ H z Q) rel1 t1 teK.e teK.n h1 fun y st2 u H2 o2 rel2 t2 t12 x2 h2 => ?_
  cases z : g st2 x y with
  | none => simp only [z] at h2; exact h2.elim
  | some w =>
    simp only [z] at h2
    refine hs o2 st2 σ H2 H x y w v u _ rel2 t12.trk (x1.step rel1 t2) (x2.start t1.trk) z fun v3 H3 r3 t3 x3 => ?_
    cases w with
    | own _ => exact h2.elim
    | var _ => exact h2.elim
    | d w =>
      cases w with
      | none => exact h2.elim
      | int _ => exact h2.elim
      | str _ => exact h2.elim
      | list _ => exact h2.elim
      | tuple _ => exact h2.elim
      | dict _ => exact h2.elim
      | bool k =>
        refine ⟨k, At.bool_inv x3, ?_⟩
        cases k with
        | false =>
          refine iteF ?_
          rw [← At.bool_inv x3]
          exact h2 _ H3 o2 r3 (t12.trans t3) x3
        | true =>
          refine iteT ?_
          refine te_bind (E := fun z => teK c o σ H z Q) r3 (t12.trans t3) teK.e teK.n h2 fun y' st4 u4 H4 o4 rel4 t4 t14 x4 h4 => ?_
          cases z' : g' st4 y y' with
          | none => simp only [z'] at h4; exact h4.elim
          | some w' =>
            simp only [z'] at h4
            have x2' := ((x2.start (Hs := H) t1.trk).step rel2 t3).step r3 t4
            exact hs' o4 st4 σ H4 H y y' w' u u4 Q rel4 t14.trk x2' (x4.start (t12.trans t3).trk) z' fun w H' r' t' xr => h4 w H' o4 r' (t14.trans t') xr
theorem de_chain {op op' : CmpOp} {a e e2 : Expr} {pos : Pos} {r r' : R2} {g g' : S → Rs → Rs → Option Rs} {fa fb fc : S → Rz Rs} (ho : OpR X (compareOp op) r) (ho' : OpR X (compareOp op') r') (hs : OpS c r g) (hs' : OpS c r' g') (ha : DE X c a fa) (hb : DE X c e fb) (hc : DE X c e2 fc) (hm : lastMarks [op, op'] [e, e2] = false := by rfl) :
    DE X c (.Compare a [op, op'] [e, e2] pos) (fChain g g' fa fb fc) := PE.mono (pe_chain ho ho' ha hb hc (hm := hm)) fun _ _ _ h => chain_of hs hs' h
theorem dt_chain {op op' : CmpOp} {a e e2 : Expr} {pos : Pos} {r r' : R2} {g g' : S → Rs → Rs → Option Rs} {fa fb fc : S → Rz Rs} (ho : OpR X (compareOp op) r) (ho' : OpR X (compareOp op') r') (hs : OpS c r g) (hs' : OpS c r' g') (ha : DE X c a fa) (hb : DE X c e fb) (hc : DE X c e2 fc) (hm : lastMarks [op, op'] [e, e2] = false := by rfl) :
    DT X c (.Compare a [op, op'] [e, e2] pos) (fTest (fChain g g' fa fb fc)) := PT.mono (pt_chain ho ho' ha hb hc (hm := hm)) fun _ _ _ h => test_of (fun h => chain_of hs hs' h) h
/-! ### and, or, not, if-else -/
def fAnd (fa fb : S → Rz Bool) : S → Rz Bool := fun st => (fa st).bind fun k st => match k with
  | true => fb st
  | false => .ok false st
def fOr (fa fb : S → Rz Bool) : S → Rz Bool := fun st => (fa st).bind fun k st => match k with
  | true => .ok true st
  | false => fb st
def fNot (fa : S → Rz Bool) : S → Rz Bool := fun st => (fa st).bind fun k st => .ok (!k) st
def fIf (ft : S → Rz Bool) (fa fb : S → Rz Rs) : S → Rz Rs := fun st => (ft st).bind fun k st => match k with
  | true => fa st
  | false => fb st
abbrev DW (X : Cx) (c : C) (e : Expr) (f : S → Rz Bool) : Prop := PW X e (ttOf c f)
theorem PW.mono {e : Expr} {t t' : TT} (h : PW X e t) (m : ∀ σ H Q, t' σ H Q → t σ H Q) : PW X e t' := ⟨fun wh pins s σ H Q I q => h.run wh pins s σ H Q I (m σ H Q q)⟩
theorem ttK.on {o o1 : Own} {σ : L2.St} {H H1 : Hp} {z : Rz Bool} {Q : Bool → Hp → Prop} (t : Tr o H o1 H1) (h : ttK c o σ H z Q) : ttK c o1 σ H1 z Q := by
  cases z with
  | ok r st1 => exact fun H' o' r1 t1 => h H' o' r1 (t.trans t1)
  | ex e st1 => exact fun cls d H' o' r1 t1 x1 => h cls d H' o' r1 (t.trans t1) x1
  | no => exact h
theorem teK.on {o o1 : Own} {σ : L2.St} {H H1 : Hp} {z : Rz Rs} {Q : VK} (t : Tr o H o1 H1) (h : teK c o σ H z Q) : teK c o1 σ H1 z Q := by
  cases z with
  | ok r st1 => exact fun v H' o' r1 t1 x1 => h v H' o' r1 (t.trans t1) (x1.start t.trk)
  | ex e st1 => exact fun cls d H' o' r1 t1 x1 => h cls d H' o' r1 (t.trans t1) x1
  | no => exact h
theorem dw_and1 {a : Expr} {pos : Pos} {fa : S → Rz Bool} (ha : DT X c a fa) : DW X c (.BoolOp .And [a] pos) fa := pw_and1 ha
theorem dw_or1 {a : Expr} {pos : Pos} {fa : S → Rz Bool} (ha : DT X c a fa) : DW X c (.BoolOp .Or [a] pos) fa := pw_or1 ha
theorem dw_and {a e : Expr} {es : List Expr} {pos : Pos} {fa fb : S → Rz Bool} (ha : DT X c a fa) (hb : DW X c (.BoolOp .And (e :: es) pos) fb) : DW X c (.BoolOp .And (a :: e :: es) pos) (fAnd fa fb) :=
  PW.mono (pw_and ha hb) fun σ H Q ⟨o, st, rel, h⟩ => by
    refine tt_bind (E := fun z => ttK c o σ H z Q) rel (Tr.refl o H) ttK.e ttK.n h fun k st1 H1 o1 rel1 t1 _ h1 => ?_
    cases k with
    | true => exact iteT ⟨o1, st1, rel1, h1.on t1⟩
    | false => exact iteF (h1 H1 o1 rel1 t1)
theorem dw_or {a e : Expr} {es : List Expr} {pos : Pos} {fa fb : S → Rz Bool} (ha : DT X c a fa) (hb : DW X c (.BoolOp .Or (e :: es) pos) fb) : DW X c (.BoolOp .Or (a :: e :: es) pos) (fOr fa fb) :=
  PW.mono (pw_or ha hb) fun σ H Q ⟨o, st, rel, h⟩ => by
    refine tt_bind (E := fun z => ttK c o σ H z Q) rel (Tr.refl o H) ttK.e ttK.n h fun k st1 H1 o1 rel1 t1 _ h1 => ?_
    cases k with
    | true => exact iteT (h1 H1 o1 rel1 t1)
    | false => exact iteF ⟨o1, st1, rel1, h1.on t1⟩
theorem dt_w {e : Expr} {f : S → Rz Bool} (h : DW X c e f) : DT X c e f := h.pt
theorem dt_not {a : Expr} {pos : Pos} {fa : S → Rz Bool} (ha : DT X c a fa) : DT X c (.UnaryOp .Not a pos) (fNot fa) :=
  PT.mono (pt_not ha) fun σ H Q ⟨o, st, rel, h⟩ => tt_bind (E := fun z => ttK c o σ H z Q) rel (Tr.refl o H) ttK.e ttK.n h fun k st1 H1 o1 rel1 t1 _ h1 => h1 H1 o1 rel1 t1
theorem de_if {t a e : Expr} {pos : Pos} {ft : S → Rz Bool} {fa fb : S → Rz Rs} (ht : DT X c t ft) (ha : DE X c a fa) (hb : DE X c e fb) : DE X c (.IfExp t a e pos) (fIf ft fa fb) :=
  PE.mono (pe_ifExp ht ha hb) fun σ H Q ⟨o, st, rel, h⟩ => by
    refine tt_bind (E := fun z => teK c o σ H z Q) rel (Tr.refl o H) teK.e teK.n h fun k st1 H1 o1 rel1 t1 _ h1 => ?_
    cases k with
    | true => exact iteT ⟨o1, st1, rel1, h1.on t1⟩
    | false => exact iteF ⟨o1, st1, rel1, h1.on t1⟩
/-- and, or, not of bools as values -/
def fOfT (f : S → Rz Bool) : S → Rz Rs := fun st => (f st).bind fun k st => .ok (.d (.bool k)) st
def fAndV (fa fb : S → Rz Rs) : S → Rz Rs := fun st => (fa st).bind fun r st => match r with
  | .d (.bool true) => fb st
  | .d (.bool false) => .ok (.d (.bool false)) st
  | _ => .no
def fOrV (fa fb : S → Rz Rs) : S → Rz Rs := fun st => (fa st).bind fun r st => match r with
  | .d (.bool true) => .ok (.d (.bool true)) st
  | .d (.bool false) => fb st
  | _ => .no
def fNotV (fa : S → Rz Rs) : S → Rz Rs := fun st => (fa st).bind fun r st => match r with
  | .d (.bool k) => .ok (.d (.bool !k)) st
  | _ => .no
theorem de_one {op} {a : Expr} {pos : Pos} {fa : S → Rz Rs} (ha : DE X c a fa) : DE X c (.BoolOp op [a] pos) fa := pe_one ha
theorem de_and {a e : Expr} {es : List Expr} {pos : Pos} {fa fb : S → Rz Rs} (ha : DE X c a fa) (hb : DE X c (.BoolOp .And (e :: es) pos) fb) : DE X c (.BoolOp .And (a :: e :: es) pos) (fAndV fa fb) :=
  PE.mono (pe_and ha hb) fun σ H Q ⟨o, st, rel, h⟩ => by
    refine te_bind (E := fun z => teK c o σ H z Q) rel (Tr.refl o H) teK.e teK.n h fun k st1 v H1 o1 rel1 t1 _ x1 h1 => ?_
    cases k with
    | own _ => exact h1.elim
    | var _ => exact h1.elim
    | d k =>
      cases k with
      | bool k =>
        refine ⟨k, At.bool_inv x1, ?_⟩
        cases k with
        | true => exact iteT ⟨o1, st1, rel1, teK.on t1 h1⟩
        | false => exact iteF (by rw [← At.bool_inv x1]; exact h1 _ H1 o1 rel1 t1 x1)
      | none => exact h1.elim
      | int _ => exact h1.elim
      | str _ => exact h1.elim
      | list _ => exact h1.elim
      | tuple _ => exact h1.elim
      | dict _ => exact h1.elim
theorem de_or {a e : Expr} {es : List Expr} {pos : Pos} {fa fb : S → Rz Rs} (ha : DE X c a fa) (hb : DE X c (.BoolOp .Or (e :: es) pos) fb) : DE X c (.BoolOp .Or (a :: e :: es) pos) (fOrV fa fb) :=
  PE.mono (pe_or ha hb) fun σ H Q ⟨o, st, rel, h⟩ => by
    refine te_bind (E := fun z => teK c o σ H z Q) rel (Tr.refl o H) teK.e teK.n h fun k st1 v H1 o1 rel1 t1 _ x1 h1 => ?_
    cases k with
    | own _ => exact h1.elim
    | var _ => exact h1.elim
    | d k =>
      cases k with
      | bool k =>
        refine ⟨k, At.bool_inv x1, ?_⟩
        cases k with
        | false => exact iteF ⟨o1, st1, rel1, teK.on t1 h1⟩
        | true => exact iteT (by rw [← At.bool_inv x1]; exact h1 _ H1 o1 rel1 t1 x1)
      | none => exact h1.elim
      | int _ => exact h1.elim
      | str _ => exact h1.elim
      | list _ => exact h1.elim
      | tuple _ => exact h1.elim
      | dict _ => exact h1.elim
theorem de_not {a : Expr} {pos : Pos} {fa : S → Rz Rs} (ha : DE X c a fa) : DE X c (.UnaryOp .Not a pos) (fNotV fa) :=
  PE.mono (pe_not ha) fun σ H Q ⟨o, st, rel, h⟩ => by
    refine te_bind (E := fun z => teK c o σ H z Q) rel (Tr.refl o H) teK.e teK.n h fun k st1 v H1 o1 rel1 t1 _ x1 h1 => ?_
    cases k with
    | own _ => exact h1.elim
    | var _ => exact h1.elim
    | d k =>
      cases k with
      | bool k => exact ⟨k, At.bool_inv x1, h1 _ H1 o1 rel1 t1 At.mk_bool⟩
      | none => exact h1.elim
      | int _ => exact h1.elim
      | str _ => exact h1.elim
      | list _ => exact h1.elim
      | tuple _ => exact h1.elim
      | dict _ => exact h1.elim
end
end FL
end
section
set_option Elab.async false
set_option linter.all false
set_option maxRecDepth 100000
set_option maxHeartbeats 2000000
namespace FL
open PySem PySem.Spec PyProof.Rows L2
/-! ### rules that make tuples, the new one told by its object -/
abbrev tupO (us : List Value) : Obj := { cls := .type "tuple", data := .seq us.toArray }
section
variable {X : Cx}
theorem tupO_ok {P : Program} {w : World} {H : Hp} {h : Heap} {a : Addr} {xs : List V} {us : List Value} {o : Obj} (e : h.get? a = some o) (ho : o = tupO us) (r : Vals xs us) (z : xs.length ≤ sizeLine) : ObjOk P w H h a (.frz o (.tup xs)) := by
  subst ho
  exact ⟨e, z, us, r, ⟨_, e, rfl, _, rfl⟩⟩
def tTupF (t : TA) : TE := fun σ H Q => t σ H fun xs H1 => xs.length ≤ sizeLine ∧ ∀ (p : Addr) (o : Obj), H1 p = none → o.dict = none → Q (.ref p) (upd H1 p (.frz o (.tup xs)))
theorem pe_tupF {es : List Expr} {t : TA} {pos : Pos} {x1} (h : PA X es t) : PE X (.Tuple es x1 pos) (tTupF t) := by
  refine ⟨fun pins s σ H Q I hq => ?_⟩
  refine wpAny_Tuple_spliced (thn (h.run pos pins s σ H _ I hq) fun us s1 ⟨xs, H1, I1, r, z, q⟩ => ⟨by rw [← r.length]; exact z, ?_⟩)
  have hf : H1 s1.heap.objs.size = none := I1.hok.fresh (Nat.le_refl _)
  refine ⟨.ref s1.heap.objs.size, upd H1 s1.heap.objs.size (.frz (tupO us) (.tup xs)), I1.laid (t' := s1.toks) (fun b u e => Heap.get?_push_of_some _ e) (Nat.le_refl _) ?_, rfl, q _ _ hf rfl⟩
  exact tupO_ok (Heap.get?_push_size _ rfl) rfl r z
/-- t + u -/
def rCatF (K : PySem.W.Frag) : R2 := fun x y H Q => ∃ a b xs ys, x = .ref a ∧ y = .ref b ∧ SqT K H a xs ∧ SqT K H b ys ∧ xs.length + ys.length ≤ sizeLine ∧
  (xs = [] → Q (.ref b) H) ∧ (xs ≠ [] → ys = [] → Q (.ref a) H) ∧ (xs ≠ [] → ys ≠ [] → ∀ (p : Addr) (o : Obj), H p = none → o.dict = none → Q (.ref p) (upd H p (.frz o (.tup (xs ++ ys)))))
theorem op_catF : OpR X (binaryOp .Add) (rCatF X.K) := by
  intro pins s σ H x y v u Q I rx ry h
  obtain ⟨a, b, xs, ys, rfl, rfl, ha, hb, hz, q0, q1, q2⟩ := h
  by_cases hx : xs = []
  · exact op_catA pins s σ H _ _ v u Q I rx ry ⟨a, b, xs, ys, rfl, rfl, ha, hb, hz, q0, q1, fun k => absurd hx k⟩
  · cases rx
    cases ry
    obtain ⟨its, r1, p1, _⟩ := I.tuple ha
    obtain ⟨its2, r2, p2, _⟩ := I.tuple hb
    refine HT.cat_tup p1 p2 (fun z => hx (r1.nil_iff.mp z)) (fun z => ⟨.ref a, H, I, rfl, q1 hx (r2.nil_iff.mp z)⟩) (fun z => ?_) (by rw [← r1.length, ← r2.length]; exact hz)
    refine ⟨.ref s.heap.objs.size, _, I.laid (t' := s.toks) (o := .frz (tupO (its ++ its2)) (.tup (xs ++ ys))) (fun b ob q => Heap.get?_push_of_some _ q) (Nat.le_refl _) ?_, rfl, q2 hx (fun w => z (r2.nil_iff.mpr w)) _ _ (I.hok.fresh (Nat.le_refl _)) rfl⟩
    exact tupO_ok (Heap.get?_push_size _ rfl) (by simp) (r1.append r2) (by rw [List.length_append]; exact hz)
/-- t[lo:hi] -/
def rSlF (K : PySem.W.Frag) : V → Option Int → Option Int → Hp → VK → Prop := fun x lo hi H Q => ∃ a xs, x = .ref a ∧ SqT K H a xs ∧
  (HT.sIx xs.length 0 lo = 0 ∧ HT.sIx xs.length xs.length hi = xs.length → Q (.ref a) H) ∧ (¬ (HT.sIx xs.length 0 lo = 0 ∧ HT.sIx xs.length xs.length hi = xs.length) → ∀ (p : Addr) (o : Obj), H p = none → o.dict = none → Q (.ref p) (upd H p (.frz o (.tup (cutV xs lo hi)))))
theorem sl_tupF : SlR X (rSlF X.K) := by
  intro pins s σ H x v vl vu lo hi sl Q I rx hs pl pu h
  obtain ⟨a, xs, rfl, hx, q1, q2⟩ := h
  by_cases hw : HT.sIx xs.length 0 lo = 0 ∧ HT.sIx xs.length xs.length hi = xs.length
  · exact sl_tupA pins s σ H _ v vl vu lo hi sl Q I rx hs pl pu ⟨a, xs, rfl, hx, q1, fun k => absurd hw k⟩
  · cases rx
    obtain ⟨its, r, ht, hz⟩ := I.tuple hx
    have hlen : its.toArray.size = xs.length := by rw [List.size_toArray]; exact r.length.symm
    refine ⟨"tuple", _, PyProof.Rows.slot_tuple_getitem.lookup, ht.typeIs, ?_⟩
    refine HT.getItem_tuple_cut ht hs pl pu (by rw [hlen]; exact hw) ?_ (by rw [hlen]; exact hz)
    rw [hlen]
    refine ⟨.ref s.heap.objs.size, _, I.laid (t' := s.toks) (o := .frz (tupO ((its.drop (HT.sIx xs.length 0 lo)).take (HT.sIx xs.length xs.length hi - HT.sIx xs.length 0 lo))) (.tup (cutV xs lo hi))) (fun b ob q => Heap.get?_push_of_some _ q) (Nat.le_refl _) ?_, rfl, q2 hw _ _ (I.hok.fresh (Nat.le_refl _)) rfl⟩
    exact tupO_ok (Heap.get?_push_size _ rfl) rfl ((r.drop (HT.sIx xs.length 0 lo)).take (HT.sIx xs.length xs.length hi - HT.sIx xs.length 0 lo)) (Nat.le_trans (cutV_length xs lo hi) hz)
/-- tuple(x) -/
theorem cr_tupleF : CallR X (.type "tuple") (fun xs H Q => ∃ p ys, xs = [.ref p] ∧ ((SqL X.K H p ys ∧ ∀ (l : Addr) (o : Obj), H l = none → o.dict = none → Q (.ref l) (upd H l (.frz o (.tup ys)))) ∨ (SqT X.K H p ys ∧ Q (.ref p) H))) := by
  intro pins s σ H xs us Q I r h
  obtain ⟨p, ys, rfl, h⟩ := h
  obtain ⟨v, rfl, rv⟩ := vals1 r
  rcases h with ⟨hs, q⟩ | ⟨hs, q⟩
  · obtain rfl : v = .ref p := rv
    obtain ⟨its, rv, pl, hz⟩ := I.list hs
    refine call_tuple_list pl.isList (fun h' hk => ?_) (by rw [List.size_toArray, ← rv.length]; exact hz)
    have I1 : Inv X pins σ H { s with heap := h' } := I.kept (t' := s.toks) hk
    have I2 : Inv X pins σ (upd H h'.objs.size (.frz (tupO its) (.tup ys))) { s with heap := h'.push { cls := .type "tuple", data := .seq its.toArray } } :=
      I1.laid (t' := s.toks) (fun b o e => Heap.get?_push_of_some _ e) (Nat.le_refl _) (tupO_ok (Heap.get?_push_size _ rfl) rfl rv hz)
    exact ⟨.ref h'.objs.size, _, I2, rfl, q _ _ (I1.hok.fresh (Nat.le_refl _)) rfl⟩
  · obtain rfl : v = .ref p := rv
    obtain ⟨its, rv, pl, hz⟩ := I.tuple hs
    exact call_tuple_tup pl ⟨.ref p, H, I, rfl, q⟩
end
end FL
end
section
set_option Elab.async false
set_option linter.all false
set_option maxRecDepth 100000
namespace FL
open PySem PySem.Spec PyProof.Rows L2
/-! ### giving new things -/
section
variable {c : C} {o : Own} {st : S} {σ : L2.St} {H Hs : Hp} {Q : VK}
theorem give_d (rel : SRel c.b o st σ H) {d : D} {v : V} (x : At c.b.K c.b.Hr H d v) (k : ∀ w H', SRel c.b o st σ H' → Tr o H o H' → XRep c.b Hs o H' σ (.d d) w → Q w H') : Q v H := k v H rel (Tr.refl o H) x
theorem give_tup (rel : SRel c.b o st σ H) {ds : List D} {vs : List V} (x : AtL c.b.K c.b.Hr H ds vs) (k : ∀ w H', SRel c.b o st σ H' → Tr o H o H' → XRep c.b Hs o H' σ (.d (.tuple ds)) w → Q w H') :
    ∀ (p : Addr) (ob : Obj), H p = none → ob.dict = none → Q (.ref p) (upd H p (.frz ob (.tup vs))) := fun p ob n nd => k (.ref p) _ (rel.laid n) (Tr.laid n) (At.tup (.inl ⟨ob, upd_same, nd⟩) (x.mono (tp_upd n) _ _))
theorem give_lst (rel : SRel c.b o st σ H) (hs : ∀ a, Hs a ≠ none → H a ≠ none) {ds : List D} {vs : List V} (x : AtL c.b.K c.b.Hr H ds vs) (k : ∀ w H', SRel c.b o st σ H' → Tr o H o H' → XRep c.b Hs o H' σ (.own (.lst ds)) w → Q w H') :
    ∀ p, H p = none → Q (.ref p) (upd H p (.lst vs)) := fun p n => k (.ref p) _ (rel.laid n) (Tr.laid n) ⟨p, rfl, ⟨vs, upd_same, x.mono (tp_upd n) _ _⟩, (rel.fresh0 n).1, by
    cases z : Hs p with
    | none => rfl
    | some u => exact absurd n (hs p (by rw [z]; exact fun q => nomatch q))⟩
theorem sq_root {K : PySem.W.Frag} {Hr H : Hp} {a : Addr} {vs : List V} (root : ∀ c u, Hr c = some u → H c = some u) (q : SqL K Hr a vs) : SqL K H a vs := by
  rcases q with (q | ⟨ob, q⟩) | q
  · exact .inl (.inl (root _ _ q))
  · exact .inl (.inr ⟨ob, root _ _ q⟩)
  · exact .inr q
/-- the items of a value that is a sequence -/
def S.lst (st : S) (r : Rs) : Option (List D) := match r with
  | .d (.list xs) => some xs
  | .d _ => none
  | r => match st.der r with
    | some (.lst xs) => some xs
    | _ => none
def S.seq (st : S) (r : Rs) : Option (List D) := match r with
  | .d (.tuple xs) => some xs
  | r => st.lst r
theorem SRel.lst (rel : SRel c.b o st σ H) {r : Rs} {v : V} {xs : List D} (x : XRep c.b Hs o H σ r v) (e : st.lst r = some xs) : ∃ a vs, v = .ref a ∧ SqL c.b.K H a vs ∧ AtL c.b.K c.b.Hr H xs vs := by
  have go : ∀ {r : Rs}, XRep c.b Hs o H σ r v → (match st.der r with | some (.lst xs) => some xs | _ => none) = some xs → ∃ a vs, v = .ref a ∧ SqL c.b.K H a vs ∧ AtL c.b.K c.b.Hr H xs vs := by
    intro r x e
    cases z : st.der r with
    | none => rw [z] at e; cases e
    | some m =>
      rw [z] at e
      cases m with
      | lst ys =>
        cases e
        obtain ⟨a, rfl, vs, h, q⟩ := rel.der x z
        exact ⟨a, vs, rfl, .inl (.inl h), q⟩
      | dicK _ => cases e
      | dicT _ => cases e
  cases r with
  | d d =>
    cases d with
    | list ys =>
      have e' : ys = xs := Option.some.inj e
      subst e'
      obtain ⟨a, vs, rfl, h, q⟩ := At.lst_inv x
      exact ⟨a, vs, rfl, h.sq (fun c u e => (rel.root c u e).1), q⟩
    | none => cases e
    | bool _ => cases e
    | int _ => cases e
    | str _ => cases e
    | tuple _ => cases e
    | dict _ => cases e
  | own m => exact go x e
  | var i => exact go x e
theorem SRel.seq (rel : SRel c.b o st σ H) {r : Rs} {v : V} {xs : List D} (x : XRep c.b Hs o H σ r v) (e : st.seq r = some xs) : ∃ a vs, v = .ref a ∧ (SqL c.b.K H a vs ∨ TqT c.b.K H a vs) ∧ AtL c.b.K c.b.Hr H xs vs := by
  have go : ∀ {r : Rs}, XRep c.b Hs o H σ r v → st.lst r = some xs → ∃ a vs, v = .ref a ∧ (SqL c.b.K H a vs ∨ TqT c.b.K H a vs) ∧ AtL c.b.K c.b.Hr H xs vs := fun x e => by
    obtain ⟨a, vs, e1, h, q⟩ := rel.lst x e
    exact ⟨a, vs, e1, .inl h, q⟩
  cases r with
  | d d =>
    cases d with
    | tuple ys =>
      have e' : ys = xs := Option.some.inj e
      subst e'
      obtain ⟨a, vs, rfl, h, q⟩ := At.tup_invT x
      exact ⟨a, vs, rfl, .inr h, q⟩
    | list ys => exact go x e
    | none => cases e
    | bool _ => cases e
    | int _ => cases e
    | str _ => cases e
    | dict _ => cases e
  | own m => exact go x e
  | var i => exact go x e
/-- as a datum -/
def S.toD (st : S) (r : Rs) : Option D := match r with
  | .d x => some x
  | r => match st.der r with
    | some (.lst xs) => some (.list xs)
    | _ => none
theorem SRel.toD (rel : SRel c.b o st σ H) {r : Rs} {v : V} {x : D} (h : XRep c.b Hs o H σ r v) (e : st.toD r = some x) : Dp c.b.K H v x := by
  have go : ∀ {r : Rs}, XRep c.b Hs o H σ r v → (match st.der r with | some (.lst xs) => some (PyData.list xs) | _ => none) = some x → Dp c.b.K H v x := by
    intro r h e
    cases z : st.der r with
    | none => rw [z] at e; cases e
    | some m =>
      rw [z] at e
      cases m with
      | lst ys =>
        cases e
        obtain ⟨a, rfl, vs, h, q⟩ := rel.der h z
        exact .lst (.inl (.inl h)) (AtL.dp (fun c u e => (rel.root c u e).1) _ _ q)
      | dicK _ => cases e
      | dicT _ => cases e
  cases r with
  | d d =>
    have e' : d = x := Option.some.inj e
    subst e'
    exact At.dp (fun c u e => (rel.root c u e).1) _ _ h
  | own m => exact go h e
  | var i => exact go h e
end
/-! ### operators on ints -/
def gI (p : Int → Int → Bool) (g : Int → Int → D) : S → Rs → Rs → Option Rs := fun _ x y => match x, y with
  | .d (.int i), .d (.int j) => if p i j = true then some (.d (g i j)) else none
  | _, _ => none
def dv : D → V
  | .bool b => .bl b
  | .int i => .int i
  | .str x => .str x
  | _ => .non
theorem gI_inv {p : Int → Int → Bool} {g : Int → Int → D} {st : S} {x y z : Rs} (e : gI p g st x y = some z) : ∃ i j, x = .d (.int i) ∧ y = .d (.int j) ∧ p i j = true ∧ z = .d (g i j) := by
  unfold gI at e
  split at e
  · rename_i i j
    by_cases h : p i j = true
    · rw [if_pos h] at e
      exact ⟨i, j, rfl, rfl, h, (Option.some.inj e).symm⟩
    · rw [if_neg h] at e; cases e
  · cases e
theorem ops_I {c : C} {P : Int → Int → Prop} {f : Int → Int → V} {p : Int → Int → Bool} {g : Int → Int → D} (hp : ∀ i j, p i j = true → P i j) (hg : ∀ {K Hr H i j}, At K Hr H (g i j) (f i j)) : OpS c (rI P f) (gI p g) := by
  intro o st σ H Hs x y z v u Q rel hs hx hy e k
  obtain ⟨i, j, rfl, rfl, h, rfl⟩ := gI_inv e
  exact ⟨i, j, At.int_inv hx, At.int_inv hy, hp i j h, give_d rel hg k⟩
theorem ops_I0 {c : C} {f : Int → Int → V} {g : Int → Int → D} (hg : ∀ {K Hr H i j}, At K Hr H (g i j) (f i j)) : OpS c (rI0 f) (gI (fun _ _ => true) g) := by
  intro o st σ H Hs x y z v u Q rel hs hx hy e k
  obtain ⟨i, j, rfl, rfl, h, rfl⟩ := gI_inv e
  exact ⟨i, j, At.int_inv hx, At.int_inv hy, give_d rel hg k⟩
def gOr (g g' : S → Rs → Rs → Option Rs) : S → Rs → Rs → Option Rs := fun st x y => (g st x y).or (g' st x y)
theorem OpS.or {c : C} {r r' : R2} {g g' : S → Rs → Rs → Option Rs} (h : OpS c r g) (h' : OpS c r' g') : OpS c (fun x y H Q => r x y H Q ∨ r' x y H Q) (gOr g g') := by
  intro o st σ H Hs x y z v u Q rel hs hx hy e k
  unfold gOr at e
  cases q : g st x y with
  | some w =>
    rw [q] at e
    cases e
    exact .inl (h o st σ H Hs x y _ v u Q rel hs hx hy q k)
  | none =>
    rw [q] at e
    exact .inr (h' o st σ H Hs x y _ v u Q rel hs hx hy e k)
abbrev gAddI := gI (fun _ _ => true) fun i j => .int (i + j)
abbrev gSub := gI (fun _ _ => true) fun i j => .int (i - j)
abbrev gMulI := gI (fun i j => decide ((-(2 ^ 64) < i ∧ i < 2 ^ 64) ∨ (-(2 ^ 64) < j ∧ j < 2 ^ 64))) fun i j => .int (i * j)
abbrev gMod := gI (fun _ j => decide (0 < j)) fun i j => .int (i % j)
abbrev gFdiv := gI (fun _ j => decide (0 < j ∧ j < 2 ^ 64)) fun i j => .int (i / j)
abbrev gPow := gI (fun i j => decide (0 ≤ j ∧ j ≤ 1000000 ∧ i.natAbs < 2 ^ 64)) fun i j => .int (i ^ j.toNat)
abbrev gLt := gI (fun _ _ => true) fun i j => .bool (decide (i < j))
abbrev gLe := gI (fun _ _ => true) fun i j => .bool (decide (i ≤ j))
abbrev gGt := gI (fun _ _ => true) fun i j => .bool (decide (j < i))
abbrev gGe := gI (fun _ _ => true) fun i j => .bool (decide (j ≤ i))
theorem divW {j : Int} (h : decide (0 < j ∧ j < 2 ^ 64) = true) : 0 < j ∧ j.natAbs.log2 < 9000 := by
  obtain ⟨h1, h2⟩ := of_decide_eq_true h
  have : j.natAbs < 2 ^ 64 := by omega
  exact ⟨h1, Nat.lt_of_lt_of_le (PySem.Flt.log2_lt_of (by omega) this) (by omega)⟩
section
variable {c : C}
theorem ops_addI : OpS c (rI0 fun i j => .int (i + j)) gAddI := ops_I0 .int
theorem ops_sub : OpS c (rI0 fun i j => .int (i - j)) gSub := ops_I0 .int
theorem ops_mulI : OpS c (rI CMul fun i j => .int (i * j)) gMulI := ops_I (fun i j h => show (-(2 ^ 64) < i ∧ i < 2 ^ 64) ∨ (-(2 ^ 64) < j ∧ j < 2 ^ 64) from of_decide_eq_true h) .int
theorem ops_mod : OpS c (rI (fun _ j => 0 < j) fun i j => .int (i % j)) gMod := ops_I (fun i j h => of_decide_eq_true h) .int
theorem ops_fdiv : OpS c (rI CDivW fun i j => .int (i / j)) gFdiv := ops_I (fun i j h => divW h) .int
theorem ops_pow : OpS c (rI CPow fun i j => .int (i ^ j.toNat)) gPow := ops_I (fun i j h => show 0 ≤ j ∧ j ≤ 1000000 ∧ i.natAbs < 2 ^ 64 from of_decide_eq_true h) .int
theorem ops_lt : OpS c (rI0 fun i j => .bl (decide (i < j))) gLt := ops_I0 .bl
theorem ops_le : OpS c (rI0 fun i j => .bl (decide (i ≤ j))) gLe := ops_I0 .bl
theorem ops_gt : OpS c (rI0 fun i j => .bl (decide (j < i))) gGt := ops_I0 .bl
theorem ops_ge : OpS c (rI0 fun i j => .bl (decide (j ≤ i))) gGe := ops_I0 .bl
end
/-! ### + and * of other things -/
def gAddS : S → Rs → Rs → Option Rs := fun _ x y => match x, y with
  | .d (.str i), .d (.str j) => if i.length + j.length ≤ sizeLine then some (.d (.str (i ++ j))) else none
  | _, _ => none
def gAddT : S → Rs → Rs → Option Rs := fun _ x y => match x, y with
  | .d (.tuple i), .d (.tuple j) => if i.length + j.length ≤ sizeLine then some (.d (.tuple (i ++ j))) else none
  | _, _ => none
/-- a list of one's own that can be written or is lent -/
def S.mlst (st : S) (r : Rs) : Option (List D) := match st.der r with
  | some (.lst xs) => some xs
  | _ => none
def gAddL : S → Rs → Rs → Option Rs := fun st x y => match st.mlst x, st.mlst y with
  | some i, some j => if i.length + j.length ≤ sizeLine then some (.own (.lst (i ++ j))) else none
  | _, _ => none
def gRepL : S → Rs → Rs → Option Rs := fun st x y => match st.mlst x, y with
  | some xs, .d (.int k) => if -(2 ^ 63) ≤ k ∧ k < 2 ^ 63 ∧ xs.length * k.toNat ≤ sizeLine then some (.own (.lst (List.replicate k.toNat xs).flatten)) else none
  | _, _ => none
section
variable {c : C} {o : Own} {st : S} {σ : L2.St} {H Hs : Hp} {Q : VK}
theorem SRel.mlst (rel : SRel c.b o st σ H) {r : Rs} {v : V} {xs : List D} (x : XRep c.b Hs o H σ r v) (e : st.mlst r = some xs) : ∃ a vs, v = .ref a ∧ H a = some (.lst vs) ∧ AtL c.b.K c.b.Hr H xs vs := by
  unfold S.mlst at e
  cases z : st.der r with
  | none => rw [z] at e; cases e
  | some m =>
    rw [z] at e
    cases m with
    | lst ys =>
      cases e
      obtain ⟨a, rfl, vs, h, q⟩ := rel.der x z
      exact ⟨a, vs, rfl, h, q⟩
    | dicK _ => cases e
    | dicT _ => cases e
theorem ops_addS : OpS c (fun x y H Q => ∃ i j, x = .str i ∧ y = .str j ∧ i.length + j.length ≤ sizeLine ∧ Q (.str (i ++ j)) H) gAddS := by
  intro o st σ H Hs x y z v u Q rel hs hx hy e k
  unfold gAddS at e
  split at e
  · rename_i i j
    split at e
    · rename_i hl
      cases e
      exact ⟨i, j, At.str_inv hx, At.str_inv hy, hl, give_d rel .str k⟩
    · cases e
  · cases e
theorem ops_addT : OpS c (rCatF c.b.K) gAddT := by
  intro o st σ H Hs x y z v u Q rel hs hx hy e k
  unfold gAddT at e
  split at e
  · rename_i i j
    split at e
    · rename_i hl
      cases e
      obtain ⟨a, vs, rfl, qa, ha⟩ := At.tup_invT hx
      obtain ⟨b, us, rfl, qb, hb⟩ := At.tup_invT hy
      refine ⟨a, b, vs, us, rfl, rfl, qa.sq, qb.sq, by rw [ha.len, hb.len]; exact hl, fun e => ?_, fun e1 e2 => ?_, fun e1 e2 => ?_⟩
      · subst e
        cases ha
        exact give_d rel (.tup qb hb) k
      · subst e2
        cases hb
        rw [List.append_nil] at k
        exact give_d rel (.tup qa ha) k
      · exact give_tup rel (ha.append hb) k
    · cases e
  · cases e
theorem ops_addL : OpS c rCat gAddL := by
  intro o st σ H Hs x y z v u Q rel hs hx hy e k
  unfold gAddL at e
  split at e
  · rename_i i j ei ej
    split at e
    · rename_i hl
      cases e
      obtain ⟨a, vs, rfl, qa, ha⟩ := rel.mlst hx ei
      obtain ⟨b, us, rfl, qb, hb⟩ := rel.mlst hy ej
      exact ⟨a, b, vs, us, rfl, rfl, qa, qb, by rw [ha.len, hb.len]; exact hl, give_lst rel hs (ha.append hb) k⟩
    · cases e
  · cases e
theorem AtL.rep {K : PySem.W.Frag} {Hr H : Hp} {ds : List D} {vs : List V} (h : AtL K Hr H ds vs) : ∀ n : Nat, AtL K Hr H (List.replicate n ds).flatten (List.replicate n vs).flatten
  | 0 => .nil
  | n + 1 => by
    rw [List.replicate_succ, List.replicate_succ, List.flatten_cons, List.flatten_cons]
    exact h.append (AtL.rep h n)
theorem ops_repL : OpS c rRep gRepL := by
  intro o st σ H Hs x y z v u Q rel hs hx hy e k
  unfold gRepL at e
  split at e
  · rename_i i j ei
    split at e
    · rename_i hl
      cases e
      obtain ⟨a, vs, rfl, qa, ha⟩ := rel.mlst hx ei
      exact ⟨a, j, vs, rfl, At.int_inv hy, qa, hl.1, hl.2.1, by rw [ha.len]; exact hl.2.2, give_lst rel hs (ha.rep _) k⟩
    · cases e
  · cases e
end
abbrev gAdd := gOr gAddI (gOr gAddT (gOr gAddL gAddS))
theorem ops_add {c : C} {X : Cx} (hk : X.K = c.b.K) : ∃ r, OpR X (binaryOp .Add) r ∧ OpS c r gAdd := by
  refine ⟨_, OpR.or op_add (OpR.or op_catF (OpR.or op_cat op_add_str)), ?_⟩
  rw [hk]
  exact ops_addI.or (ops_addT.or (ops_addL.or ops_addS))
/-! ### ==, in -/
mutual
theorem Dp.plain {K : PySem.W.Frag} {H : Hp} : ∀ (d : PyData) (v : V), Dp K H v d → d.plain = true
  | .none, _, _ => rfl
  | .bool _, _, _ => rfl
  | .int _, _, _ => rfl
  | .str _, _, _ => rfl
  | .list ds, _, h => by
    cases h with
    | lst _ q => simp only [PyData.plain]; exact DpAll.plain ds _ q
  | .tuple ds, _, h => by
    cases h with
    | tup _ q => simp only [PyData.plain]; exact DpAll.plain ds _ q
  | .dict _, _, h => by cases h
theorem DpAll.plain {K : PySem.W.Frag} {H : Hp} : ∀ (ds : List PyData) (vs : List V), DpAll K H vs ds → PyData.plainAll ds = true
  | [], _, _ => rfl
  | d :: ds, _, h => by
    cases h with
    | cons q t => simp only [PyData.plainAll, Dp.plain d _ q, DpAll.plain ds _ t, Bool.and_self]
end
def rEqP (neg : Bool) (K : PySem.W.Frag) : R2 := fun x y H Q => ∃ d e, Dp K H x d ∧ Dp K H y e ∧ min d.depth e.depth ≤ 60 ∧ Q (.bl (PyData.eqv d e != neg)) H
section
variable {X : Cx}
theorem op_eqP (hu : X.A.units + 100 < cLine) : OpR X (compareOp .Eq) (rEqP false X.K) := by
  intro pins s σ H x y v u Q I rx ry h
  obtain ⟨d, e, hd, he, sd, q⟩ := h
  obtain ⟨as, r1⟩ := Dp.reads I d x v hd rx
  obtain ⟨bs, r2⟩ := Dp.reads I e y u he ry
  exact PySem.SeqAt.eq_plain r1 r2 (Dp.plain d _ hd) (Dp.plain e _ he) (by omega) ⟨.bl _, H, I, rfl, by simpa using q⟩
theorem op_neP (hu : X.A.units + 100 < cLine) : OpR X (compareOp .NotEq) (rEqP true X.K) := by
  intro pins s σ H x y v u Q I rx ry h
  obtain ⟨d, e, hd, he, sd, q⟩ := h
  obtain ⟨as, r1⟩ := Dp.reads I d x v hd rx
  obtain ⟨bs, r2⟩ := Dp.reads I e y u he ry
  exact PySem.SeqAt.ne_plain r1 r2 (Dp.plain d _ hd) (Dp.plain e _ he) (by omega) ⟨.bl _, H, I, rfl, by simpa using q⟩
def rInP (neg : Bool) (K : PySem.W.Frag) : R2 := fun x y H Q => ∃ d ds, Dp K H x d ∧ (Dp K H y (.list ds) ∨ Dp K H y (.tuple ds)) ∧ min (PyData.depthAll ds) d.depth ≤ 60 ∧ Q (.bl ((ds.any fun z => PyData.eqv z d) != neg)) H
theorem op_inP (hu : X.A.units + 100 < cLine) : OpR X (compareOp .In) (rInP false X.K) := by
  intro pins s σ H x y v u Q I rx ry h
  obtain ⟨d, ds, hd, he, sd, q⟩ := h
  obtain ⟨as, r1⟩ := Dp.reads I d x v hd rx
  rcases he with he | he
  · obtain ⟨bs, r2⟩ := Dp.reads I _ y u he ry
    exact PySem.SeqAt.in_list_data r2 r1 (by have := Dp.plain _ _ he; simpa only [PyData.plain] using this) (Dp.plain d _ hd) (by omega) ⟨.bl _, H, I, rfl, by simpa using q⟩
  · obtain ⟨bs, r2⟩ := Dp.reads I _ y u he ry
    exact PySem.SeqAt.in_tuple_data r2 r1 (by have := Dp.plain _ _ he; simpa only [PyData.plain] using this) (Dp.plain d _ hd) (by omega) ⟨.bl _, H, I, rfl, by simpa using q⟩
theorem op_notInP (hu : X.A.units + 100 < cLine) : OpR X (compareOp .NotIn) (rInP true X.K) := by
  intro pins s σ H x y v u Q I rx ry h
  obtain ⟨d, ds, hd, he, sd, q⟩ := h
  obtain ⟨as, r1⟩ := Dp.reads I d x v hd rx
  rcases he with he | he
  · obtain ⟨bs, r2⟩ := Dp.reads I _ y u he ry
    exact PySem.SeqAt.notIn_list_data r2 r1 (by have := Dp.plain _ _ he; simpa only [PyData.plain] using this) (Dp.plain d _ hd) (by omega) ⟨.bl _, H, I, rfl, by simpa using q⟩
  · obtain ⟨bs, r2⟩ := Dp.reads I _ y u he ry
    exact PySem.SeqAt.notIn_tuple_data r2 r1 (by have := Dp.plain _ _ he; simpa only [PyData.plain] using this) (Dp.plain d _ hd) (by omega) ⟨.bl _, H, I, rfl, by simpa using q⟩
end
def gEqN (neg : Bool) : S → Rs → Rs → Option Rs := fun st x y => match st.toD x, st.toD y with
  | some d, some e => if min d.depth e.depth ≤ 60 then some (.d (.bool (PyData.eqv d e != neg))) else none
  | _, _ => none
abbrev gEq := gEqN false
abbrev gNe := gEqN true
theorem ops_eqN {c : C} {neg : Bool} : OpS c (rEqP neg c.b.K) (gEqN neg) := by
  intro o st σ H Hs x y z v u Q rel hs hx hy e k
  unfold gEqN at e
  split at e
  · rename_i i j ei ej
    split at e
    · rename_i hl
      cases e
      exact ⟨i, j, rel.toD hx ei, rel.toD hy ej, hl, give_d rel .bl k⟩
    · cases e
  · cases e
def gInN (neg : Bool) : S → Rs → Rs → Option Rs := fun st x y => match st.toD x, st.seq y with
  | some d, some ds => if min (PyData.depthAll ds) d.depth ≤ 60 then some (.d (.bool ((ds.any fun z => PyData.eqv z d) != neg))) else none
  | _, _ => none
abbrev gIn := gInN false
abbrev gNotIn := gInN true
theorem ops_inN {c : C} {neg : Bool} : OpS c (rInP neg c.b.K) (gInN neg) := by
  intro o st σ H Hs x y z v u Q rel hs hx hy e k
  unfold gInN at e
  split at e
  · rename_i d ds ei ej
    split at e
    · rename_i hl
      cases e
      refine ⟨d, ds, rel.toD hx ei, ?_, hl, give_d rel .bl k⟩
      obtain ⟨a, vs, rfl, q, ha⟩ := rel.seq hy ej
      rcases q with q | q
      · exact .inl (.lst q (AtL.dp (fun c u e => (rel.root c u e).1) _ _ ha))
      · exact .inr (.tup q.sq (AtL.dp (fun c u e => (rel.root c u e).1) _ _ ha))
    · cases e
  · cases e
/-- is None -/
def nonB : D → Bool
  | .none => true
  | _ => false
def gIsN (neg : Bool) : S → Rs → Rs → Option Rs := fun _ x y => match x, y with
  | .d d, .d .none => some (.d (.bool (nonB d != neg)))
  | _, _ => none
theorem At.non_iff {K : PySem.W.Frag} {Hr H : Hp} {d : D} {v : V} (h : At K Hr H d v) : decide (v = .non) = nonB d := by
  cases h <;> simp [nonB]
theorem ops_is {c : C} : OpS c (fun x y H Q => y = .non ∧ Q (.bl (decide (x = .non))) H) (gIsN false) := by
  intro o st σ H Hs x y z v u Q rel hs hx hy e k
  unfold gIsN at e
  split at e
  · rename_i d
    cases e
    refine ⟨At.none_inv hy, ?_⟩
    rw [At.non_iff hx]
    refine give_d rel ?_ k
    simpa using At.bl
  · cases e
theorem ops_isnot {c : C} : OpS c (fun x y H Q => y = .non ∧ Q (.bl (!decide (x = .non))) H) (gIsN true) := by
  intro o st σ H Hs x y z v u Q rel hs hx hy e k
  unfold gIsN at e
  split at e
  · rename_i d
    cases e
    refine ⟨At.none_inv hy, ?_⟩
    rw [At.non_iff hx]
    refine give_d rel ?_ k
    simpa using At.bl
  · cases e
end FL
end
section
set_option Elab.async false
set_option linter.all false
set_option maxRecDepth 100000
namespace FL
open PySem PySem.Spec PyProof.Rows L2
/-! ### argument lists, displays -/
def fNil : S → Rz (List Rs) := fun st => .ok [] st
def fCons (fa : S → Rz Rs) (ft : S → Rz (List Rs)) : S → Rz (List Rs) := fun st => (fa st).bind fun x st => (ft st).bind fun xs st => .ok (x :: xs) st
section
variable {X : Cx} {c : C} {o : Own} {σ : L2.St} {H Hs : Hp} {st : S}
theorem da_nil : DA X c [] fNil := PA.mono pa_nil fun σ H Q ⟨o, st, rel, h⟩ => h [] H o rel (Tr.refl o H) rfl
theorem da_cons {e : Expr} {es : List Expr} {fa : S → Rz Rs} {ft : S → Rz (List Rs)} (ha : DE X c e fa) (ht : DA X c es ft) (he : starEach (e :: es) X.env = (false, eval e X.env) :: starEach es X.env := by rfl) : DA X c (e :: es) (fCons fa ft) :=
  PA.mono (pa_cons ha ht (hs := he)) fun σ H Q ⟨o, st, rel, h⟩ => by
    refine te_bind (E := fun z => taK c o σ H z Q) rel (Tr.refl o H) taK.e taK.n h fun x st1 v H1 o1 rel1 t1 _ x1 h1 => ?_
    refine ta_bind (E := fun z => taK c o σ H z Q) rel1 t1 taK.e taK.n h1 fun xs st2 vs H2 o2 rel2 t2 t12 x2 h2 => ?_
    refine h2 (v :: vs) H2 o2 rel2 t12 ⟨v, vs, rfl, x1.step rel1 t2, x2.start t1.trk, fun m em j m' ej ev => ?_⟩
    subst em
    obtain ⟨a, ea, q, _, _⟩ := x1
    obtain ⟨w, ew, b, eb, _, _, nb⟩ := XReps.get x2 ej
    rw [ew] at ev
    have ev' : w = v := Option.some.inj ev
    rw [eb, ea] at ev'
    cases ev'
    exact absurd nb (Mut.some q.mu)
def allD : List Rs → Option (List D)
  | [] => some []
  | .d x :: r => (allD r).map (x :: ·)
  | _ => none
theorem allD_at : ∀ {rs : List Rs} {vs : List V} {ds : List D}, XReps c.b Hs o H σ rs vs → allD rs = some ds → AtL c.b.K c.b.Hr H ds vs
  | [], vs, ds, h, e => by
    have h' : vs = [] := h
    cases e; rw [h']; exact .nil
  | .d x :: r, _, ds, ⟨v, us, e1, h1, h2, _⟩, e => by
    subst e1
    cases z : allD r with
    | none => simp only [allD, z] at e; cases e
    | some es =>
      simp only [allD, z] at e
      cases e
      exact .cons h1 (allD_at h2 z)
  | .own _ :: r, _, _, _, e => by cases e
  | .var _ :: r, _, _, _, e => by cases e
/-- what a call does by its values -/
def CallS (c : C) (r : List V → Hp → VK → Prop) (g : S → List Rs → Option Rs) : Prop := ∀ (o : Own) (st : S) (σ : L2.St) (H Hs : Hp) (xs : List Rs) (z : Rs) (vs : List V) (Q : VK), SRel c.b o st σ H → (∀ a, Hs a ≠ none → H a ≠ none) → XReps c.b Hs o H σ xs vs → g st xs = some z →
  (∀ w H', SRel c.b o st σ H' → Tr o H o H' → XRep c.b Hs o H' σ z w → Q w H') → r vs H Q
def fCall (g : S → List Rs → Option Rs) (fa : S → Rz (List Rs)) : S → Rz Rs := fun st => (fa st).bind fun xs st => match g st xs with
  | some r => .ok r st
  | none => .no
theorem call_of {r : List V → Hp → VK → Prop} {g : S → List Rs → Option Rs} {fa : S → Rz (List Rs)} (hs : CallS c r g) {Q : VK} : teOf c (fCall g fa) σ H Q → tCB r (taOf c fa) σ H Q := fun ⟨o, st, rel, h⟩ => by
  refine ta_bind (E := fun z => teK c o σ H z Q) rel (Tr.refl o H) teK.e teK.n h fun xs st1 vs H1 o1 rel1 t1 _ x1 h1 => ?_
  cases z : g st1 xs with
  | none => simp only [z] at h1; exact h1.elim
  | some w =>
    simp only [z] at h1
    exact hs o1 st1 σ H1 H xs w vs Q rel1 t1.trk x1 z fun w H' r' t' xr => h1 w H' o1 r' (t1.trans t') xr
def gOrC (g g' : S → List Rs → Option Rs) : S → List Rs → Option Rs := fun st xs => (g st xs).or (g' st xs)
theorem CallS.or {r r' : List V → Hp → VK → Prop} {g g' : S → List Rs → Option Rs} (h : CallS c r g) (h' : CallS c r' g') : CallS c (fun xs H Q => r xs H Q ∨ r' xs H Q) (gOrC g g') := by
  intro o st σ H Hs xs z vs Q rel hs hx e k
  unfold gOrC at e
  cases q : g st xs with
  | some w =>
    rw [q] at e
    cases e
    exact .inl (h o st σ H Hs xs _ vs Q rel hs hx q k)
  | none =>
    rw [q] at e
    exact .inr (h' o st σ H Hs xs _ vs Q rel hs hx e k)
theorem de_callB {x : Str} {id : String} {e : Expr} {es : List Expr} {p pos : Pos} {r : List V → Hp → VK → Prop} {g : S → List Rs → Option Rs} {fa : S → Rz (List Rs)} (hc : CallR X (.builtin id) r) (hs : CallS c r g) (hg : Gl X x) (hm : X.mg x = none) (hv : bootBuiltins x = some (.builtin id)) (ha : DA X c (e :: es) fa)
    (hn : x ≠ "__name__" := by decide) (hdb : (x == ("__debug__" : Str)) = false := by decide) (he : starEach (e :: es) X.env = (false, eval e X.env) :: starEach es X.env := by rfl) (hpl : (backTo pos (starEach es X.env)).any (·.1) = false := by rfl) : DE X c (.Call (.Name x p) (e :: es) [] pos) (fCall g fa) :=
  PE.mono (pe_callB hc hg hm hv ha hn hdb he hpl) fun _ _ _ h => call_of hs h
theorem de_callTy {x : Str} {T : String} {e : Expr} {es : List Expr} {p pos : Pos} {r : List V → Hp → VK → Prop} {g : S → List Rs → Option Rs} {fa : S → Rz (List Rs)} (hc : CallR X (.type T) r) (hs : CallS c r g) (hg : Gl X x) (hm : X.mg x = none) (hv : bootBuiltins x = some (.type T)) (ha : DA X c (e :: es) fa)
    (hn : x ≠ "__name__" := by decide) (hdb : (x == ("__debug__" : Str)) = false := by decide) (he : starEach (e :: es) X.env = (false, eval e X.env) :: starEach es X.env := by rfl) (hpl : (backTo pos (starEach es X.env)).any (·.1) = false := by rfl) : DE X c (.Call (.Name x p) (e :: es) [] pos) (fCall g fa) :=
  PE.mono (pe_callTy hc hg hm hv ha hn hdb he hpl) fun _ _ _ h => call_of hs h
/-- (a, b, ..) and [a, b, ..] -/
def gTup : S → List Rs → Option Rs := fun _ xs => match allD xs with
  | some ds => if ds.length ≤ sizeLine then some (.d (.tuple ds)) else none
  | none => none
def gLst : S → List Rs → Option Rs := fun _ xs => match allD xs with
  | some ds => if ds.length ≤ sizeLine then some (.own (.lst ds)) else none
  | none => none
theorem de_tup {es : List Expr} {x1 : Nat} {pos : Pos} {fa : S → Rz (List Rs)} {e : Expr} (h : PE X e (tTupF (taOf c fa))) : DE X c e (fCall gTup fa) := PE.mono h fun σ H Q hh =>
  call_of (r := fun xs H1 Q => xs.length ≤ sizeLine ∧ ∀ (p : Addr) (o : Obj), H1 p = none → o.dict = none → Q (.ref p) (upd H1 p (.frz o (.tup xs)))) (fun o st σ H Hs xs z vs Q rel hs hx e k => by
    unfold gTup at e
    split at e
    · rename_i ds ed
      split at e
      · rename_i hl
        cases e
        have ha := allD_at hx ed
        exact ⟨by rw [ha.len]; exact hl, give_tup rel ha k⟩
      · cases e
    · cases e) hh
theorem de_lst {fa : S → Rz (List Rs)} {e : Expr} (h : PE X e (tLst (taOf c fa))) : DE X c e (fCall gLst fa) := PE.mono h fun σ H Q hh =>
  call_of (r := fun xs H1 Q => xs.length ≤ sizeLine ∧ ∀ p, H1 p = none → Q (.ref p) (upd H1 p (.lst xs))) (fun o st σ H Hs xs z vs Q rel hs hx e k => by
    unfold gLst at e
    split at e
    · rename_i ds ed
      split at e
      · rename_i hl
        cases e
        have ha := allD_at hx ed
        exact ⟨by rw [ha.len]; exact hl, give_lst rel hs ha k⟩
      · cases e
    · cases e) hh
end
/-! ### built-ins -/
/-- all ints -/
def ints? : List D → Option (List Int)
  | [] => some []
  | .int i :: r => (ints? r).map (i :: ·)
  | _ => none
theorem ints?_map : ∀ ns : List Int, ints? (ns.map .int) = some ns
  | [] => rfl
  | n :: ns => by show (ints? (ns.map .int)).map (n :: ·) = _; rw [ints?_map ns]; rfl
theorem ints?_inv : ∀ {ds : List D} {ns : List Int}, ints? ds = some ns → ds = ns.map .int
  | [], ns, e => by cases e; rfl
  | .int i :: r, ns, e => by
    cases z : ints? r with
    | none => simp only [ints?, z] at e; cases e
    | some ms =>
      simp only [ints?, z] at e
      cases e
      rw [ints?_inv z]
      rfl
  | .none :: _, _, e => by cases e
  | .bool _ :: _, _, e => by cases e
  | .str _ :: _, _, e => by cases e
  | .list _ :: _, _, e => by cases e
  | .tuple _ :: _, _, e => by cases e
  | .dict _ :: _, _, e => by cases e
def lmin : List Int → Option Int
  | [] => none
  | x :: xs => some (xs.foldl min x)
def lmax : List Int → Option Int
  | [] => none
  | x :: xs => some (xs.foldl max x)
theorem foldl_min : ∀ (xs : List Int) (x : Int), xs.foldl min x ∈ x :: xs ∧ ∀ y ∈ x :: xs, xs.foldl min x ≤ y
  | [], x => ⟨by simp, by simp⟩
  | z :: xs, x => by
    obtain ⟨h1, h2⟩ := foldl_min xs (min x z)
    rw [List.foldl_cons]
    constructor
    · rcases List.mem_cons.mp h1 with e | e
      · rw [e]
        by_cases hh : x ≤ z
        · rw [show min x z = x by omega]; exact List.mem_cons_self
        · rw [show min x z = z by omega]; exact List.mem_cons_of_mem _ List.mem_cons_self
      · exact List.mem_cons_of_mem _ (List.mem_cons_of_mem _ e)
    · intro y hy
      have a := h2 (min x z) List.mem_cons_self
      rcases List.mem_cons.mp hy with rfl | hy
      · omega
      · rcases List.mem_cons.mp hy with rfl | hy
        · omega
        · exact h2 y (List.mem_cons_of_mem _ hy)
theorem lmin_eq {ns : List Int} {m k : Int} (e : lmin ns = some k) (h : m ∈ ns) (hl : ∀ y ∈ ns, m ≤ y) : m = k := by
  cases ns with
  | nil => cases h
  | cons x xs =>
    obtain ⟨h1, h2⟩ := foldl_min xs x
    have e' : xs.foldl min x = k := Option.some.inj e
    rw [← e']
    have := hl _ h1
    have := h2 _ h
    omega
theorem foldl_max : ∀ (xs : List Int) (x : Int), xs.foldl max x ∈ x :: xs ∧ ∀ y ∈ x :: xs, y ≤ xs.foldl max x
  | [], x => ⟨by simp, by simp⟩
  | z :: xs, x => by
    obtain ⟨h1, h2⟩ := foldl_max xs (max x z)
    rw [List.foldl_cons]
    constructor
    · rcases List.mem_cons.mp h1 with e | e
      · rw [e]
        by_cases hh : z ≤ x
        · rw [show max x z = x by omega]; exact List.mem_cons_self
        · rw [show max x z = z by omega]; exact List.mem_cons_of_mem _ List.mem_cons_self
      · exact List.mem_cons_of_mem _ (List.mem_cons_of_mem _ e)
    · intro y hy
      have a := h2 (max x z) List.mem_cons_self
      rcases List.mem_cons.mp hy with rfl | hy
      · omega
      · rcases List.mem_cons.mp hy with rfl | hy
        · omega
        · exact h2 y (List.mem_cons_of_mem _ hy)
theorem lmax_eq {ns : List Int} {m k : Int} (e : lmax ns = some k) (h : m ∈ ns) (hl : ∀ y ∈ ns, y ≤ m) : m = k := by
  cases ns with
  | nil => cases h
  | cons x xs =>
    obtain ⟨h1, h2⟩ := foldl_max xs x
    have e' : xs.foldl max x = k := Option.some.inj e
    rw [← e']
    have := hl _ h1
    have := h2 _ h
    omega
def gLen : S → List Rs → Option Rs := fun st xs => match xs with
  | [x] => (st.seq x).map fun ds => .d (.int ds.length)
  | _ => none
def gLenS : S → List Rs → Option Rs := fun st xs => match xs with
  | [.d (.str z)] => if z.length ≤ sizeLine then some (.d (.int z.length)) else none
  | _ => none
def gLenD : S → List Rs → Option Rs := fun st xs => match xs with
  | [x] => match st.der x with
    | some (.dicK kvs) => some (.d (.int kvs.length))
    | _ => none
  | _ => none
def gSum : S → List Rs → Option Rs := fun st xs => match xs with
  | [x] => match st.lst x with
    | some ds => (ints? ds).map fun ns => .d (.int ns.sum)
    | none => none
  | _ => none
def gMin1 : S → List Rs → Option Rs := fun st xs => match xs with
  | [x] => match st.lst x with
    | some ds => match ints? ds with
      | some ns => (lmin ns).map fun k => .d (.int k)
      | none => none
    | none => none
  | _ => none
def gMin2 : S → List Rs → Option Rs := fun st xs => match xs with
  | [.d (.int i), .d (.int j)] => some (.d (.int (if j < i then j else i)))
  | _ => none
def gMax2 : S → List Rs → Option Rs := fun st xs => match xs with
  | [.d (.int i), .d (.int j)] => some (.d (.int (if j > i then j else i)))
  | _ => none
def gAbs : S → List Rs → Option Rs := fun st xs => match xs with
  | [.d (.int i)] => some (.d (.int (if i < 0 then -i else i)))
  | _ => none
def gInt : S → List Rs → Option Rs := fun st xs => match xs with
  | [.d (.int i)] => some (.d (.int i))
  | [.d (.bool k)] => some (.d (.int (if k then 1 else 0)))
  | _ => none
def gStr : S → List Rs → Option Rs := fun st xs => match xs with
  | [.d (.int i)] => if i.natAbs.log2 < 1920 then some (.d (.str (toString i))) else none
  | _ => none
def gTuple : S → List Rs → Option Rs := fun st xs => match xs with
  | [x] => (st.seq x).map fun ds => .d (.tuple ds)
  | _ => none
def gList : S → List Rs → Option Rs := fun st xs => match xs with
  | [x] => (st.seq x).map fun ds => .own (.lst ds)
  | _ => none
theorem xreps1 {c : C} {Hs : Hp} {o : Own} {H : Hp} {σ : L2.St} {x : Rs} {vs : List V} (h : XReps c.b Hs o H σ [x] vs) : ∃ v, vs = [v] ∧ XRep c.b Hs o H σ x v := by
  obtain ⟨v, us, rfl, h1, h2, _⟩ := h
  have e : us = [] := h2
  subst e
  exact ⟨v, rfl, h1⟩
theorem xreps2 {c : C} {Hs : Hp} {o : Own} {H : Hp} {σ : L2.St} {x y : Rs} {vs : List V} (h : XReps c.b Hs o H σ [x, y] vs) : ∃ v u, vs = [v, u] ∧ XRep c.b Hs o H σ x v ∧ XRep c.b Hs o H σ y u := by
  obtain ⟨v, us, rfl, h1, h2, _⟩ := h
  obtain ⟨u, rfl, h3⟩ := xreps1 h2
  exact ⟨v, u, rfl, h1, h3⟩
section
variable {c : C}
theorem cs_len : CallS c (fun xs H Q => ∃ p ys, xs = [.ref p] ∧ (SqL c.b.K H p ys ∨ SqT c.b.K H p ys) ∧ Q (.int ys.length) H) gLen := by
  intro o st σ H Hs xs z vs Q rel hs hx e k
  unfold gLen at e
  split at e
  · rename_i x
    cases q : st.seq x with
    | none => rw [q] at e; cases e
    | some ds =>
      rw [q] at e
      cases e
      obtain ⟨v, rfl, x1⟩ := xreps1 hx
      obtain ⟨a, us, rfl, q1, ha⟩ := rel.seq x1 q
      exact ⟨a, us, rfl, (q1.imp id TqT.sq), by rw [ha.len]; exact give_d rel .int k⟩
  · cases e
theorem cs_lenS : CallS c (fun xs H Q => ∃ z, xs = [.str z] ∧ z.length ≤ sizeLine ∧ Q (.int z.length) H) gLenS := by
  intro o st σ H Hs xs z vs Q rel hs hx e k
  unfold gLenS at e
  split at e
  · rename_i x
    split at e
    · rename_i hl
      cases e
      obtain ⟨v, rfl, x1⟩ := xreps1 hx
      exact ⟨x, by rw [At.str_inv x1], hl, give_d rel .int k⟩
    · cases e
  · cases e
theorem cs_lenD : CallS c (fun xs H Q => ∃ a kvs, xs = [V.ref a] ∧ H a = some (.dK kvs) ∧ Q (.int kvs.length) H) gLenD := by
  intro o st σ H Hs xs z vs Q rel hs hx e k
  unfold gLenD at e
  split at e
  · rename_i x
    split at e
    · rename_i kvs q
      cases e
      obtain ⟨v, rfl, x1⟩ := xreps1 hx
      obtain ⟨a, rfl, ws, h1, h2, h3⟩ := rel.der x1 q
      refine ⟨a, ws, rfl, h1, ?_⟩
      have hl : ws.length = kvs.length := by have := congrArg List.length h2; simpa using this
      rw [hl]
      exact give_d rel .int k
    · cases e
  · cases e
theorem cs_sum : CallS c (rSum c.b.K) gSum := by
  intro o st σ H Hs xs z vs Q rel hs hx e k
  unfold gSum at e
  split at e
  · rename_i x
    split at e
    · rename_i ds q
      cases q2 : ints? ds with
      | none => rw [q2] at e; cases e
      | some ns =>
        rw [q2] at e
        cases e
        obtain ⟨v, rfl, x1⟩ := xreps1 hx
        obtain ⟨a, us, rfl, q1, ha⟩ := rel.lst x1 q
        rw [ints?_inv q2] at ha
        rw [ha.ints_inv] at q1
        exact ⟨a, ns, rfl, q1, give_d rel .int k⟩
    · cases e
  · cases e
theorem cs_min1 : CallS c (rMin c.b.K) gMin1 := by
  intro o st σ H Hs xs z vs Q rel hs hx e k
  unfold gMin1 at e
  split at e
  · rename_i x
    split at e
    · rename_i ds q
      split at e
      · rename_i ns q2
        cases q3 : lmin ns with
        | none => rw [q3] at e; cases e
        | some m =>
          rw [q3] at e
          cases e
          obtain ⟨v, rfl, x1⟩ := xreps1 hx
          obtain ⟨a, us, rfl, q1, ha⟩ := rel.lst x1 q
          rw [ints?_inv q2] at ha
          rw [ha.ints_inv] at q1
          refine ⟨a, ns, rfl, q1, ?_, fun m' h1 h2 => ?_⟩
          · cases ns with
            | nil => cases q3
            | cons _ _ => simp
          · rw [lmin_eq q3 h1 h2]
            exact give_d rel .int k
      · cases e
    · cases e
  · cases e
theorem cs_min2 : CallS c (fun xs H Q => ∃ i j, xs = [.int i, .int j] ∧ Q (.int (if j < i then j else i)) H) gMin2 := by
  intro o st σ H Hs xs z vs Q rel hs hx e k
  unfold gMin2 at e
  split at e
  · rename_i i j
    cases e
    obtain ⟨v, u, rfl, x1, x2⟩ := xreps2 hx
    exact ⟨i, j, by rw [At.int_inv x1, At.int_inv x2], give_d rel .int k⟩
  · cases e
theorem cs_max2 : CallS c (fun xs H Q => ∃ i j, xs = [.int i, .int j] ∧ Q (.int (if j > i then j else i)) H) gMax2 := by
  intro o st σ H Hs xs z vs Q rel hs hx e k
  unfold gMax2 at e
  split at e
  · rename_i i j
    cases e
    obtain ⟨v, u, rfl, x1, x2⟩ := xreps2 hx
    exact ⟨i, j, by rw [At.int_inv x1, At.int_inv x2], give_d rel .int k⟩
  · cases e
theorem cs_abs : CallS c (fun xs H Q => ∃ i, xs = [.int i] ∧ Q (.int (if i < 0 then -i else i)) H) gAbs := by
  intro o st σ H Hs xs z vs Q rel hs hx e k
  unfold gAbs at e
  split at e
  · rename_i i
    cases e
    obtain ⟨v, rfl, x1⟩ := xreps1 hx
    exact ⟨i, by rw [At.int_inv x1], give_d rel .int k⟩
  · cases e
theorem cs_int : CallS c (fun xs H Q => (∃ i, xs = [.int i] ∧ Q (.int i) H) ∨ ∃ k, xs = [.bl k] ∧ Q (.int (if k then 1 else 0)) H) gInt := by
  intro o st σ H Hs xs z vs Q rel hs hx e k
  unfold gInt at e
  split at e
  · rename_i i
    cases e
    obtain ⟨v, rfl, x1⟩ := xreps1 hx
    exact .inl ⟨i, by rw [At.int_inv x1], give_d rel .int k⟩
  · rename_i i
    cases e
    obtain ⟨v, rfl, x1⟩ := xreps1 hx
    exact .inr ⟨i, by rw [At.bool_inv x1], give_d rel .int k⟩
  · cases e
theorem cs_str : CallS c (fun xs H Q => ∃ i, xs = [.int i] ∧ i.natAbs.log2 < 1920 ∧ Q (.str (toString i)) H) gStr := by
  intro o st σ H Hs xs z vs Q rel hs hx e k
  unfold gStr at e
  split at e
  · rename_i i
    split at e
    · rename_i hl
      cases e
      obtain ⟨v, rfl, x1⟩ := xreps1 hx
      exact ⟨i, by rw [At.int_inv x1], hl, give_d rel .str k⟩
    · cases e
  · cases e
theorem cs_tuple : CallS c (fun xs H Q => ∃ p ys, xs = [.ref p] ∧ ((SqL c.b.K H p ys ∧ ∀ (l : Addr) (o : Obj), H l = none → o.dict = none → Q (.ref l) (upd H l (.frz o (.tup ys)))) ∨ (SqT c.b.K H p ys ∧ Q (.ref p) H))) gTuple := by
  intro o st σ H Hs xs z vs Q rel hs hx e k
  unfold gTuple at e
  split at e
  · rename_i x
    cases q : st.seq x with
    | none => rw [q] at e; cases e
    | some ds =>
      rw [q] at e
      cases e
      obtain ⟨v, rfl, x1⟩ := xreps1 hx
      obtain ⟨a, us, rfl, q1, ha⟩ := rel.seq x1 q
      refine ⟨a, us, rfl, ?_⟩
      rcases q1 with q1 | q1
      · exact .inl ⟨q1, give_tup rel ha k⟩
      · exact .inr ⟨q1.sq, give_d rel (.tup q1 ha) k⟩
  · cases e
theorem cs_list : CallS c (fun xs H Q => ∃ p ys, xs = [.ref p] ∧ (SqL c.b.K H p ys ∨ SqT c.b.K H p ys) ∧ ∀ l, H l = none → Q (.ref l) (upd H l (.lst ys))) gList := by
  intro o st σ H Hs xs z vs Q rel hs hx e k
  unfold gList at e
  split at e
  · rename_i x
    cases q : st.seq x with
    | none => rw [q] at e; cases e
    | some ds =>
      rw [q] at e
      cases e
      obtain ⟨v, rfl, x1⟩ := xreps1 hx
      obtain ⟨a, us, rfl, q1, ha⟩ := rel.seq x1 q
      exact ⟨a, us, rfl, (q1.imp id TqT.sq), give_lst rel hs ha k⟩
  · cases e
end
/-! ### subscripts -/
def gIx : S → Rs → Rs → Option Rs := fun st x y => match st.seq x, y with
  | some ds, .d (.int i) => (atI ds i).map fun d => .d d
  | _, _ => none
def gIxS : S → Rs → Rs → Option Rs := fun st x y => match x, y with
  | .d (.str z), .d (.int i) => if z.length ≤ sizeLine then (atI z.cps.toList i).map fun k => .d (.str ⟨#[k]⟩) else none
  | _, _ => none
section
variable {c : C} {X : Cx}
theorem atI_at {K : PySem.W.Frag} {Hr H : Hp} {ds : List D} {vs : List V} {i : Int} {d : D} (h : AtL K Hr H ds vs) (e : atI ds i = some d) : ∃ v, atI vs i = some v ∧ At K Hr H d v := by
  unfold atI at e ⊢
  rw [h.len]
  cases z : ixN ds.length i with
  | none => rw [z] at e; cases e
  | some j =>
    rw [z] at e
    exact h.get (show ds[j]? = some d from e)
theorem ops_ix : OpS c (fun x y H Q => rIxL c.b.K x y H Q ∨ rIxT c.b.K x y H Q) gIx := by
  intro o st σ H Hs x y z v u Q rel hs hx hy e k
  unfold gIx at e
  split at e
  · rename_i ds i q
    cases q2 : atI ds i with
    | none => rw [q2] at e; cases e
    | some d =>
      rw [q2] at e
      cases e
      obtain ⟨a, us, rfl, q1, ha⟩ := rel.seq hx q
      obtain ⟨w, q3, q4⟩ := atI_at ha q2
      rcases q1 with q1 | q1
      · exact .inl ⟨a, us, i, w, rfl, At.int_inv hy, q1, q3, give_d rel q4 k⟩
      · exact .inr ⟨a, us, i, w, rfl, At.int_inv hy, q1.sq, q3, give_d rel q4 k⟩
  · cases e
theorem ops_ixS : OpS c rIxS gIxS := by
  intro o st σ H Hs x y z v u Q rel hs hx hy e k
  unfold gIxS at e
  split at e
  · rename_i t i
    split at e
    · rename_i hl
      cases q2 : atI t.cps.toList i with
      | none => rw [q2] at e; cases e
      | some d =>
        rw [q2] at e
        cases e
        exact ⟨t, i, d, At.str_inv hx, At.int_inv hy, hl, q2, give_d rel .str k⟩
    · cases e
  · cases e
theorem de_ix {a e : Expr} {pos : Pos} {r : R2} {g : S → Rs → Rs → Option Rs} {fa fb : S → Rz Rs} (hr : IxR X r) (hs : OpS c r g) (ha : DE X c a fa) (hb : DE X c e fb) (hp : PlainIx e := by exact fun _ _ => rfl) : DE X c (.Subscript a e pos) (fBin g fa fb) :=
  PE.mono (pe_ix hr ha hb hp) fun _ _ _ h => bin_of hs h
/-- slices -/
def toK (c : C) (o : Own) (σ : L2.St) (H : Hp) (z : Rz (Option Int)) (Q : Option Int → Hp → Prop) : Prop := match z with
  | .ok r st' => ∀ H' o', SRel c.b o' st' σ H' → Tr o H o' H' → Q r H'
  | .ex e st' => ∀ cls d H' o', SRel c.b o' st' σ H' → Tr o H o' H' → ERep c.b c.mg H' e cls d → c.W cls d σ H'
  | .no => False
def toOf (c : C) (f : S → Rz (Option Int)) : TO := fun σ H Q => ∃ o st, SRel c.b o st σ H ∧ toK c o σ H (f st) Q
abbrev DO (X : Cx) (c : C) (e : Option Expr) (f : S → Rz (Option Int)) : Prop := PO X e (toOf c f)
theorem PO.mono {e : Option Expr} {t t' : TO} (h : PO X e t) (m : ∀ σ H Q, t' σ H Q → t σ H Q) : PO X e t' := ⟨fun pins s σ H Q I q => h.run pins s σ H Q I (m σ H Q q)⟩
def fNoPart : S → Rz (Option Int) := fun st => .ok none st
def fPart (f : S → Rz Rs) : S → Rz (Option Int) := fun st => (f st).bind fun r st => match r with
  | .d (.int i) => .ok (some i) st
  | _ => .no
theorem do_none : DO X c none fNoPart := PO.mono po_none fun σ H Q ⟨o, st, rel, h⟩ => h H o rel (Tr.refl o H)
theorem do_some {e : Expr} {f : S → Rz Rs} (h : DE X c e f) : DO X c (some e) (fPart f) := PO.mono (po_some h) fun σ H Q ⟨o, st, rel, h⟩ => by
  refine te_bind (E := fun z => toK c o σ H z Q) rel (Tr.refl o H) (fun _ _ h => h) (fun h => h) h fun x st1 v H1 o1 rel1 t1 _ x1 h1 => ?_
  cases x with
  | d x =>
    cases x with
    | int i => exact ⟨i, At.int_inv x1, h1 H1 o1 rel1 t1⟩
    | none => exact h1.elim
    | bool _ => exact h1.elim
    | str _ => exact h1.elim
    | list _ => exact h1.elim
    | tuple _ => exact h1.elim
    | dict _ => exact h1.elim
  | own _ => exact h1.elim
  | var _ => exact h1.elim
def cutD {α : Type} (xs : List α) (lo hi : Option Int) : List α := (xs.drop (HT.sIx xs.length 0 lo)).take (HT.sIx xs.length xs.length hi - HT.sIx xs.length 0 lo)
theorem cut_at {K : PySem.W.Frag} {Hr H : Hp} {ds : List D} {vs : List V} (h : AtL K Hr H ds vs) (lo hi : Option Int) : AtL K Hr H (cutD ds lo hi) (cutV vs lo hi) := by
  unfold cutD cutV
  rw [h.len]
  exact (h.drop _).take _
def SlS (c : C) (r : V → Option Int → Option Int → Hp → VK → Prop) (g : S → Rs → Option Int → Option Int → Option Rs) : Prop := ∀ (o : Own) (st : S) (σ : L2.St) (H Hs : Hp) (x z : Rs) (lo hi : Option Int) (v : V) (Q : VK), SRel c.b o st σ H → (∀ a, Hs a ≠ none → H a ≠ none) → XRep c.b Hs o H σ x v → g st x lo hi = some z →
  (∀ w H' , SRel c.b o st σ H' → Tr o H o H' → XRep c.b Hs o H' σ z w → Q w H') → r v lo hi H Q
def fSl (g : S → Rs → Option Int → Option Int → Option Rs) (fe : S → Rz Rs) (fl fh : S → Rz (Option Int)) : S → Rz Rs := fun st => (fe st).bind fun x st => (fl st).bind fun lo st => (fh st).bind fun hi st => match g st x lo hi with
  | some r => .ok r st
  | none => .no
theorem to_bind {α : Type} {o o1 : Own} {σ : L2.St} {H H1 : Hp} {st : S} {fa : S → Rz (Option Int)} {k : Option Int → S → Rz α} {R : Option Int → Hp → Prop} {E : Rz α → Prop} (rel : SRel c.b o1 st σ H1) (t : Tr o H o1 H1)
    (he : ∀ e st2, E (.ex e st2) → ∀ cls d H' o', SRel c.b o' st2 σ H' → Tr o H o' H' → ERep c.b c.mg H' e cls d → c.W cls d σ H') (hn : ¬ E .no) (h : E ((fa st).bind k))
    (go : ∀ r st2 H2 o2, SRel c.b o2 st2 σ H2 → Tr o1 H1 o2 H2 → Tr o H o2 H2 → E (k r st2) → R r H2) : toOf c fa σ H1 R := by
  refine ⟨o1, st, rel, ?_⟩
  cases z : fa st with
  | ok r st1 =>
    rw [z] at h
    exact fun H2 o2 r1 t1 => go r st1 H2 o2 r1 t1 (t.trans t1) h
  | ex e st1 =>
    rw [z] at h
    exact fun cls d H' o' r1 t1 x1 => he e st1 h cls d H' o' r1 (t.trans t1) x1
  | no => rw [z] at h; exact absurd h hn
theorem de_slice {e : Expr} {lo hi : Option Expr} {pos p2 : Pos} {r : V → Option Int → Option Int → Hp → VK → Prop} {g : S → Rs → Option Int → Option Int → Option Rs} {fe : S → Rz Rs} {fl fh : S → Rz (Option Int)} (hr : SlR X r) (hs : SlS c r g) (he : DE X c e fe) (hl : DO X c lo fl) (hh : DO X c hi fh) :
    DE X c (.Subscript e (.Slice lo hi none p2) pos) (fSl g fe fl fh) := PE.mono (pe_slice hr he hl hh) fun σ H Q ⟨o, st, rel, h⟩ => by
  refine te_bind (E := fun z => teK c o σ H z Q) rel (Tr.refl o H) teK.e teK.n h fun x st1 v H1 o1 rel1 t1 _ x1 h1 => ?_
  refine to_bind (E := fun z => teK c o σ H z Q) rel1 t1 teK.e teK.n h1 fun lo st2 H2 o2 rel2 t2 t12 h2 => ?_
  refine to_bind (E := fun z => teK c o σ H z Q) rel2 t12 teK.e teK.n h2 fun hi st3 H3 o3 rel3 t3 t13 h3 => ?_
  cases z : g st3 x lo hi with
  | none => simp only [z] at h3; exact h3.elim
  | some w =>
    simp only [z] at h3
    exact hs o3 st3 σ H3 H x w lo hi v Q rel3 t13.trk ((x1.step rel1 t2).step rel2 t3) z fun w H' r' t' xr => h3 w H' o3 r' (t13.trans t') xr
def gSl : S → Rs → Option Int → Option Int → Option Rs := fun st x lo hi => match x with
  | .d (.tuple ds) => some (.d (.tuple (cutD ds lo hi)))
  | .d (.str z) => if z.length ≤ sizeLine then some (.d (.str (cutS z lo hi))) else none
  | x => (st.lst x).map fun ds => .own (.lst (cutD ds lo hi))
theorem sls : SlS c (fun x lo hi H Q => rSlF c.b.K x lo hi H Q ∨ (rSlL c.b.K x lo hi H Q ∨ rSlS x lo hi H Q)) gSl := by
  intro o st σ H Hs x z lo hi v Q rel hs hx e k
  unfold gSl at e
  split at e
  · rename_i ds
    cases e
    obtain ⟨a, vs, rfl, q, ha⟩ := At.tup_invT hx
    refine .inl ⟨a, vs, rfl, q.sq, fun hw => ?_, fun hw => give_tup rel (cut_at ha lo hi) k⟩
    refine give_d rel ?_ k
    have e1 : cutD ds lo hi = ds := by
      unfold cutD
      have := ha.len
      rw [← this, hw.1, hw.2]
      simp [this]
    rw [e1]
    exact .tup q ha
  · rename_i t
    split at e
    · rename_i hl
      cases e
      exact .inr (.inr ⟨t, At.str_inv hx, hl, give_d rel .str k⟩)
    · cases e
  · cases q : st.lst x with
    | none => rw [q] at e; cases e
    | some ds =>
      rw [q] at e
      cases e
      obtain ⟨a, us, rfl, q1, ha⟩ := rel.lst hx q
      exact .inr (.inl ⟨a, us, rfl, q1, give_lst rel hs (cut_at ha lo hi) k⟩)
end
end FL
end
section
set_option Elab.async false
set_option linter.all false
set_option maxRecDepth 100000
namespace FL
open PySem PySem.Spec PyProof.Rows L2
/-! ### statements -/
inductive Fl where
  | nx | rt (r : Rs) | bk | ct
def tsK (c : C) (o : Own) (H : Hp) (z : Rz Fl) (D : Ends) : Prop := match z with
  | .ok .nx st' => ∀ σ' H' o', SRel c.b o' st' σ' H' → Tr o H o' H' → D.nx σ' H'
  | .ok (.rt r) st' => ∀ v σ' H' o', SRel c.b o' st' σ' H' → Tr o H o' H' → XRep c.b H o' H' σ' r v → D.rt v H'
  | .ok .bk st' => ∀ σ' H' o', SRel c.b o' st' σ' H' → Tr o H o' H' → D.bk σ' H'
  | .ok .ct st' => ∀ σ' H' o', SRel c.b o' st' σ' H' → Tr o H o' H' → D.ct σ' H'
  | .ex e st' => ∀ cls d σ' H' o', SRel c.b o' st' σ' H' → Tr o H o' H' → ERep c.b c.mg H' e cls d → c.W cls d σ' H'
  | .no => False
def tsOf (c : C) (g : S → Rz Fl) : TS := fun D σ H => ∃ o st, SRel c.b o st σ H ∧ tsK c o H (g st) D
abbrev DS (X : Cx) (c : C) (s : Stmt) (g : S → Rz Fl) : Prop := PS X s (tsOf c g)
abbrev DSs (X : Cx) (c : C) (s : List Stmt) (g : S → Rz Fl) : Prop := PSs X s (tsOf c g)
def fNext : S → Rz Fl := fun st => .ok .nx st
def fSeq (f g : S → Rz Fl) : S → Rz Fl := fun st => match f st with
  | .ok .nx st1 => g st1
  | z => z
def fRet (f : S → Rz Rs) : S → Rz Fl := fun st => (f st).bind fun r st => .ok (.rt r) st
def fRetN : S → Rz Fl := fun st => .ok (.rt (.d .none)) st
def fExpr (f : S → Rz Rs) : S → Rz Fl := fun st => (f st).bind fun _ st => .ok .nx st
def fIfS (ft : S → Rz Bool) (f g : S → Rz Fl) : S → Rz Fl := fun st => (ft st).bind fun k st => match k with
  | true => f st
  | false => g st
def fBrk : S → Rz Fl := fun st => .ok .bk st
def fCnt : S → Rz Fl := fun st => .ok .ct st
def fNever : S → Rz Fl := fun _ => .no
section
variable {X : Cx} {c : C}
theorem tsK.on {o o1 : Own} {H H1 : Hp} {z : Rz Fl} {D : Ends} (t : Tr o H o1 H1) (h : tsK c o H z D) : tsK c o1 H1 z D := by
  cases z with
  | ok r st1 =>
    cases r with
    | nx => exact fun σ' H' o' r1 t1 => h σ' H' o' r1 (t.trans t1)
    | rt r => exact fun v σ' H' o' r1 t1 x1 => h v σ' H' o' r1 (t.trans t1) (x1.start t.trk)
    | bk => exact fun σ' H' o' r1 t1 => h σ' H' o' r1 (t.trans t1)
    | ct => exact fun σ' H' o' r1 t1 => h σ' H' o' r1 (t.trans t1)
  | ex e st1 => exact fun cls d σ' H' o' r1 t1 x1 => h cls d σ' H' o' r1 (t.trans t1) x1
  | no => exact h
theorem tsK.e {o : Own} {H : Hp} {σ : L2.St} {D : Ends} : ∀ e st2, tsK c o H (.ex e st2) D → ∀ cls d H' o', SRel c.b o' st2 σ H' → Tr o H o' H' → ERep c.b c.mg H' e cls d → c.W cls d σ H' := fun _ _ h cls d H' o' r t x => h cls d σ H' o' r t x
theorem tsK.n {o : Own} {H : Hp} {D : Ends} : ¬ tsK c o H .no D := fun h => h
theorem ds_nil : DSs X c [] fNext := PSs.mono pss_nil fun D σ H ⟨o, st, rel, h⟩ => h σ H o rel (Tr.refl o H)
theorem ds_cons {s : Stmt} {ss : List Stmt} {f g : S → Rz Fl} (h1 : DS X c s f) (h2 : DSs X c ss g) : DSs X c (s :: ss) (fSeq f g) := PSs.mono (pss_cons h1 h2) fun D σ H ⟨o, st, rel, h⟩ => by
  refine ⟨o, st, rel, ?_⟩
  unfold fSeq at h
  cases z : f st with
  | no => rw [z] at h; exact h
  | ex e st1 => rw [z] at h; exact h
  | ok r st1 =>
    rw [z] at h
    cases r with
    | nx => exact fun σ' H' o' r1 t1 => ⟨o', st1, r1, tsK.on t1 h⟩
    | rt r => exact h
    | bk => exact h
    | ct => exact h
theorem ds_one {s : Stmt} {f : S → Rz Fl} (h1 : DS X c s f) : DSs X c [s] f := pss_one h1
theorem ds_pass {pos : Pos} : DS X c (.Pass pos) fNext := PS.mono ps_pass fun D σ H ⟨o, st, rel, h⟩ => h σ H o rel (Tr.refl o H)
theorem ds_break {pos : Pos} : DS X c (.Break pos) fBrk := PS.mono ps_break fun D σ H ⟨o, st, rel, h⟩ => h σ H o rel (Tr.refl o H)
theorem ds_continue {pos : Pos} : DS X c (.Continue pos) fCnt := PS.mono ps_continue fun D σ H ⟨o, st, rel, h⟩ => h σ H o rel (Tr.refl o H)
theorem ds_never {s : Stmt} : DS X c s fNever := PS.mono ps_never fun D σ H ⟨o, st, rel, h⟩ => h
theorem ds_retN {pos : Pos} : DS X c (.Return none pos) fRetN := PS.mono ps_retN fun D σ H ⟨o, st, rel, h⟩ => h .non σ H o rel (Tr.refl o H) At.non
theorem ds_ret {e : Expr} {pos : Pos} {f : S → Rz Rs} (he : DE X c e f) : DS X c (.Return (some e) pos) (fRet f) := PS.mono (ps_ret he) fun D σ H ⟨o, st, rel, h⟩ =>
  te_bind (E := fun z => tsK c o H z D) rel (Tr.refl o H) tsK.e tsK.n h fun x st1 v H1 o1 rel1 t1 _ x1 h1 => h1 v σ H1 o1 rel1 t1 x1
theorem ds_expr {e : Expr} {pos : Pos} {f : S → Rz Rs} (he : DE X c e f) (hs : swapsWith e none pos.line X.env = pure false := by rfl) : DS X c (.Expr e pos) (fExpr f) := PS.mono (ps_expr he hs) fun D σ H ⟨o, st, rel, h⟩ =>
  te_bind (E := fun z => tsK c o H z D) rel (Tr.refl o H) tsK.e tsK.n h fun x st1 v H1 o1 rel1 t1 _ x1 h1 => h1 σ H1 o1 rel1 t1
theorem ds_if {t : Expr} {a b : List Stmt} {pos : Pos} {ft : S → Rz Bool} {f g : S → Rz Fl} (ht : DT X c t ft) (ha : DSs X c a f) (hb : DSs X c b g) : DS X c (.If t a b pos) (fIfS ft f g) := PS.mono (ps_if ht ha hb) fun D σ H ⟨o, st, rel, h⟩ =>
  tt_bind (E := fun z => tsK c o H z D) rel (Tr.refl o H) tsK.e tsK.n h fun k st1 H1 o1 rel1 t1 _ h1 => by
    cases k with
    | true => exact iteT ⟨o1, st1, rel1, tsK.on t1 h1⟩
    | false => exact iteF ⟨o1, st1, rel1, tsK.on t1 h1⟩
end
/-! ### stores -/
section
variable {b : B} {o : Own} {st : S} {σ : L2.St} {H : Hp}
theorem get_set {α : Type} {l : List (Option α)} {i k : Nat} {x : Option α} {y : α} (e : (l.set i x)[k]? = some (some y)) : (k = i ∧ x = some y) ∨ (k ≠ i ∧ l[k]? = some (some y)) := by
  by_cases h : k = i
  · subst h
    rw [List.getElem?_set_self'] at e
    cases z : l[k]? with
    | none => rw [z] at e; simp at e
    | some w => rw [z] at e; simp at e; exact .inl ⟨rfl, e⟩
  · rw [List.getElem?_set_ne (Ne.symm h)] at e
    exact .inr ⟨h, e⟩
theorem set_other {α : Type} {l : List (Option α)} {i k : Nat} {x : Option α} {y : α} (h : k ≠ i) (e : l[k]? = some (some y)) : (l.set i x)[k]? = some (some y) := by
  rw [List.getElem?_set_ne (Ne.symm h)]; exact e
theorem SRel.setD (h : SRel b o st σ H) {i : Nat} {x : D} {v : V} (hi : i < st.δ.length) (q : At b.K b.Hr H x v) : SRel b o { st with δ := st.δ.set i (some (.d x)) } (σ.set i (some v)) H := by
  refine ⟨by simp [h.len], fun k r e => ?_, h.arg, h.mu, h.keep, h.sfresh, h.afp, h.fp, h.root, h.rootH⟩
  rcases get_set e with ⟨rfl, e1⟩ | ⟨hk, e1⟩
  · cases e1
    exact ⟨v, by rw [List.getElem?_set_self (by rw [h.len]; exact hi)], q⟩
  · obtain ⟨w, h1, h2⟩ := h.slot k r e1
    exact ⟨w, set_other hk h1, h2⟩
def own1 (o : Own) (a : Addr) (w : Ow) : Own := fun c => if c = a then some w else o c
theorem own1_same {o : Own} {a : Addr} {w : Ow} : own1 o a w a = some w := by unfold own1; rw [if_pos rfl]
theorem own1_ne {o : Own} {a c : Addr} {w : Ow} (h : c ≠ a) : own1 o a w c = o c := by unfold own1; rw [if_neg h]
theorem SRel.setOwn (h : SRel b o st σ H) {i : Nat} {m : M} {a : Addr} (hi : i < st.δ.length) (q : MR b.K b.Hr H a m) (n : o a = none) (n0 : b.H0 a = none) : SRel b (own1 o a (.slot i)) { st with δ := st.δ.set i (some (.own m)) } (σ.set i (some (.ref a))) H := by
  have ne : ∀ c w, o c = some w → c ≠ a := fun c w e z => by rw [z, n] at e; cases e
  refine ⟨by simp [h.len], fun k r e => ?_, fun j m' e => ?_, fun c w e => ?_, h.keep, fun c k e => ?_, fun c j e => ?_, h.fp, fun c u e => ?_, h.rootH⟩
  · rcases get_set e with ⟨rfl, e1⟩ | ⟨hk, e1⟩
    · cases e1
      exact ⟨.ref a, by rw [List.getElem?_set_self (by rw [h.len]; exact hi)], a, rfl, q, own1_same⟩
    · obtain ⟨w, h1, h2⟩ := h.slot k r e1
      refine ⟨w, set_other hk h1, ?_⟩
      cases r with
      | d x => exact h2
      | own m' => obtain ⟨c, e2, q2, n2⟩ := h2; exact ⟨c, e2, q2, by rw [own1_ne (ne _ _ n2)]; exact n2⟩
      | ro m' => obtain ⟨c, e2, q2, n2⟩ := h2; exact ⟨c, e2, q2, by rw [own1_ne (ne _ _ n2)]; exact n2⟩
      | io j => exact h2
  · obtain ⟨c, e2, q2, n2⟩ := h.arg j m' e
    exact ⟨c, e2, q2, by rw [own1_ne (ne _ _ n2)]; exact n2⟩
  · by_cases hc : c = a
    · rw [hc]; exact q.mu
    · rw [own1_ne hc] at e; exact h.mu c w e
  · by_cases hc : c = a
    · rw [hc]; exact n0
    · rw [own1_ne hc] at e; exact h.sfresh c k e
  · by_cases hc : c = a
    · rw [hc]; exact .inl n0
    · rw [own1_ne hc] at e; exact h.afp c j e
  · obtain ⟨h1, h2⟩ := h.root c u e
    refine ⟨h1, ?_⟩
    have hc : c ≠ a := fun z => by
      have := h.rootH c u e
      rw [z, n0] at this; cases this
    rw [own1_ne hc]; exact h2
theorem Tr.owned {os : Own} {Hs : Hp} (t : Tr os Hs o H) {a : Addr} {w : Ow} (f : Hs a = none) : Tr os Hs (own1 o a w) H := by
  have ne : ∀ c, Hs c ≠ none → c ≠ a := fun c e z => e (by rw [z]; exact f)
  refine ⟨fun c u e s => ?_, t.trk, fun c w' e e2 => ?_⟩
  · obtain ⟨h1, h2⟩ := t.keep c u e s
    exact ⟨h1, by rw [own1_ne (ne c (by rw [e]; exact fun z => nomatch z))]; exact h2⟩
  · rw [own1_ne (ne c e)] at e2
    exact t.own c w' e e2
/-- what may be written in slot i, and writing it -/
def S.get (st : S) (i : Nat) : Option M := match st.δ[i]? with
  | some (some (.own m)) => some m
  | some (some (.io j)) => (st.γ[j]?).join
  | _ => none
def S.put (st : S) (i : Nat) (m : M) : S := match st.δ[i]? with
  | some (some (.own _)) => { st with δ := st.δ.set i (some (.own m)) }
  | some (some (.io j)) => { st with γ := st.γ.set j (some m) }
  | _ => st
theorem SRel.get (h : SRel b o st σ H) {i : Nat} {m : M} (e : st.get i = some m) : ∃ a, σ[i]? = some (some (.ref a)) ∧ MR b.K b.Hr H a m ∧ ∃ w, o a = some w ∧ w ≠ .fz := by
  unfold S.get at e
  cases hd : st.δ[i]? with
  | none => simp only [hd] at e; cases e
  | some x =>
    cases x with
    | none => simp only [hd] at e; cases e
    | some r =>
      obtain ⟨v, e1, q⟩ := h.slot i r hd
      cases r with
      | d x => simp only [hd] at e; cases e
      | ro m' => simp only [hd] at e; cases e
      | own m' =>
        simp only [hd] at e
        cases e
        obtain ⟨a, rfl, q2, q3⟩ := q
        exact ⟨a, e1, q2, _, q3, fun z => nomatch z⟩
      | io j =>
        simp only [hd] at e
        obtain ⟨q2, m2, q3⟩ := q
        rw [q3] at e
        have e' : m2 = m := Option.some.inj e
        subst e'
        obtain ⟨a, e4, q4, n⟩ := h.arg j _ q3
        rw [q2] at e4
        cases e4
        exact ⟨a, e1, q4, _, n, fun z => nomatch z⟩
theorem sqt_write {K : PySem.W.Frag} {a : Addr} {u : HO} (mu : Mut (H a)) : ∀ c vs, TqT K H c vs → TqT K (upd H a u) c vs := fun c vs q => by
  rcases q with ⟨ob, q, d⟩ | q
  · have : c ≠ a := fun z => by subst z; rw [q] at mu; exact mu
    exact .inl ⟨ob, by rw [upd_ne this]; exact q, d⟩
  · exact .inr q
theorem tp_write {K : PySem.W.Frag} {a : Addr} {u : HO} (mu : Mut (H a)) : TP K H (upd H a u) := ⟨fun c vs q => sqt_write mu c vs q, fun c vs o e => by
  have : c ≠ a := fun z => by subst z; rw [e] at mu; exact mu
  rw [upd_ne this]; exact e⟩
theorem SRel.put (h : SRel b o st σ H) {i : Nat} {m m' : M} {a : Addr} {u : HO} (e : st.get i = some m) (es : σ[i]? = some (some (.ref a))) (mu : Mut (some u)) (q : MR b.K b.Hr (upd H a u) a m') : SRel b o (st.put i m') σ (upd H a u) ∧ Tr o H o (upd H a u) := by
  obtain ⟨a', es', q0, w, ow, nf⟩ := h.get e
  rw [es] at es'
  cases es'
  have kt := tp_write (K := b.K) (u := u) q0.mu
  have other : ∀ c x, H c = some x → o c ≠ some w → upd H a u c = some x := fun c x e hc => by
    rw [upd_ne (fun z => hc (by rw [z]; exact ow))]; exact e
  have T : Tr o H o (upd H a u) := ⟨fun c x e s => ⟨other c x e (fun z => by
      rcases s with s | s
      · rw [s] at z; cases z
      · rw [s] at z; exact nf (Option.some.inj z).symm), rfl⟩, fun c hc => by
      by_cases z : c = a
      · rw [z, upd_same]; exact fun q => nomatch q
      · rw [upd_ne z]; exact hc, fun _ _ _ e => .inl e⟩
  have mono : ∀ c m2, MR b.K b.Hr H c m2 → c ≠ a → MR b.K b.Hr (upd H a u) c m2 := fun c m2 q2 hc => q2.mono kt (upd_ne hc)
  refine ⟨?_, T⟩
  have wslot : ∀ k, w = .slot k → k = i ∧ (∃ m1, st.δ[i]? = some (some (.own m1))) := fun k hw => by
    unfold S.get at e
    cases hd : st.δ[i]? with
    | none => simp only [hd] at e; cases e
    | some x =>
      cases x with
      | none => simp only [hd] at e; cases e
      | some r =>
        obtain ⟨v, e1, qq⟩ := h.slot i r hd
        rw [es] at e1
        cases e1
        cases r with
        | d x => simp only [hd] at e; cases e
        | ro m' => simp only [hd] at e; cases e
        | own m1 =>
          obtain ⟨a2, e3, _, n3⟩ := qq
          cases e3
          rw [ow, hw] at n3
          cases n3
          exact ⟨rfl, m1, rfl⟩
        | io j =>
          obtain ⟨q2, m2, q3⟩ := qq
          obtain ⟨a4, e4, _, n4⟩ := h.arg j _ q3
          rw [q2] at e4
          cases e4
          rw [ow, hw] at n4
          cases n4
  have warg : ∀ j, w = .arg j → st.δ[i]? = some (some (.io j)) := fun j hw => by
    unfold S.get at e
    cases hd : st.δ[i]? with
    | none => simp only [hd] at e; cases e
    | some x =>
      cases x with
      | none => simp only [hd] at e; cases e
      | some r =>
        obtain ⟨v, e1, qq⟩ := h.slot i r hd
        rw [es] at e1
        cases e1
        cases r with
        | d x => simp only [hd] at e; cases e
        | ro m' => simp only [hd] at e; cases e
        | own m1 =>
          obtain ⟨a2, e3, _, n3⟩ := qq
          cases e3
          rw [ow, hw] at n3
          cases n3
        | io j' =>
          obtain ⟨q2, m2, q3⟩ := qq
          obtain ⟨a4, e4, _, n4⟩ := h.arg j' _ q3
          rw [q2] at e4
          cases e4
          rw [ow, hw] at n4
          cases n4
          rfl
  have muc : ∀ c x, o c = some x → Mut (upd H a u c) := fun c x e => by
    by_cases z : c = a
    · rw [z, upd_same]; exact mu
    · rw [upd_ne z]; exact h.mu c x e
  have kp : ∀ c x, b.H0 c = some x → ¬ b.FP c → upd H a u c = some x := fun c x e f => by
    have hc : c ≠ a := fun z => by
      subst z
      cases w with
      | slot k => have := h.sfresh _ k ow; rw [e] at this; cases this
      | arg j => rcases h.afp _ j ow with z | z; rw [e] at z; cases z; exact f z
      | fz => exact nf rfl
    rw [upd_ne hc]; exact h.keep c x e f
  have fpc : ∀ c, b.FP c → upd H a u c ≠ none := fun c f => T.trk c (h.fp c f)
  have rootc : ∀ c x, b.Hr c = some x → upd H a u c = some x ∧ o c = none := fun c x e => by
    obtain ⟨h1, h2⟩ := h.root c x e
    exact ⟨other c x h1 (by rw [h2]; exact fun z => nomatch z), h2⟩
  cases w with
  | fz => exact absurd rfl nf
  | slot k =>
    obtain ⟨rfl, m1, hd⟩ := wslot k rfl
    have ep : st.put k m' = { st with δ := st.δ.set k (some (.own m')) } := by simp only [S.put, hd]
    rw [ep]
    refine ⟨by simp [h.len], fun k' r e' => ?_, fun j m2 e' => ?_, muc, kp, h.sfresh, h.afp, fpc, rootc, h.rootH⟩
    · rcases get_set e' with ⟨rfl, e1⟩ | ⟨hk, e1⟩
      · cases e1
        exact ⟨.ref a, es, a, rfl, q, ow⟩
      · obtain ⟨v, h1, h2⟩ := h.slot k' r e1
        refine ⟨v, h1, ?_⟩
        cases r with
        | d x => exact At.mono kt x v h2
        | own m2 =>
          obtain ⟨c, e2, q2, n2⟩ := h2
          exact ⟨c, e2, mono c m2 q2 (fun z => by rw [z, ow] at n2; cases n2; exact hk rfl), n2⟩
        | ro m2 =>
          obtain ⟨c, e2, q2, n2⟩ := h2
          exact ⟨c, e2, mono c m2 q2 (fun z => by rw [z, ow] at n2; cases n2), n2⟩
        | io j => exact h2
    · obtain ⟨c, e2, q2, n2⟩ := h.arg j m2 e'
      exact ⟨c, e2, mono c m2 q2 (fun z => by rw [z, ow] at n2; cases n2), n2⟩
  | arg j =>
    have hd := warg j rfl
    have ep : st.put i m' = { st with γ := st.γ.set j (some m') } := by simp only [S.put, hd]
    rw [ep]
    refine ⟨h.len, fun k' r e' => ?_, fun j' m2 e' => ?_, muc, kp, h.sfresh, h.afp, fpc, rootc, h.rootH⟩
    · obtain ⟨v, h1, h2⟩ := h.slot k' r e'
      refine ⟨v, h1, ?_⟩
      cases r with
      | d x => exact At.mono kt x v h2
      | own m2 =>
        obtain ⟨c, e2, q2, n2⟩ := h2
        exact ⟨c, e2, mono c m2 q2 (fun z => by rw [z, ow] at n2; cases n2), n2⟩
      | ro m2 =>
        obtain ⟨c, e2, q2, n2⟩ := h2
        exact ⟨c, e2, mono c m2 q2 (fun z => by rw [z, ow] at n2; cases n2), n2⟩
      | io j' =>
        obtain ⟨g1, m2, g2⟩ := h2
        refine ⟨g1, ?_⟩
        by_cases z : j' = j
        · subst z
          exact ⟨m', by rw [List.getElem?_set_self (List.getElem?_eq_some_iff.mp g2).1]⟩
        · exact ⟨m2, by rw [List.getElem?_set_ne (Ne.symm z)]; exact g2⟩
    · rcases get_set e' with ⟨rfl, e1⟩ | ⟨hk, e1⟩
      · cases e1
        obtain ⟨v, h1, g1, m2, g2⟩ := h.slot i _ hd
        rw [es] at h1
        cases h1
        exact ⟨a, g1, q, ow⟩
      · obtain ⟨c, e2, q2, n2⟩ := h.arg j' m2 e1
        exact ⟨c, e2, mono c m2 q2 (fun z => by rw [z, ow] at n2; cases n2; exact hk rfl), n2⟩
end
end FL
end
section
set_option Elab.async false
set_option linter.all false
set_option maxRecDepth 100000
namespace FL
open PySem PySem.Spec PyProof.Rows L2
/-! ### targets -/
/-- only these slots change -/
def Chg (ks : List Nat) (σ σ' : L2.St) : Prop := σ'.length = σ.length ∧ ∀ k, k ∉ ks → σ'[k]? = σ[k]?
theorem Chg.refl (ks : List Nat) (σ : L2.St) : Chg ks σ σ := ⟨rfl, fun _ _ => rfl⟩
theorem Chg.trans {ks ks' : List Nat} {σ σ1 σ2 : L2.St} (a : Chg ks σ σ1) (b : Chg ks' σ1 σ2) : Chg (ks ++ ks') σ σ2 := ⟨b.1.trans a.1, fun k h => by
  rw [List.mem_append, not_or] at h
  rw [b.2 k h.2, a.2 k h.1]⟩
theorem Chg.set (i : Nat) (σ : L2.St) (x : Option V) : Chg [i] σ (σ.set i x) := ⟨by simp, fun k h => by
  have : k ≠ i := by simpa using h
  rw [List.getElem?_set_ne (Ne.symm this)]⟩
def tgOf (c : C) (ks : List Nat) (t : Rs → S → Option S) : TG := fun v σ H Q => ∃ os Hs o st r st', SRel c.b o st σ H ∧ Tr os Hs o H ∧ (∀ a, Hs a = none → c.b.H0 a = none) ∧ XRep c.b Hs o H σ r v ∧ t r st = some st' ∧ ∀ σ' H' o', SRel c.b o' st' σ' H' → Tr os Hs o' H' → TP c.b.K H H' → Chg ks σ σ' → Q σ' H'
def tgsOf (c : C) (ks : List Nat) (t : List Rs → S → Option S) : TGs := fun vs σ H Q => ∃ os Hs o st rs st', SRel c.b o st σ H ∧ Tr os Hs o H ∧ (∀ a, Hs a = none → c.b.H0 a = none) ∧ XReps c.b Hs o H σ rs vs ∧ t rs st = some st' ∧ ∀ σ' H' o', SRel c.b o' st' σ' H' → Tr os Hs o' H' → TP c.b.K H H' → Chg ks σ σ' → Q σ' H'
abbrev DG (X : Cx) (c : C) (e : Expr) (ks : List Nat) (t : Rs → S → Option S) : Prop := PG X e (tgOf c ks t)
abbrev DGs (X : Cx) (c : C) (e : List Expr) (ks : List Nat) (t : List Rs → S → Option S) : Prop := PGs X e (tgsOf c ks t)
theorem PG.mono {X : Cx} {e : Expr} {t t' : TG} (h : PG X e t) (m : ∀ v σ H Q, t' v σ H Q → t v σ H Q) : PG X e t' := ⟨fun pins s σ H v u Q I r q => h.run pins s σ H v u Q I r (m v σ H Q q)⟩
theorem PGs.mono {X : Cx} {e : List Expr} {t t' : TGs} (h : PGs X e t) (m : ∀ v σ H Q, t' v σ H Q → t v σ H Q) : PGs X e t' := ⟨fun pins s σ H v u Q I r q => h.run pins s σ H v u Q I r (m v σ H Q q)⟩
def isVar : Rs → Bool
  | .var _ => true
  | _ => false
def gN (i : Nat) : Rs → S → Option S := fun r st => if i < st.δ.length then (match r with
  | .d x => some { st with δ := st.δ.set i (some (.d x)) }
  | .own m => some { st with δ := st.δ.set i (some (.own m)) }
  | .var _ => none) else none
def gsNil : List Rs → S → Option S := fun rs st => match rs with
  | [] => some st
  | _ => none
/-- first a name, then the others -/
def gsName (i : Nat) (ts : List Rs → S → Option S) : List Rs → S → Option S := fun rs st => match rs with
  | [] => none
  | r :: rs => if rs.any isVar = true then none else match gN i r st with
    | some st1 => ts rs st1
    | none => none
/-- first any target, of data -/
def gsCons (t : Rs → S → Option S) (ts : List Rs → S → Option S) : List Rs → S → Option S := fun rs st => match rs with
  | [] => none
  | r :: rs => match allD rs with
    | none => none
    | some _ => match t r st with
      | some st1 => ts rs st1
      | none => none
/-- a, b = a tuple -/
def gT (n : Nat) (ts : List Rs → S → Option S) : Rs → S → Option S := fun r st => match r with
  | .d (.tuple xs) => if xs.length = n then ts (xs.map .d) st else none
  | _ => none
/-- a, b = a list -/
def gL (n : Nat) (ts : List Rs → S → Option S) : Rs → S → Option S := fun r st => match st.lst r with
  | some xs => if xs.length = n then ts (xs.map .d) st else none
  | _ => none
section
variable {X : Cx} {c : C} {o : Own} {st : S} {σ : L2.St} {H Hs : Hp}
theorem gN_go {os : Own} {i : Nat} {r : Rs} {v : V} {st' : S} {Q : L2.St → Hp → Prop} (rel : SRel c.b o st σ H) (t : Tr os Hs o H) (h0 : ∀ a, Hs a = none → c.b.H0 a = none) (x : XRep c.b Hs o H σ r v) (e : gN i r st = some st')
    (k : ∀ σ' o', SRel c.b o' st' σ' H → Tr os Hs o' H → (∀ a, o a = none → (∀ m, r = .own m → v ≠ .ref a) → o' a = none) → Chg [i] σ σ' → Q σ' H) : Q (σ.set i (some v)) H := by
  unfold gN at e
  by_cases hi : i < st.δ.length
  · rw [if_pos hi] at e
    cases r with
    | d d => cases e; exact k _ o (rel.setD hi x) t (fun a n _ => n) (Chg.set i σ _)
    | own m =>
      cases e
      obtain ⟨a, rfl, q, n, f⟩ := x
      exact k _ _ (rel.setOwn hi q n (h0 a f)) (t.owned f) (fun a' n' hne => by rw [own1_ne (fun z => hne m rfl (by rw [z]))]; exact n') (Chg.set i σ _)
    | var _ => cases e
  · rw [if_neg hi] at e; cases e
theorem dg_name_of {i : Nat} {e : Expr} (h : PG X e (gName i)) : DG X c e [i] (gN i) := PG.mono h fun v σ H Q ⟨os, Hs, o, st, r, st', rel, t, h0, x, e, k⟩ => gN_go (Q := Q) rel t h0 x e fun σ' o' r' t' _ hc => k σ' H o' r' t' (TP.refl _ _) hc
theorem dg_name (i : Nat) {x : Str} {pos : Pos} (hN : X.N.Nodup) (hi : X.N[i]? = some x := by rfl) (hx : Loc X.env.scope x := by first | exact Or.inl rfl | exact Or.inr rfl) (hf : X.fn x = true ∨ X.env.scope.names.lookup x = some .local := by first | exact .inl rfl | exact .inr rfl | assumption) : DG X c (.Name x pos) [i] (gN i) := dg_name_of (pg_name hN hi hx hf)
theorem dgs_nil : DGs X c [] [] gsNil := PGs.mono pgs_nil fun vs σ H Q ⟨os, Hs, o, st, rs, st', rel, t, h0, x, e, k⟩ => by
  unfold gsNil at e
  cases rs with
  | cons _ _ => cases e
  | nil =>
    cases e
    have x' : vs = [] := x
    exact ⟨x', k σ H o rel t (TP.refl _ _) (Chg.refl _ σ)⟩
/-- values without names, behind a store in a slot -/
theorem XReps.after {o' : Own} {σ' : L2.St} : ∀ {rs : List Rs} {us : List V}, XReps c.b Hs o H σ rs us → rs.any isVar = false → (∀ (j : Nat) (m : M) (a : Addr), rs[j]? = some (.own m) → us[j]? = some (.ref a) → o a = none → o' a = none) → XReps c.b Hs o' H σ' rs us
  | [], _, q, _, _ => q
  | r :: rs, _, ⟨v, us, e, q1, q2, q3⟩, hv, ho => by
    subst e
    simp only [List.any_cons, Bool.or_eq_false_iff] at hv
    refine ⟨v, us, rfl, ?_, XReps.after q2 hv.2 (fun j m a h1 h2 h3 => ho (j + 1) m a (by simpa using h1) (by simpa using h2) h3), q3⟩
    cases r with
    | d x => exact q1
    | own m =>
      obtain ⟨a, rfl, g1, g2, g3⟩ := q1
      exact ⟨a, rfl, g1, ho 0 m a rfl rfl g2, g3⟩
    | var _ => exact absurd hv.1 (by simp [isVar])
theorem dgs_name_of {i : Nat} {ks : List Nat} {e : Expr} {es : List Expr} {ts : List Rs → S → Option S} (h1 : PG X e (gName i)) (h2 : DGs X c es ks ts) (hs : (assignEach (e :: es) X.env).map (·.2) = assign e X.env :: (assignEach es X.env).map (·.2) := by rfl) : DGs X c (e :: es) (i :: ks) (gsName i ts) :=
  PGs.mono (pgs_cons h1 h2 hs) fun vs σ H Q ⟨os, Hs, o, st, rs, st', rel, t, h0, x, e, k⟩ => by
    unfold gsName at e
    cases rs with
    | nil => cases e
    | cons r rs =>
      obtain ⟨v, us, rfl, x1, x2, x3⟩ := x
      refine ⟨v, us, rfl, ?_⟩
      cases hv : rs.any isVar with
      | true => simp only [hv, if_true] at e; cases e
      | false =>
        simp only [hv, Bool.false_eq_true, if_false] at e
        cases z : gN i r st with
        | none => rw [z] at e; cases e
        | some st1 =>
          rw [z] at e
          refine gN_go (Q := fun σ' H' => tgsOf c ks ts us σ' H' Q) rel t h0 x1 z fun σ' o' r' t' ho hc => ?_
          refine ⟨os, Hs, o', st1, rs, st', r', t', h0, x2.after hv (fun j m a g1 g2 g3 => ho a g3 fun m' em ev => ?_), e, fun σ2 H2 o2 r2 t2 tp hc2 => k σ2 H2 o2 r2 t2 tp (hc.trans hc2)⟩
          exact x3 m' em j m g1 (by rw [g2, ev])
theorem dgs_name (i : Nat) {x : Str} {pos : Pos} {ks : List Nat} {es : List Expr} {ts : List Rs → S → Option S} (hN : X.N.Nodup) (h2 : DGs X c es ks ts) (hi : X.N[i]? = some x := by rfl) (hx : Loc X.env.scope x := by first | exact Or.inl rfl | exact Or.inr rfl) (hf : X.fn x = true ∨ X.env.scope.names.lookup x = some .local := by first | exact .inl rfl | exact .inr rfl | assumption)
    (hs : (assignEach ((.Name x pos) :: es) X.env).map (·.2) = assign (.Name x pos) X.env :: (assignEach es X.env).map (·.2) := by rfl) : DGs X c ((.Name x pos) :: es) (i :: ks) (gsName i ts) := dgs_name_of (pg_name hN hi hx hf) h2 hs
theorem XReps.ofD : ∀ {ds : List D} {vs : List V}, AtL c.b.K c.b.Hr H ds vs → XReps c.b Hs o H σ (ds.map .d) vs
  | [], vs, q => q.nil_inv
  | d :: ds, _, q => by
    obtain ⟨v, r, rfl, q1, q2⟩ := q.cons_inv
    exact ⟨v, r, rfl, q1, XReps.ofD q2, fun m e => nomatch e⟩
theorem allD_map : ∀ {rs : List Rs} {ds : List D}, allD rs = some ds → rs = ds.map .d
  | [], ds, e => by cases e; rfl
  | .d x :: r, ds, e => by
    cases z : allD r with
    | none => simp only [allD, z] at e; cases e
    | some es =>
      simp only [allD, z] at e
      cases e
      rw [allD_map z]; rfl
  | .own _ :: r, _, e => by cases e
  | .var _ :: r, _, e => by cases e
theorem dgs_cons {e : Expr} {es : List Expr} {k1 k2 : List Nat} {t1 : Rs → S → Option S} {ts : List Rs → S → Option S} (h1 : DG X c e k1 t1) (h2 : DGs X c es k2 ts) (hs : (assignEach (e :: es) X.env).map (·.2) = assign e X.env :: (assignEach es X.env).map (·.2) := by rfl) : DGs X c (e :: es) (k1 ++ k2) (gsCons t1 ts) :=
  PGs.mono (pgs_cons h1 h2 hs) fun vs σ H Q ⟨os, Hs, o, st, rs, st', rel, t, h0, x, e, k⟩ => by
    unfold gsCons at e
    cases rs with
    | nil => cases e
    | cons r rs =>
      obtain ⟨v, us, rfl, x1, x2, x3⟩ := x
      refine ⟨v, us, rfl, ?_⟩
      cases hv : allD rs with
      | none => simp only [hv] at e; cases e
      | some ds =>
        simp only [hv] at e
        cases z : t1 r st with
        | none => rw [z] at e; cases e
        | some st1 =>
          rw [z] at e
          refine ⟨os, Hs, o, st, r, st1, rel, t, h0, x1, z, fun σ' H' o' r' t' tp hc => ?_⟩
          have ha := (allD_at x2 hv).mono tp _ _
          rw [allD_map hv] at e
          exact ⟨os, Hs, o', st1, _, st', r', t', h0, XReps.ofD ha, e, fun σ2 H2 o2 r2 t2 tp2 hc2 => k σ2 H2 o2 r2 t2 (tp.trans tp2) (hc.trans hc2)⟩
theorem dg_tup_of {e : Expr} {n : Nat} {ks : List Nat} {ts : List Rs → S → Option S} (h : PG X e (L2.gTup c.b.K n (tgsOf c ks ts))) : DG X c e ks (gT n ts) := PG.mono h fun v σ H Q ⟨os, Hs, o, st, r, st', rel, t, h0, x, e, k⟩ => by
  unfold gT at e
  split at e
  · rename_i xs
    split at e
    · rename_i hl
      obtain ⟨a, vs, rfl, q, ha⟩ := At.tup_inv x
      exact ⟨a, vs, rfl, q, by rw [ha.len]; exact hl, os, Hs, o, st, _, st', rel, t, h0, XReps.ofD ha, e, k⟩
    · cases e
  · cases e
theorem dg_tup {es : List Expr} {k : Nat} {pos : Pos} {n : Nat} {ks : List Nat} {ts : List Rs → S → Option S} (hK : X.K = c.b.K) (hc : X.calm = true) (h : DGs X c es ks ts) (hn : (assignEach es X.env).length = n := by rfl) (hst : (assignEach es X.env).findIdx? (·.1) = none := by rfl) : DG X c (.Tuple es k pos) ks (gT n ts) :=
  dg_tup_of (by rw [← hK]; exact pg_tup hc h hn hst)
theorem dg_lst {es : List Expr} {k : Nat} {pos : Pos} {n : Nat} {ks : List Nat} {ts : List Rs → S → Option S} (hK : X.K = c.b.K) (hc : X.calm = true) (h : DGs X c es ks ts) (hn : (assignEach es X.env).length = n := by rfl) (hst : (assignEach es X.env).findIdx? (·.1) = none := by rfl) : DG X c (.Tuple es k pos) ks (gL n ts) :=
  PG.mono (pg_unl hc h hn hst) fun v σ H Q ⟨os, Hs, o, st, r, st', rel, t, h0, x, e, k⟩ => by
    unfold gL at e
    split at e
    · rename_i xs q1
      split at e
      · rename_i hl
        obtain ⟨a, vs, rfl, q, ha⟩ := rel.lst x q1
        exact ⟨a, vs, rfl, by rw [hK]; exact q, by rw [ha.len]; exact hl, os, Hs, o, st, _, st', rel, t, h0, XReps.ofD ha, e, k⟩
      · cases e
    · cases e
/-! ### target = value -/
def fAsg (t : Rs → S → Option S) (f : S → Rz Rs) : S → Rz Fl := fun st => (f st).bind fun r st => match t r st with
  | some st' => .ok .nx st'
  | none => .no
theorem asg_of {g : TG} {ks : List Nat} {t : Rs → S → Option S} (hg : ∀ {v σ H Q}, tgOf c ks t v σ H Q → g v σ H Q) {te : TE} {f : S → Rz Rs} (he : ∀ {σ H Q}, teOf c f σ H Q → te σ H Q) {D : Ends} : tsOf c (fAsg t f) D σ H → tAsg te g D σ H := fun ⟨o, st, rel, h⟩ => by
  refine he (te_bind (E := fun z => tsK c o H z D) rel (Tr.refl o H) tsK.e tsK.n h fun x st1 v H1 o1 rel1 t1 _ x1 h1 => ?_)
  cases z : t x st1 with
  | none => simp only [z] at h1; exact h1.elim
  | some st2 =>
    simp only [z] at h1
    exact hg ⟨o, H, o1, st1, x, st2, rel1, t1, fun a n => (rel.fresh0 n).2, x1, z, fun σ' H' o' r' t' _ _ => h1 σ' H' o' r' t'⟩
theorem ds_set (i : Nat) {x : Str} {e : Expr} {pos' pos : Pos} {f : S → Rz Rs} (hN : X.N.Nodup) (he : DE X c e f) (hi : X.N[i]? = some x := by rfl) (hx : Loc X.env.scope x := by first | exact Or.inl rfl | exact Or.inr rfl) (hs : swapsWith e (some (.Name x pos')) pos.line X.env = pure false := by rfl)
    (hf : X.fn x = true ∨ X.env.scope.names.lookup x = some .local := by first | exact .inl rfl | exact .inr rfl | assumption) : DS X c (.Assign [.Name x pos'] e pos) (fAsg (gN i) f) :=
  PS.mono (ps_set hN hi hx he hs hf) fun D σ H h => asg_of (ks := [i]) (fun {v σ H Q} ⟨os, Hs, o, st, r, st', rel, t, h0, x, e, k⟩ => gN_go (Q := Q) rel t h0 x e fun σ' o' r' t' _ hc => k σ' H o' r' t' (TP.refl _ _) hc) (fun h => h) h
theorem ds_asg {tg e : Expr} {pos : Pos} {ks : List Nat} {t : Rs → S → Option S} {f : S → Rz Rs} (he : DE X c e f) (hg : DG X c tg ks t) (hs : swapsWithSole [tg] e pos.line X.env = pure false := by rfl) (hw : swappedStores [tg] e X.env = pure none := by rfl)
    (h1 : (assignEach [tg] X.env).map (·.2) = [assign tg X.env] := by rfl) : DS X c (.Assign [tg] e pos) (fAsg t f) :=
  PS.mono (ps_asg he hg hs hw h1) fun D σ H h => asg_of (fun h => h) (fun h => h) h
/-- a, b = x, y: the values first, then the names -/
def fPar (ts : List Rs → S → Option S) (fa : S → Rz (List Rs)) : S → Rz Fl := fun st => (fa st).bind fun rs st => match ts rs st with
  | some st' => .ok .nx st'
  | none => .no
theorem par2_of {i j : Nat} {fa : S → Rz (List Rs)} {D : Ends} : tsOf c (fPar (gsName i (gsName j gsNil)) fa) D σ H → tPar i j (taOf c fa) D σ H := fun ⟨o, st, rel, h⟩ => by
  refine ta_bind (E := fun z => tsK c o H z D) rel (Tr.refl o H) tsK.e tsK.n h fun xs st1 vs H1 o1 rel1 t1 _ x1 h1 => ?_
  cases z : gsName i (gsName j gsNil) xs st1 with
  | none => simp only [z] at h1; exact h1.elim
  | some st2 =>
    simp only [z] at h1
    have h0 : ∀ a, H a = none → c.b.H0 a = none := fun a n => (rel.fresh0 n).2
    unfold gsName at z
    cases xs with
    | nil => cases z
    | cons r xs =>
      obtain ⟨v, us, rfl, q1, q2, q3⟩ := x1
      cases hv : xs.any isVar with
      | true => simp only [hv, if_true] at z; cases z
      | false =>
        simp only [hv, Bool.false_eq_true, if_false] at z
        cases z1 : gN i r st1 with
        | none => rw [z1] at z; cases z
        | some st3 =>
          rw [z1] at z
          dsimp only at z
          cases xs with
          | nil => cases z
          | cons r' xs =>
            obtain ⟨w, us', rfl, q4, q5, q6⟩ := q2
            cases hv' : xs.any isVar with
            | true => simp only [hv', if_true] at z; cases z
            | false =>
              simp only [hv', Bool.false_eq_true, if_false] at z
              cases z2 : gN j r' st3 with
              | none => rw [z2] at z; cases z
              | some st4 =>
                rw [z2] at z
                dsimp only [gsNil] at z
                cases xs with
                | cons _ _ => cases z
                | nil =>
                  cases z
                  have e5 : us' = [] := q5
                  subst e5
                  refine ⟨v, w, rfl, ?_⟩
                  refine gN_go (Q := fun σ' H' => D.nx (σ'.set j (some w)) H') rel1 t1 h0 q1 z1 fun σ' o' r1 t2 ho _ => ?_
                  have q4' : XRep c.b H o' H1 σ' r' w := by
                    have q2' : XReps c.b H o1 H1 σ [r'] [w] := ⟨w, [], rfl, q4, rfl, q6⟩
                    obtain ⟨v', us2, e2, g1, _⟩ := q2'.after (o' := o') (σ' := σ') hv (fun k m a g1 g2 g3 => ho a g3 fun m' em ev => q3 m' em k m g1 (by rw [g2, ev]))
                    cases e2
                    exact g1
                  exact gN_go (Q := D.nx) r1 t2 h0 q4' z2 fun σ2 o2 r2 t3 _ _ => h1 σ2 H1 o2 r2 t3
theorem ds_par2 (i j : Nat) {x y : Str} {a e : Expr} {px py pt pos : Pos} {kt k2 : Nat} {pt2 : Pos} {fa : S → Rz (List Rs)} (hc : X.calm = true) (hN : X.N.Nodup) (ha : DA X c [a, e] fa) (hi : X.N[i]? = some x := by rfl) (hj : X.N[j]? = some y := by rfl) (hij : i ≠ j := by decide)
    (hx : X.env.scope.names.lookup x = some .local := by rfl) (hy : X.env.scope.names.lookup y = some .local := by rfl) (hw : swappedStores [.Tuple [.Name x px, .Name y py] kt pt] (.Tuple [a, e] k2 pt2) X.env = pure (some [x, y]) := by rfl)
    (hs : swapsWithSole [.Tuple [.Name x px, .Name y py] kt pt] (.Tuple [a, e] k2 pt2) pos.line X.env = pure false := by rfl) : DS X c (.Assign [.Tuple [.Name x px, .Name y py] kt pt] (.Tuple [a, e] k2 pt2) pos) (fPar (gsName i (gsName j gsNil)) fa) :=
  PS.mono (ps_par hc hN hi hj hij hx hy ha hw hs) fun D σ H h => par2_of h
end
end FL
end
section
set_option Elab.async false
set_option linter.all false
set_option maxRecDepth 100000
namespace FL
open PySem PySem.Spec PyProof.Rows L2
/-! ### methods that change -/
/-- the thing's kind, as a built-in type -/
def tyM (T : String) : M → Bool
  | .lst _ => T == "list"
  | .dicK _ => T == "dict"
  | .dicT _ => T == "dict"
def fMut (T : String) (g : M → List Rs → Option (Rs × M)) (i : Nat) (fa : S → Rz (List Rs)) : S → Rz Rs := fun st => match st.get i with
  | none => .no
  | some m0 => if tyM T m0 = true then (fa st).bind fun xs st => match st.get i with
    | none => .no
    | some m => match g m xs with
      | some (r, m') => .ok r (st.put i m')
      | none => .no
    else .no
/-- what such a method does by values -/
def MutS (c : C) (r : V → List V → Hp → VK → Prop) (g : M → List Rs → Option (Rs × M)) : Prop := ∀ (o : Own) (st : S) (σ : L2.St) (H Hs : Hp) (a : Addr) (m m' : M) (xs : List Rs) (z : Rs) (vs : List V) (Q : VK), SRel c.b o st σ H → (∀ a, Hs a ≠ none → H a ≠ none) → MR c.b.K c.b.Hr H a m → XReps c.b Hs o H σ xs vs → g m xs = some (z, m') →
  (∀ w u, Mut (some u) → MR c.b.K c.b.Hr (upd H a u) a m' → (XRep c.b Hs o H σ z w ∧ ∃ d, z = .d d) → Q w (upd H a u)) → r (.ref a) vs H Q
section
variable {X : Cx} {c : C} {o : Own} {st : S} {σ : L2.St} {H Hs : Hp}
theorem tyM_ok {T : String} {a : Addr} {m : M} (h : MR c.b.K c.b.Hr H a m) (e : tyM T m = true) : tyV c.b.K T (.ref a) H := by
  cases m with
  | lst xs => obtain ⟨vs, h1, _⟩ := h; exact .inl ⟨by simpa [tyM] using e, vs, .inl (.inl h1)⟩
  | dicK xs => obtain ⟨vs, h1, _⟩ := h; exact .inr (.inr (.inl ⟨by simpa [tyM] using e, .inl ⟨vs, h1⟩⟩))
  | dicT xs => obtain ⟨vs, h1, _⟩ := h; exact .inr (.inr (.inl ⟨by simpa [tyM] using e, .inr ⟨vs, h1⟩⟩))
theorem mut_fin {i : Nat} {a : Addr} {m m' : M} {z : Rs} {w : V} {u : HO} {os : Own} {Q : VK} (rel : SRel c.b o st σ H) (t : Tr os Hs o H) (e : st.get i = some m) (es : σ[i]? = some (some (.ref a))) (q : MR c.b.K c.b.Hr H a m) (mu : Mut (some u)) (q' : MR c.b.K c.b.Hr (upd H a u) a m') (x : XRep c.b Hs o H σ z w ∧ ∃ d, z = .d d) (h : teK c os σ Hs (.ok z (st.put i m')) Q) : Q w (upd H a u) := by
  obtain ⟨r1, t1⟩ := rel.put e es mu q'
  obtain ⟨x, d, rfl⟩ := x
  exact h w _ o r1 (t.trans t1) (At.mono (tp_write q.mu) _ _ x)
theorem mutM {T : String} {r : V → List V → Hp → VK → Prop} {g : M → List Rs → Option (Rs × M)} {i : Nat} {fa : S → Rz (List Rs)} (hs : MutS c r g) {Q : VK} : teOf c (fMut T g i fa) σ H Q → tBM c.b.K T r (tVar i) (taOf c fa) σ H Q := fun ⟨o, st, rel, h⟩ => by
  unfold fMut at h
  cases e0 : st.get i with
  | none => rw [e0] at h; exact h.elim
  | some m0 =>
    rw [e0] at h
    obtain ⟨a, es, q0, _⟩ := rel.get e0
    cases hT : tyM T m0 with
    | false => simp only [hT, Bool.false_eq_true, if_false] at h; exact h.elim
    | true =>
      simp only [hT, if_true] at h
      refine ⟨.ref a, es, tyM_ok q0 hT, ?_⟩
      refine ta_bind (E := fun z => teK c o σ H z Q) rel (Tr.refl o H) teK.e teK.n h fun xs st1 vs H1 o1 rel1 t1 _ x1 h1 => ?_
      cases e1 : st1.get i with
      | none => simp only [e1] at h1; exact h1.elim
      | some m =>
        simp only [e1] at h1
        obtain ⟨a', es', q1, _⟩ := rel1.get e1
        rw [es] at es'
        cases es'
        cases e2 : g m xs with
        | none => simp only [e2] at h1; exact h1.elim
        | some p =>
          obtain ⟨z, m'⟩ := p
          simp only [e2] at h1
          exact hs o1 st1 σ H1 H a m m' xs z vs Q rel1 t1.trk q1 x1 e2 fun w u mu q' x => mut_fin rel1 t1 e1 es q1 mu q' x h1
theorem mutM0 {T : String} {r : V → List V → Hp → VK → Prop} {g : M → List Rs → Option (Rs × M)} {i : Nat} (hs : MutS c r g) {Q : VK} : teOf c (fMut T g i fNil) σ H Q → tBM0 c.b.K T r (tVar i) σ H Q := fun h => by
  obtain ⟨v, e, ty, h⟩ := mutM hs h
  refine ⟨v, e, ty, ?_⟩
  obtain ⟨o, st, rel, h⟩ := h
  exact h [] H o rel (Tr.refl o H) rfl
theorem de_mut {T id : String} {name x : Str} {e : Expr} {es : List Expr} {p apos cpos : Pos} {r : V → List V → Hp → VK → Prop} {g : M → List Rs → Option (Rs × M)} {i : Nat} {fa : S → Rz (List Rs)} (hK : X.K = c.b.K) (pa : PlainAttrs T) (slot : Slot T name id) (hty : typeOf (.builtin id) = pure (.type "method_descriptor")) (hm : MtR X id r) (hs : MutS c r g) (ho : PE X (.Name x p) (tVar i)) (ha : DA X c (e :: es) fa)
    (hbase : attributeBase (.Name x p) name X.env (eval (.Name x p) X.env) = eval (.Name x p) X.env := by rfl)
    (hfew : ((backTo cpos (starEach (e :: es) X.env)).all (fun x => !x.1) && (backToKw cpos (keywordEach [] X.env)).all (fun x => x.1.isSome) && decide ((e :: es).length + ([] : List Keyword).length + (if ([] : List Keyword).isEmpty then 0 else 1) < 30)) = true := by rfl)
    (hline : (apos.endLine == cpos.line) = true := by rfl) (hst : starEach (e :: es) X.env = (false, eval e X.env) :: starEach es X.env := by rfl) (hplain : (backTo cpos (starEach es X.env)).any (·.1) = false := by rfl) :
    DE X c (.Call (.Attribute (.Name x p) name apos) (e :: es) [] cpos) (fMut T g i fa) := PE.mono (pe_bm pa slot hty hm ho ha hbase hfew hline hst hplain) fun σ H Q h => by rw [hK]; exact mutM hs h
theorem de_mut0 {T id : String} {name x : Str} {p apos cpos : Pos} {r : V → List V → Hp → VK → Prop} {g : M → List Rs → Option (Rs × M)} {i : Nat} (hK : X.K = c.b.K) (pa : PlainAttrs T) (slot : Slot T name id) (hty : typeOf (.builtin id) = pure (.type "method_descriptor")) (hm : MtR X id r) (hs : MutS c r g) (ho : PE X (.Name x p) (tVar i))
    (hbase : attributeBase (.Name x p) name X.env (eval (.Name x p) X.env) = eval (.Name x p) X.env := by rfl) (hline : (apos.endLine == cpos.line) = true := by rfl) :
    DE X c (.Call (.Attribute (.Name x p) name apos) [] [] cpos) (fMut T g i fNil) := PE.mono (pe_bm0 pa slot hty hm ho hbase hline) fun σ H Q h => by rw [hK]; exact mutM0 hs h
end
def gAppend : M → List Rs → Option (Rs × M) := fun m xs => match m, xs with
  | .lst ds, [.d x] => if ds.length < sizeLine then some (.d .none, .lst (ds ++ [x])) else none
  | _, _ => none
def gPop : M → List Rs → Option (Rs × M) := fun m xs => match m, xs with
  | .lst ds, [] => match ds[ds.length - 1]? with
    | some x => some (.d x, .lst ds.dropLast)
    | none => none
  | _, _ => none
def gPopAt : M → List Rs → Option (Rs × M) := fun m xs => match m, xs with
  | .lst ds, [.d (.int i)] => if -(2 ^ 63) ≤ i ∧ i < 2 ^ 63 then (match seqIndex? i ds.length with
    | some k => match ds[k]? with
      | some x => some (.d x, .lst (ds.eraseIdx k))
      | none => none
    | none => none) else none
  | _, _ => none
def gInsert : M → List Rs → Option (Rs × M) := fun m xs => match m, xs with
  | .lst ds, [.d (.int i), .d x] => if ds.length < sizeLine ∧ 0 ≤ i ∧ i < 2 ^ 63 then some (.d .none, .lst (ds.take i.toNat ++ [x] ++ ds.drop i.toNat)) else none
  | _, _ => none
theorem AtL.dropLast {K : PySem.W.Frag} {Hr H : Hp} {ds : List D} {vs : List V} (h : AtL K Hr H ds vs) : AtL K Hr H ds.dropLast vs.dropLast := by
  rw [List.dropLast_eq_take, List.dropLast_eq_take, h.len]
  exact h.take _
theorem AtL.erase {K : PySem.W.Frag} {Hr H : Hp} : ∀ {ds : List D} {vs : List V} (i : Nat), AtL K Hr H ds vs → AtL K Hr H (ds.eraseIdx i) (vs.eraseIdx i)
  | [], _, i, h => by rw [h.nil_inv]; simpa using AtL.nil
  | x :: ds, _, 0, h => by
    obtain ⟨w, r, rfl, _, t⟩ := h.cons_inv
    simpa using t
  | x :: ds, _, i + 1, h => by
    obtain ⟨w, r, rfl, z, t⟩ := h.cons_inv
    simpa using AtL.cons z (AtL.erase i t)
section
variable {c : C}
theorem ms_append : MutS c rAppend gAppend := by
  intro o st σ H Hs a m m' xs z vs Q rel hs q x e k
  unfold gAppend at e
  split at e
  · rename_i ds y
    split at e
    · rename_i hl
      cases e
      obtain ⟨us, h1, h2⟩ := q
      obtain ⟨v, rfl, x1⟩ := xreps1 x
      refine ⟨a, us, v, rfl, rfl, h1, by rw [h2.len]; exact hl, k .non _ trivial ⟨_, upd_same, ?_⟩ ⟨At.non, _, rfl⟩⟩
      exact (h2.append (.cons x1 .nil)).mono (tp_write (by rw [h1]; trivial)) _ _
    · cases e
  · cases e
theorem ms_pop : MutS c rPop gPop := by
  intro o st σ H Hs a m m' xs z vs Q rel hs q x e k
  unfold gPop at e
  split at e
  · rename_i ds
    split at e
    · rename_i y hy
      cases e
      obtain ⟨us, h1, h2⟩ := q
      have e0 : vs = [] := x
      subst e0
      obtain ⟨v, g1, g2⟩ := h2.get hy
      refine ⟨a, us, v, rfl, rfl, h1, by rw [h2.len]; exact g1, k v _ trivial ⟨_, upd_same, ?_⟩ ⟨g2, _, rfl⟩⟩
      exact h2.dropLast.mono (tp_write (by rw [h1]; trivial)) _ _
    · cases e
  · cases e
theorem ms_popAt : MutS c rPopAt gPopAt := by
  intro o st σ H Hs a m m' xs z vs Q rel hs q x e k
  unfold gPopAt at e
  split at e
  · rename_i ds i
    split at e
    · rename_i hi
      split at e
      · rename_i j hj
        split at e
        · rename_i y hy
          cases e
          obtain ⟨us, h1, h2⟩ := q
          obtain ⟨v, rfl, x1⟩ := xreps1 x
          obtain ⟨w, g1, g2⟩ := h2.get hy
          refine ⟨a, us, i, j, w, rfl, by rw [At.int_inv x1], h1, hi.1, hi.2, by rw [h2.len]; exact hj, g1, k w _ trivial ⟨_, upd_same, ?_⟩ ⟨g2, _, rfl⟩⟩
          exact (h2.erase j).mono (tp_write (by rw [h1]; trivial)) _ _
        · cases e
      · cases e
    · cases e
  · cases e
theorem ms_insert : MutS c (fun x vs H Q => ∃ (l : Addr) (xs : List V) (i : Int) (y : V), x = .ref l ∧ vs = [.int i, y] ∧ H l = some (.lst xs) ∧ xs.length < sizeLine ∧ 0 ≤ i ∧ i < 2 ^ 63 ∧
    Q .non (upd H l (.lst (xs.take i.toNat ++ [y] ++ xs.drop i.toNat)))) gInsert := by
  intro o st σ H Hs a m m' xs z vs Q rel hs q x e k
  unfold gInsert at e
  split at e
  · rename_i ds i y
    split at e
    · rename_i hl
      cases e
      obtain ⟨us, h1, h2⟩ := q
      obtain ⟨v, w, rfl, x1, x2⟩ := xreps2 x
      refine ⟨a, us, i, w, rfl, by rw [At.int_inv x1], h1, by rw [h2.len]; exact hl.1, hl.2.1, hl.2.2, k .non _ trivial ⟨_, upd_same, ?_⟩ ⟨At.non, _, rfl⟩⟩
      exact (((h2.take _).append (.cons x2 .nil)).append (h2.drop _)).mono (tp_write (by rw [h1]; trivial)) _ _
    · cases e
  · cases e
end
/-! ### extend: with a list just made, or a name's -/
def fExtend (i : Nat) (f : S → Rz Rs) : S → Rz Rs := fun st => match st.get i with
  | some (.lst _) => (f st).bind fun x st => match st.get i, st.mlst x with
    | some (.lst ds), some es => if isSelf i x = true then .no else if ds.length + es.length ≤ sizeLine then .ok (.d .none) (st.put i (.lst (ds ++ es))) else .no
    | _, _ => .no
  | _ => .no
where isSelf (i : Nat) : Rs → Bool
  | .var k => k == i
  | _ => false
theorem de_extend {X : Cx} {c : C} {x : Str} {e : Expr} {p apos cpos : Pos} {i : Nat} {f : S → Rz Rs} (hK : X.K = c.b.K) (ho : PE X (.Name x p) (tVar i)) (he : DE X c e f)
    (hbase : attributeBase (.Name x p) "extend" X.env (eval (.Name x p) X.env) = eval (.Name x p) X.env := by rfl)
    (hfew : ((backTo cpos (starEach [e] X.env)).all (fun x => !x.1) && (backToKw cpos (keywordEach [] X.env)).all (fun x => x.1.isSome) && decide ([e].length + ([] : List Keyword).length + (if ([] : List Keyword).isEmpty then 0 else 1) < 30)) = true := by rfl)
    (hline : (apos.endLine == cpos.line) = true := by rfl) (hst : starEach [e] X.env = (false, eval e X.env) :: starEach [] X.env := by rfl) (hplain : (backTo cpos (starEach [] X.env)).any (·.1) = false := by rfl) :
    DE X c (.Call (.Attribute (.Name x p) "extend" apos) [e] [] cpos) (fExtend i f) := PE.mono (pe_bm PySem.F.plainAttrs_list PySem.F.slot_list_extend PySem.F.type_list_extend mt_extend ho (pa_cons he pa_nil (hs := hst)) hbase hfew hline hst hplain) fun σ H Q ⟨o, st, rel, h⟩ => by
  unfold fExtend at h
  cases e0 : st.get i with
  | none => rw [e0] at h; exact h.elim
  | some m0 =>
    rw [e0] at h
    cases m0 with
    | dicK _ => exact h.elim
    | dicT _ => exact h.elim
    | lst ds0 =>
      obtain ⟨a, es, q0, _⟩ := rel.get e0
      refine ⟨.ref a, es, by rw [hK]; exact tyM_ok q0 rfl, ?_⟩
      refine te_bind (E := fun z => teK c o σ H z Q) rel (Tr.refl o H) teK.e teK.n h fun y st1 v H1 o1 rel1 t1 _ x1 h1 => ?_
      cases e1 : st1.get i with
      | none => simp only [e1] at h1; exact h1.elim
      | some m =>
        cases m with
        | dicK _ => simp only [e1] at h1; exact h1.elim
        | dicT _ => simp only [e1] at h1; exact h1.elim
        | lst ds =>
          cases e2 : st1.mlst y with
          | none => simp only [e1, e2] at h1; exact h1.elim
          | some es' =>
            simp only [e1, e2] at h1
            cases hself : fExtend.isSelf i y with
            | true => simp only [hself, if_true] at h1; exact h1.elim
            | false =>
              simp only [hself, Bool.false_eq_true, if_false] at h1
              by_cases hl : ds.length + es'.length ≤ sizeLine
              · rw [if_pos hl] at h1
                obtain ⟨a', es2, q1, _⟩ := rel1.get e1
                rw [es] at es2
                cases es2
                obtain ⟨us, g1, g2⟩ := q1
                obtain ⟨b, ws, rfl, g3, g4⟩ := rel1.mlst x1 e2
                refine ⟨a, b, us, ws, rfl, rfl, g1, g3, by rw [g2.len, g4.len]; exact hl, ?_⟩
                exact mut_fin (z := .d .none) (m' := .lst (ds ++ es')) rel1 t1 e1 es ⟨us, g1, g2⟩ trivial ⟨_, upd_same, (g2.append g4).mono (tp_write (by rw [g1]; trivial)) _ _⟩ ⟨At.non, _, rfl⟩ h1
              · rw [if_neg hl] at h1; exact h1.elim
/-! ### xs[k] = v -/
def fSetIx (i : Nat) (fk fv : S → Rz Rs) : S → Rz Fl := fun st => (fv st).bind fun v st => match st.get i with
  | none => .no
  | some _ => (fk st).bind fun k st => match st.get i, k, v with
    | some (.lst ds), .d (.int n), .d x => match ixN ds.length n with
      | some j => .ok .nx (st.put i (.lst (ds.set j x)))
      | none => .no
    | _, _, _ => .no
theorem ds_setix {X : Cx} {c : C} {i : Nat} {o k v : Expr} {p1 pos : Pos} {fk fv : S → Rz Rs} (ho : PE X o (tVar i)) (hk : DE X c k fk) (hv : DE X c v fv)
    (ha : ∀ v, assign (.Subscript o k p1) X.env v = (do
      let ov ← holding [v] (eval o X.env)
      let iv ← holding [v, ov] (eval k X.env)
      standAt p1
      holding [v, ov, iv] (setItem ov iv v)
      release [v, ov, iv] []) := by intro _; rfl)
    (hs : swapsWithSole [.Subscript o k p1] v pos.line X.env = pure false := by rfl) (hw : swappedStores [.Subscript o k p1] v X.env = pure none := by rfl)
    (h1 : (assignEach [.Subscript o k p1] X.env).map (·.2) = [assign (.Subscript o k p1) X.env] := by rfl) : DS X c (.Assign [.Subscript o k p1] v pos) (fSetIx i fk fv) :=
  PS.mono (ps_asg hv (pg_sub ho hk set_list ha) hs hw h1) fun D σ H ⟨ow, st, rel, h⟩ => by
    refine te_bind (E := fun z => tsK c ow H z D) rel (Tr.refl ow H) tsK.e tsK.n h fun y st1 v H1 o1 rel1 t1 _ x1 h1 => ?_
    cases e0 : st1.get i with
    | none => simp only [e0] at h1; exact h1.elim
    | some m0 =>
      simp only [e0] at h1
      obtain ⟨a, es, q0, _⟩ := rel1.get e0
      refine ⟨.ref a, es, ?_⟩
      refine te_bind (E := fun z => tsK c ow H z D) rel1 t1 tsK.e tsK.n h1 fun kk st2 u H2 o2 rel2 t2 t12 x2 h2 => ?_
      cases e1 : st2.get i with
      | none => simp only [e1] at h2; exact h2.elim
      | some m =>
        obtain ⟨a', es2, q1, _⟩ := rel2.get e1
        rw [es] at es2
        cases es2
        simp only [e1] at h2
        split at h2
        · rename_i ds n d heq
          cases heq
          split at h2
          · rename_i j hj
            obtain ⟨us, g1, g2⟩ := q1
            have x1' := x1.step rel1 t2
            refine ⟨a, us, n, j, rfl, At.int_inv x2, g1, by rw [g2.len]; exact hj, ?_⟩
            obtain ⟨r3, t3⟩ := rel2.put (m' := .lst (ds.set j d)) (u := .lst (us.set j v)) e1 es trivial ⟨_, upd_same, (AtL.set x1' j g2).mono (tp_write (by rw [g1]; trivial)) _ _⟩
            exact h2 σ _ o2 r3 (t12.trans t3)
          · exact h2.elim
        · exact h2.elim
/-! ### dicts -/
def keyK : D → Option Key
  | .int i => some (.inl i)
  | .str x => some (.inr x)
  | _ => none
def keyT : List D → Option (List Key)
  | [] => some []
  | d :: ds => match keyK d, keyT ds with
    | some k, some ks => some (k :: ks)
    | _, _ => none
section
variable {K : PySem.W.Frag} {Hr H : Hp}
theorem keyK_at {d : D} {k : Key} {v : V} (h : At K Hr H d v) (e : keyK d = some k) : v = kV k := by
  cases h <;> cases e <;> rfl
theorem keyT_at : ∀ {ds : List D} {ks : List Key} {vs : List V}, AtL K Hr H ds vs → keyT ds = some ks → vs = ks.map kV
  | [], ks, vs, h, e => by cases e; rw [h.nil_inv]; rfl
  | d :: ds, ks, vs, h, e => by
    obtain ⟨v, r, rfl, q, t⟩ := h.cons_inv
    cases z1 : keyK d with
    | none => simp only [keyT, z1] at e; cases e
    | some k =>
      cases z2 : keyT ds with
      | none => simp only [keyT, z1, z2] at e; cases e
      | some ks' =>
        simp only [keyT, z1, z2] at e
        cases e
        rw [keyK_at q z1, keyT_at t z2]
        rfl
variable {κ : Type} [DecidableEq κ]
def valA (kvs : List (κ × D)) (k : κ) : Option D := (kvs.find? fun kv => decide (kv.1 = k)).map (·.2)
def putA (kvs : List (κ × D)) (k : κ) (v : D) : List (κ × D) :=
  if (kvs.any fun kv => decide (kv.1 = k)) = true then kvs.map (fun kv => if kv.1 = k then (kv.1, v) else kv) else kvs ++ [(k, v)]
theorem valA_at : ∀ {kvs : List (κ × D)} {ws : List (κ × V)} (k : κ), ws.map (·.1) = kvs.map (·.1) → AtL K Hr H (kvs.map (·.2)) (ws.map (·.2)) →
    (∀ d, valA kvs k = some d → ∃ v, valV ws k = some v ∧ At K Hr H d v) ∧ (valA kvs k = none → valV ws k = none)
  | [], ws, k, h1, h2 => by
    cases ws with
    | cons _ _ => simp at h1
    | nil => exact ⟨fun d e => by simp [valA] at e, fun _ => rfl⟩
  | (k', d') :: kvs, ws, k, h1, h2 => by
    cases ws with
    | nil => simp at h1
    | cons w ws =>
      obtain ⟨k2, w2⟩ := w
      simp only [List.map_cons, List.cons.injEq] at h1
      obtain ⟨rfl, h1⟩ := h1
      obtain ⟨v, r, e, q, t⟩ := AtL.cons_inv (show AtL K Hr H (d' :: kvs.map (·.2)) (w2 :: ws.map (·.2)) from h2)
      cases e
      have ih := valA_at (kvs := kvs) (ws := ws) k h1 t
      by_cases hk : k2 = k
      · subst hk
        refine ⟨fun d e => ⟨w2, by simp [valV], ?_⟩, fun e => by simp [valA] at e⟩
        have : d' = d := by simpa [valA] using e
        rw [← this]; exact q
      · have e1 : valA ((k2, d') :: kvs) k = valA kvs k := by simp [valA, List.find?_cons, hk]
        have e2 : valV ((k2, w2) :: ws) k = valV ws k := by simp [valV, List.find?_cons, hk]
        rw [e1, e2]
        exact ih
theorem putA_at {kvs : List (κ × D)} {ws : List (κ × V)} {k : κ} {d : D} {v : V} (h1 : ws.map (·.1) = kvs.map (·.1)) (h2 : AtL K Hr H (kvs.map (·.2)) (ws.map (·.2))) (q : At K Hr H d v) :
    (putK ws k v).map (·.1) = (putA kvs k d).map (·.1) ∧ AtL K Hr H ((putA kvs k d).map (·.2)) ((putK ws k v).map (·.2)) := by
  have hany : (ws.any fun kv => decide (kv.1 = k)) = (kvs.any fun kv => decide (kv.1 = k)) := by
    have e1 : (ws.any fun kv => decide (kv.1 = k)) = (ws.map (·.1)).any fun x => decide (x = k) := by rw [List.any_map]; rfl
    have e2 : (kvs.any fun kv => decide (kv.1 = k)) = (kvs.map (·.1)).any fun x => decide (x = k) := by rw [List.any_map]; rfl
    rw [e1, e2, h1]
  unfold putK putA
  rw [hany]
  by_cases hh : (kvs.any fun kv => decide (kv.1 = k)) = true
  · rw [if_pos hh, if_pos hh]
    clear hh hany
    induction kvs generalizing ws with
    | nil =>
      cases ws with
      | nil => exact ⟨rfl, .nil⟩
      | cons _ _ => simp at h1
    | cons p kvs ih =>
      cases ws with
      | nil => simp at h1
      | cons w ws =>
        obtain ⟨k1, d1⟩ := p
        obtain ⟨k2, w2⟩ := w
        simp only [List.map_cons, List.cons.injEq] at h1
        obtain ⟨rfl, h1⟩ := h1
        obtain ⟨v', r, e, q', t⟩ := AtL.cons_inv (show AtL K Hr H (d1 :: kvs.map (·.2)) (w2 :: ws.map (·.2)) from h2)
        cases e
        obtain ⟨i1, i2⟩ := ih h1 t
        by_cases hk : k2 = k
        · simp only [List.map_cons, hk, if_true]
          exact ⟨by rw [i1], .cons q i2⟩
        · simp only [List.map_cons, if_neg hk]
          exact ⟨by rw [i1], .cons q' i2⟩
  · rw [if_neg hh, if_neg hh]
    refine ⟨by simp [h1], ?_⟩
    rw [List.map_append, List.map_append]
    exact h2.append (.cons q .nil)
theorem putA_len (kvs : List (κ × D)) (k : κ) (v : D) : (putA kvs k v).length ≤ kvs.length + 1 := by
  unfold putA
  split
  · rw [List.length_map]; omega
  · rw [List.length_append]; simp
end
/-- what a dict tells of a key: none, where it isn't a key for it -/
def mGet (m : M) (k : D) : Option (Option D) := match m, k with
  | .dicK kvs, k => (keyK k).map fun k => valA kvs k
  | .dicT kvs, .tuple ks => (keyT ks).map fun k => valA kvs k
  | _, _ => none
def mPut (m : M) (k v : D) : Option M := match m, k with
  | .dicK kvs, k => if kvs.length < sizeLine then (keyK k).map fun k => .dicK (putA kvs k v) else none
  | .dicT kvs, .tuple ks => if kvs.length < sizeLine then (keyT ks).map fun k => .dicT (putA kvs k v) else none
  | _, _ => none
section
variable {c : C} {o : Own} {st : S} {σ : L2.St} {H Hs : Hp}
theorem tup_of_keyT {K : PySem.W.Frag} {Hr H : Hp} {ks : List D} {k : List Key} {v : V} (nm : ∀ a, ∀ vs, SqT K H a vs → v = .ref a → H a = some (.tup vs)) (h : At K Hr H (.tuple ks) v) (e : keyT ks = some k) : ∃ b, v = .ref b ∧ H b = some (.tup (k.map kV)) := by
  obtain ⟨a, vs, rfl, q, t⟩ := h.tup_inv
  have := keyT_at t e
  subst this
  exact ⟨a, rfl, nm a _ q rfl⟩
theorem mGet_at {m : M} {k : D} {r : Option D} {a : Addr} {v : V} (q : MR c.b.K c.b.Hr H a m) (hk : At c.b.K c.b.Hr H k v) (nm : ∀ a, ∀ vs, SqT c.b.K H a vs → v = .ref a → H a = some (.tup vs)) (e : mGet m k = some r) :
    ∃ r', DGet H a v r' ∧ (∀ d, r = some d → ∃ w, r' = some w ∧ At c.b.K c.b.Hr H d w) ∧ (r = none → r' = none) := by
  cases m with
  | lst _ => cases e
  | dicK kvs =>
    obtain ⟨ws, h1, h2, h3⟩ := q
    cases z : keyK k with
    | none => simp only [mGet, z] at e; cases e
    | some kk =>
      simp only [mGet, z] at e
      cases e
      refine ⟨valV ws kk, by rw [keyK_at hk z]; exact DGet.k h1, (valA_at kk h2 h3).1, (valA_at kk h2 h3).2⟩
  | dicT kvs =>
    obtain ⟨ws, h1, h2, h3⟩ := q
    cases k with
    | tuple ks =>
      cases z : keyT ks with
      | none => simp only [mGet, z] at e; cases e
      | some kk =>
        simp only [mGet, z] at e
        cases e
        obtain ⟨b, rfl, hb⟩ := tup_of_keyT nm hk z
        exact ⟨valV ws kk, DGet.t h1 hb, (valA_at kk h2 h3).1, (valA_at kk h2 h3).2⟩
    | none => cases e
    | bool _ => cases e
    | int _ => cases e
    | str _ => cases e
    | list _ => cases e
    | dict _ => cases e
theorem mPut_at {m m' : M} {k d : D} {a : Addr} {v w : V} (q : MR c.b.K c.b.Hr H a m) (hk : At c.b.K c.b.Hr H k v) (hd : At c.b.K c.b.Hr H d w) (nm : ∀ a, ∀ vs, SqT c.b.K H a vs → v = .ref a → H a = some (.tup vs)) (e : mPut m k d = some m') :
    ∃ u, Mut (some u) ∧ DPut H a v w (upd H a u) ∧ MR c.b.K c.b.Hr (upd H a u) a m' := by
  have kt := fun u => tp_write (K := c.b.K) (u := u) q.mu
  cases m with
  | lst _ => cases e
  | dicK kvs =>
    obtain ⟨ws, h1, h2, h3⟩ := q
    simp only [mPut] at e
    by_cases hl : kvs.length < sizeLine
    · rw [if_pos hl] at e
      cases z : keyK k with
      | none => rw [z] at e; cases e
      | some kk =>
        rw [z] at e
        cases e
        obtain ⟨g1, g2⟩ := putA_at (k := kk) h2 h3 hd
        have hl' : ws.length < sizeLine := by have := congrArg List.length h2; simp at this; omega
        exact ⟨.dK (putK ws kk w), trivial, by rw [keyK_at hk z]; exact DPut.k h1 hl', _, upd_same, g1, g2.mono (kt _) _ _⟩
    · rw [if_neg hl] at e; cases e
  | dicT kvs =>
    obtain ⟨ws, h1, h2, h3⟩ := q
    cases k with
    | tuple ks =>
      simp only [mPut] at e
      by_cases hl : kvs.length < sizeLine
      · rw [if_pos hl] at e
        cases z : keyT ks with
        | none => rw [z] at e; cases e
        | some kk =>
          rw [z] at e
          cases e
          obtain ⟨g1, g2⟩ := putA_at (k := kk) h2 h3 hd
          have hl' : ws.length < sizeLine := by have := congrArg List.length h2; simp at this; omega
          obtain ⟨b, rfl, hb⟩ := tup_of_keyT nm hk z
          exact ⟨.dT (putK ws kk w), trivial, DPut.t h1 hb hl', _, upd_same, g1, g2.mono (kt _) _ _⟩
      · rw [if_neg hl] at e; cases e
    | none => cases e
    | bool _ => cases e
    | int _ => cases e
    | str _ => cases e
    | list _ => cases e
    | dict _ => cases e
end
end FL
end
section
set_option Elab.async false
set_option linter.all false
set_option maxRecDepth 100000
namespace FL
open PySem PySem.Spec PyProof.Rows L2
/-! ### what is walked -/
/-- the iterator J gives the items xs, while G stands -/
structure Walks (c : C) (J : It) (xs : List D) (G : Own → Hp → Prop) : Prop where
  stay : ∀ {o st σ H o' H'}, SRel c.b o st σ H → G o H → Tr o H o' H' → G o' H'
  go : ∀ {o st σ H i}, SRel c.b o st σ H → G o H → i < xs.length → J.go i H
  yld : ∀ {o st σ H i v H'} , SRel c.b o st σ H → G o H → J.yld i H v H' → SRel c.b o st σ H' ∧ Tr o H o H' ∧ ∀ d, xs[i]? = some d → At c.b.K c.b.Hr H' d v
  stop : ∀ {o st σ H i}, SRel c.b o st σ H → G o H → xs.length ≤ i → J.stop i H
  tmp : ∀ {o H p o' H' u}, G o H → H p = none → G o' H' → Mut (H' p) → G o' (upd H' p u)
section
variable {X : Cx} {c : C} {o : Own} {st : S} {σ : L2.St} {H Hs : Hp}
theorem walks_tup (a : Addr) (vs : List V) (xs : List D) : Walks c (Itt c.b.K a) xs (fun o H => TqT c.b.K H a vs ∧ AtL c.b.K c.b.Hr H xs vs) where
  stay := fun rel ⟨h1, h2⟩ t => ⟨rel.tups t _ _ h1, h2.mono (rel.tups t) _ _⟩
  go := fun {o st σ H i} rel ⟨h1, h2⟩ hi => by
    have e : xs[i]? = some xs[i] := List.getElem?_eq_getElem hi
    obtain ⟨v, e1, _⟩ := h2.get e
    exact ⟨vs, v, h1.sq, e1⟩
  yld := fun {o st σ H i v H'} rel ⟨h1, h2⟩ y => by
    obtain ⟨rfl, y⟩ := y
    refine ⟨rel, Tr.refl _ _, fun d e => ?_⟩
    obtain ⟨w, e1, q⟩ := h2.get e
    rw [y vs h1.sq] at e1
    cases e1
    exact q
  stop := fun rel ⟨h1, h2⟩ hi => ⟨vs, h1.sq, by rw [h2.len]; exact hi⟩
  tmp := fun _ _ ⟨h1, h2⟩ mu => ⟨tp_write mu _ _ h1, h2.mono (tp_write mu) _ _⟩
theorem walks_lst (a : Addr) (vs : List V) (xs : List D) : Walks c (Itl c.b.K a) xs (fun o H => H a = some (.lst vs) ∧ Stb (o a) ∧ AtL c.b.K c.b.Hr H xs vs) where
  stay := fun rel ⟨h1, h3, h2⟩ t => let ⟨k1, k2⟩ := t.keep a _ h1 h3; ⟨k1, by rw [k2]; exact h3, h2.mono (rel.tups t) _ _⟩
  go := fun {o st σ H i} rel ⟨h1, _, h2⟩ hi => by
    have e : xs[i]? = some xs[i] := List.getElem?_eq_getElem hi
    obtain ⟨v, e1, _⟩ := h2.get e
    exact ⟨vs, v, SqL.of h1, e1⟩
  yld := fun {o st σ H i v H'} rel ⟨h1, _, h2⟩ y => by
    obtain ⟨rfl, y⟩ := y
    refine ⟨rel, Tr.refl _ _, fun d e => ?_⟩
    obtain ⟨w, e1, q⟩ := h2.get e
    rw [y vs (SqL.of h1)] at e1
    cases e1
    exact q
  stop := fun rel ⟨h1, _, h2⟩ hi => ⟨vs, SqL.of h1, by rw [h2.len]; exact hi⟩
  tmp := fun ⟨g1, _, _⟩ n ⟨h1, h3, h2⟩ mu => ⟨by rw [upd_ne (ne_of_none g1 n)]; exact h1, h3, h2.mono (tp_write mu) _ _⟩
theorem walks_root (a : Addr) (vs : List V) (xs : List D) : Walks c (Itl c.b.K a) xs (fun o H => FqL c.b.K c.b.Hr H a vs ∧ AtL c.b.K c.b.Hr H xs vs) where
  stay := fun rel ⟨h1, h2⟩ t => ⟨h1.mono (rel.tups t), h2.mono (rel.tups t) _ _⟩
  go := fun {o st σ H i} rel ⟨h1, h2⟩ hi => by
    have e : xs[i]? = some xs[i] := List.getElem?_eq_getElem hi
    obtain ⟨v, e1, _⟩ := h2.get e
    exact ⟨vs, v, h1.sq (fun c u e => (rel.root c u e).1), e1⟩
  yld := fun {o st σ H i v H'} rel ⟨h1, h2⟩ y => by
    obtain ⟨rfl, y⟩ := y
    refine ⟨rel, Tr.refl _ _, fun d e => ?_⟩
    obtain ⟨w, e1, q⟩ := h2.get e
    rw [y vs (h1.sq (fun c u e => (rel.root c u e).1))] at e1
    cases e1
    exact q
  stop := fun rel ⟨h1, h2⟩ hi => ⟨vs, h1.sq (fun c u e => (rel.root c u e).1), by rw [h2.len]; exact hi⟩
  tmp := fun _ _ ⟨h1, h2⟩ mu => ⟨h1.mono (tp_write mu), h2.mono (tp_write mu) _ _⟩
def rangeD (lo : Int) (n : Nat) : List D := (List.range n).map fun (i : Nat) => .int (lo + (i : Int))
theorem walks_range (lo : Int) (n : Nat) : Walks c (Itr lo n) (rangeD lo n) (fun _ _ => True) where
  stay := fun _ _ _ => trivial
  go := fun {o st σ H i} _ _ hi => by
    show i < n
    simpa [rangeD] using hi
  yld := fun {o st σ H i v H'} rel _ y => by
    obtain ⟨rfl, rfl⟩ := y
    refine ⟨rel, Tr.refl _ _, fun d e => ?_⟩
    unfold rangeD at e
    rw [List.getElem?_map] at e
    cases z : (List.range n)[i]? with
    | none => rw [z] at e; cases e
    | some j =>
      rw [z] at e
      cases e
      have : j = i := by
        have := List.getElem?_eq_some_iff.mp z
        obtain ⟨_, h⟩ := this
        simpa using h.symm
      subst this
      exact .int
  stop := fun {o st σ H i} _ _ hi => by
    show n ≤ i
    simpa [rangeD] using hi
  tmp := fun _ _ _ _ => trivial
/-- a slot's list is no more written -/
theorem Tr.frozen {a : Addr} {i : Nat} (e : o a = some (.slot i)) : Tr o H (own1 o a .fz) H := by
  refine ⟨fun c u h s => ⟨h, own1_ne (fun z => ?_)⟩, fun _ h => h, fun c w h e2 => ?_⟩
  · rw [z, e] at s
    rcases s with s | s
    · cases s
    · cases s
  · by_cases z : c = a
    · rw [z, own1_same] at e2; cases e2; exact .inr rfl
    · rw [own1_ne z] at e2; exact .inl e2
theorem SRel.frozen (h : SRel c.b o st σ H) {i : Nat} {m : M} {a : Addr} (hd : st.δ[i]? = some (some (.own m))) (es : σ[i]? = some (some (.ref a))) : SRel c.b (own1 o a .fz) { st with δ := st.δ.set i (some (.ro m)) } σ H ∧ o a = some (.slot i) := by
  obtain ⟨v, e1, a', rfl, q, n⟩ := h.slot i _ hd
  rw [es] at e1
  cases e1
  refine ⟨⟨by simp [h.len], fun k r e => ?_, fun j m' e => ?_, fun c w e => ?_, h.keep, fun c k e => ?_, fun c j e => ?_, h.fp, fun c u e => ?_, h.rootH⟩, n⟩
  · rcases get_set e with ⟨rfl, e1⟩ | ⟨hk, e1⟩
    · cases e1
      exact ⟨.ref a, es, a, rfl, q, own1_same⟩
    · obtain ⟨w, h1, h2⟩ := h.slot k r e1
      refine ⟨w, h1, ?_⟩
      cases r with
      | d x => exact h2
      | own m' => obtain ⟨c, e2, q2, n2⟩ := h2; exact ⟨c, e2, q2, by rw [own1_ne (fun z => by rw [z, n] at n2; cases n2; exact hk rfl)]; exact n2⟩
      | ro m' =>
        obtain ⟨c, e2, q2, n2⟩ := h2
        refine ⟨c, e2, q2, ?_⟩
        rw [own1_ne (fun z => by rw [z, n] at n2; cases n2)]; exact n2
      | io j => exact h2
  · obtain ⟨c, e2, q2, n2⟩ := h.arg j m' e
    exact ⟨c, e2, q2, by rw [own1_ne (fun z => by rw [z, n] at n2; cases n2)]; exact n2⟩
  · by_cases hc : c = a
    · rw [hc]; exact q.mu
    · rw [own1_ne hc] at e; exact h.mu c w e
  · by_cases hc : c = a
    · rw [hc, own1_same] at e; cases e
    · rw [own1_ne hc] at e; exact h.sfresh c k e
  · by_cases hc : c = a
    · rw [hc, own1_same] at e; cases e
    · rw [own1_ne hc] at e; exact h.afp c j e
  · obtain ⟨h1, h2⟩ := h.root c u e
    exact ⟨h1, by rw [own1_ne (fun z => by rw [z, n] at h2; cases h2)]; exact h2⟩
/-- readings of what is walked; behind it the walk stands -/
def tiK (c : C) (o : Own) (σ : L2.St) (H : Hp) (z : Rz (List D)) (R : It → Hp → Prop) : Prop := match z with
  | .ok xs st' => ∀ J H' o' G, SRel c.b o' st' σ H' → Tr o H o' H' → Walks c J xs G → G o' H' → R J H'
  | .ex e st' => ∀ cls d H' o', SRel c.b o' st' σ H' → Tr o H o' H' → ERep c.b c.mg H' e cls d → c.W cls d σ H'
  | .no => False
def tiOf (c : C) (f : S → Rz (List D)) : TI := fun σ H R => ∃ o st, SRel c.b o st σ H ∧ tiK c o σ H (f st) R
abbrev DI (X : Cx) (c : C) (tg e : Expr) (f : S → Rz (List D)) : Prop := PI X tg e (tiOf c f)
theorem PI.mono {tg e : Expr} {t t' : TI} (h : PI X tg e t) (m : ∀ σ H Q, t' σ H Q → t σ H Q) : PI X tg e t' := ⟨fun pins s σ H Q I q => h.run pins s σ H Q I (m σ H Q q)⟩
/-- a list or a tuple -/
def iSeq (K : PySem.W.Frag) (tl : TE) : TI := fun σ H R => tl σ H fun x H1 => ∃ a, x = .ref a ∧ (((∃ xs, SqL K H1 a xs) ∧ R (Itl K a) H1) ∨ ((∃ xs, SqT K H1 a xs) ∧ R (Itt K a) H1))
theorem pi_seq {tg l : Expr} {tl : TE} (hl : PE X l tl) : PI X tg l (iSeq X.K tl) := by
  refine ⟨fun pins s σ H R I h => ?_⟩
  refine thn (hl.run pins s σ H _ I h) fun v s1 ⟨x, H1, I1, r1, q1⟩ => ?_
  obtain ⟨a, e, q⟩ := q1
  subst e
  cases r1
  rcases q with ⟨⟨xs, hq⟩, q⟩ | ⟨⟨xs, hq⟩, q⟩
  · obtain ⟨its, rv, p, hz⟩ := I1.list hq
    refine wpAny_pyIter_list p.isList ?_
    refine ⟨s1.heap.objs.size, [s1.heap.objs.size], _, _, H1, rfl, I1.kept (t' := s1.toks) fun b o e => Heap.get?_push_of_some _ e, turn_list a _, ⟨_, Heap.get?_push_size _ rfl, rfl, rfl⟩, fun b hb => ?_, q⟩
    have e : b = s1.heap.objs.size := by simpa using hb
    subst e
    exact I1.fpOk (Nat.le_refl _) (I1.hok.fresh (Nat.le_refl _))
  · obtain ⟨its, rv, p, hz⟩ := I1.tuple hq
    refine wpAny_pyIter_tuple (show s1.heap.IsTuple a its.toArray from p) ?_
    refine ⟨s1.heap.objs.size, [s1.heap.objs.size], _, _, H1, rfl, I1.kept (t' := s1.toks) fun b o e => Heap.get?_push_of_some _ e, turn_tuple a _, ⟨_, Heap.get?_push_size _ rfl, rfl, rfl⟩, fun b hb => ?_, q⟩
    have e : b = s1.heap.objs.size := by simpa using hb
    subst e
    exact I1.fpOk (Nat.le_refl _) (I1.hok.fresh (Nat.le_refl _))
/-- the items; a slot's own list is frozen -/
def fSeqI (f : S → Rz Rs) : S → Rz (List D) := fun st => (f st).bind fun r st => match r with
  | .d (.tuple xs) => .ok xs st
  | .d (.list xs) => .ok xs st
  | .d _ => .no
  | .own (.lst xs) => .ok xs st
  | .own _ => .no
  | .var i => match st.δ[i]? with
    | some (some (.own (.lst xs))) => .ok xs { st with δ := st.δ.set i (some (.ro (.lst xs))) }
    | some (some (.ro (.lst xs))) => .ok xs st
    | _ => .no
theorem di_seq {tg l : Expr} {f : S → Rz Rs} (hK : X.K = c.b.K) (h : DE X c l f) : DI X c tg l (fSeqI f) := PI.mono (pi_seq h) fun σ H R ⟨o, st, rel, h⟩ => by
  refine te_bind (E := fun z => tiK c o σ H z R) rel (Tr.refl o H) (fun _ _ h => h) (fun h => h) h fun x st1 v H1 o1 rel1 t1 _ x1 h1 => ?_
  rw [hK]
  cases x with
  | d x =>
    cases x with
    | tuple xs =>
      obtain ⟨a, vs, rfl, q1, q2⟩ := At.tup_invT x1
      exact ⟨a, rfl, .inr ⟨⟨vs, q1.sq⟩, h1 _ H1 o1 _ rel1 t1 (walks_tup a vs xs) ⟨q1, q2⟩⟩⟩
    | list xs =>
      obtain ⟨a, vs, rfl, q1, q2⟩ := At.lst_inv x1
      exact ⟨a, rfl, .inl ⟨⟨vs, q1.sq (fun c u e => (rel1.root c u e).1)⟩, h1 _ H1 o1 _ rel1 t1 (walks_root a vs xs) ⟨q1, q2⟩⟩⟩
    | none => exact h1.elim
    | bool _ => exact h1.elim
    | int _ => exact h1.elim
    | str _ => exact h1.elim
    | dict _ => exact h1.elim
  | own m =>
    cases m with
    | lst xs =>
      obtain ⟨a, rfl, ⟨vs, q1, q2⟩, n, f⟩ := x1
      exact ⟨a, rfl, .inl ⟨⟨vs, SqL.of q1⟩, h1 _ H1 o1 _ rel1 t1 (walks_lst a vs xs) ⟨q1, .inl n, q2⟩⟩⟩
    | dicK _ => exact h1.elim
    | dicT _ => exact h1.elim
  | var i =>
    cases hd : st1.δ[i]? with
    | none => simp only [hd] at h1; exact h1.elim
    | some r =>
      cases r with
      | none => simp only [hd] at h1; exact h1.elim
      | some r =>
        obtain ⟨w, e1, q⟩ := rel1.slot i r hd
        have x1' : σ[i]? = some (some v) := x1
        rw [x1'] at e1
        cases e1
        cases r with
        | d _ => simp only [hd] at h1; exact h1.elim
        | io _ => simp only [hd] at h1; exact h1.elim
        | own m =>
          cases m with
          | dicK _ => simp only [hd] at h1; exact h1.elim
          | dicT _ => simp only [hd] at h1; exact h1.elim
          | lst xs =>
            simp only [hd] at h1
            obtain ⟨a, rfl, ⟨vs, q1, q2⟩, n⟩ := q
            obtain ⟨r2, n2⟩ := rel1.frozen hd x1'
            exact ⟨a, rfl, .inl ⟨⟨vs, SqL.of q1⟩, h1 _ H1 _ _ r2 (t1.trans (Tr.frozen n2)) (walks_lst a vs xs) ⟨q1, .inr own1_same, q2⟩⟩⟩
        | ro m =>
          cases m with
          | dicK _ => simp only [hd] at h1; exact h1.elim
          | dicT _ => simp only [hd] at h1; exact h1.elim
          | lst xs =>
            simp only [hd] at h1
            obtain ⟨a, rfl, ⟨vs, q1, q2⟩, n⟩ := q
            exact ⟨a, rfl, .inl ⟨⟨vs, SqL.of q1⟩, h1 _ H1 o1 _ rel1 t1 (walks_lst a vs xs) ⟨q1, .inr n, q2⟩⟩⟩
/-- range(n), range(a, b) -/
def fRange1 (fa : S → Rz (List Rs)) : S → Rz (List D) := fun st => (fa st).bind fun rs st => match rs with
  | [.d (.int j)] => if -(2 ^ 62) ≤ j ∧ j < 2 ^ 62 then .ok (rangeD 0 j.toNat) st else .no
  | _ => .no
def fRange2 (fa : S → Rz (List Rs)) : S → Rz (List D) := fun st => (fa st).bind fun rs st => match rs with
  | [.d (.int i), .d (.int j)] => if -(2 ^ 62) ≤ i ∧ i < 2 ^ 62 ∧ -(2 ^ 62) ≤ j ∧ j < 2 ^ 62 then .ok (rangeD i (j - i).toNat) st else .no
  | _ => .no
theorem di_range1 {tg a : Expr} {p pos : Pos} {fa : S → Rz (List Rs)} (hg : Gl X "range") (hm : X.mg "range" = none) (ha : DA X c [a] fa) (hs : starEach [a] X.env = [(false, eval a X.env)] := by rfl) : DI X c tg (.Call (.Name "range" p) [a] [] pos) (fRange1 fa) :=
  PI.mono (pi_range1 hg hm ha hs) fun σ H R ⟨o, st, rel, h⟩ => by
    refine ta_bind (E := fun z => tiK c o σ H z R) rel (Tr.refl o H) (fun _ _ h => h) (fun h => h) h fun xs st1 vs H1 o1 rel1 t1 _ x1 h1 => ?_
    split at h1
    · rename_i j
      split at h1
      · rename_i hj
        obtain ⟨v, rfl, x2⟩ := xreps1 x1
        exact ⟨j, by rw [At.int_inv x2], hj.1, hj.2, h1 _ H1 o1 _ rel1 t1 (walks_range 0 j.toNat) trivial⟩
      · exact h1.elim
    · exact h1.elim
theorem di_range2 {tg a e : Expr} {p pos : Pos} {fa : S → Rz (List Rs)} (hg : Gl X "range") (hm : X.mg "range" = none) (ha : DA X c [a, e] fa) (hs : starEach [a, e] X.env = [(false, eval a X.env), (false, eval e X.env)] := by rfl) (hs2 : starEach [e] X.env = [(false, eval e X.env)] := by rfl) : DI X c tg (.Call (.Name "range" p) [a, e] [] pos) (fRange2 fa) :=
  PI.mono (pi_range2 hg hm ha hs hs2) fun σ H R ⟨o, st, rel, h⟩ => by
    refine ta_bind (E := fun z => tiK c o σ H z R) rel (Tr.refl o H) (fun _ _ h => h) (fun h => h) h fun xs st1 vs H1 o1 rel1 t1 _ x1 h1 => ?_
    split at h1
    · rename_i i j
      split at h1
      · rename_i hj
        obtain ⟨v, w, rfl, x2, x3⟩ := xreps2 x1
        exact ⟨i, j, by rw [At.int_inv x2, At.int_inv x3], hj, h1 _ H1 o1 _ rel1 t1 (walks_range i (j - i).toNat) trivial⟩
      · exact h1.elim
    · exact h1.elim
end
/-! ### for -/
def loop (t : Rs → S → Option S) (body : S → Rz Fl) : List D → S → Rz Fl
  | [], st => .ok .nx st
  | x :: xs, st => match t (.d x) st with
    | none => .no
    | some st1 => match body st1 with
      | .ok .nx st2 => loop t body xs st2
      | .ok .ct st2 => loop t body xs st2
      | .ok .bk st2 => .ok .nx st2
      | z => z
def fFor (t : Rs → S → Option S) (fi : S → Rz (List D)) (body : S → Rz Fl) : S → Rz Fl := fun st => (fi st).bind fun xs st => loop t body xs st
section
variable {X : Cx} {c : C}
theorem ds_for {tg iter : Expr} {body : List Stmt} {pos : Pos} {ks : List Nat} {t : Rs → S → Option S} {fi : S → Rz (List D)} {fb : S → Rz Fl} (hp : PassesOwn (model X.prog X.w) X.A X.env X.xe) (hc : X.calm = true) (hi : DI X c tg iter fi) (hg : DG X c tg ks t) (hb : DSs X c body fb)
    (hs : ∀ x, foldedSetIterable iter X.env x = pure x := by intro _; rfl) : DS X c (.For tg iter body [] pos) (fFor t fi fb) :=
  PS.mono (ps_for hp hc hi hg hb hs) fun D σ H ⟨o, st, rel, h⟩ => by
    refine ⟨o, st, rel, ?_⟩
    unfold fFor at h
    cases z : fi st with
    | no => rw [z] at h; exact h
    | ex e st1 => rw [z] at h; exact fun cls d H' o' r1 t1 x1 => h cls d σ H' o' r1 t1 x1
    | ok xs st1 =>
      rw [z] at h
      have h' : tsK c o H (loop t fb xs st1) D := h
      refine fun J H1 o1 G rel1 t1 w g => ?_
      refine ⟨fun i m σ2 H2 => m = xs.length - i ∧ i ≤ xs.length ∧ ∃ o2 st2, SRel c.b o2 st2 σ2 H2 ∧ Tr o H o2 H2 ∧ G o2 H2 ∧ tsK c o H (loop t fb (xs.drop i) st2) D, ⟨xs.length, by simp, Nat.zero_le _, o1, st1, rel1, t1, g, by simpa using h'⟩, ?_⟩
      rintro i m σ2 H2 ⟨rfl, hi, o2, st2, rel2, t2, g2, hl⟩
      by_cases hlt : i < xs.length
      · refine .inr ⟨w.go rel2 g2 hlt, fun σ3 H3 => ∃ o3 st3, SRel c.b o3 st3 σ3 H3 ∧ Tr o H o3 H3 ∧ G o3 H3 ∧ tsK c o H (loop t fb (xs.drop (i + 1)) st3) D, fun σ3 H3 n => ⟨xs.length - (i + 1), by omega, rfl, hlt, n⟩, fun x H3 y => ?_⟩
        obtain ⟨rel3, t3, at3⟩ := w.yld rel2 g2 y
        have ex : xs[i]? = some xs[i] := List.getElem?_eq_getElem hlt
        have xa := at3 _ ex
        rw [List.drop_eq_getElem_cons hlt] at hl
        unfold loop at hl
        cases zt : t (.d xs[i]) st2 with
        | none => rw [zt] at hl; exact hl.elim
        | some st3 =>
          simp only [zt] at hl
          refine ⟨o2, H3, o2, st2, .d xs[i], st3, rel3, Tr.refl o2 H3, fun a n => (rel3.fresh0 n).2, xa, zt, fun σ4 H4 o4 rel4 t4 _ _ => ?_⟩
          have g3 := w.stay rel2 g2 t3
          have g4 := w.stay rel3 g3 t4
          refine ⟨o4, st3, rel4, ?_⟩
          have t04 := (t2.trans t3).trans t4
          cases zb : fb st3 with
          | no => simp only [zb] at hl; exact hl
          | ex e st4 => simp only [zb] at hl; exact fun cls d σ' H' o' r1 t1 x1 => hl cls d σ' H' o' r1 (t04.trans t1) x1
          | ok fl st4 =>
            simp only [zb] at hl
            cases fl with
            | nx => exact fun σ' H' o' r1 t1 => ⟨o', st4, r1, t04.trans t1, w.stay rel4 g4 t1, hl⟩
            | ct => exact fun σ' H' o' r1 t1 => ⟨o', st4, r1, t04.trans t1, w.stay rel4 g4 t1, hl⟩
            | bk => exact fun σ' H' o' r1 t1 => hl σ' H' o' r1 (t04.trans t1)
            | rt r => exact fun v σ' H' o' r1 t1 x1 => hl v σ' H' o' r1 (t04.trans t1) (x1.start t04.trk)
      · have e : i = xs.length := by omega
        subst e
        rw [List.drop_length] at hl
        exact .inl ⟨w.stop rel2 g2 (Nat.le_refl _), hl σ2 H2 o2 rel2 t2⟩
/-! ### while -/
def whileN (ft : S → Rz Bool) (body : S → Rz Fl) : Nat → S → Rz Fl
  | 0, _ => .no
  | n + 1, st => (ft st).bind fun k st => match k with
    | false => .ok .nx st
    | true => match body st with
      | .ok .nx st2 => whileN ft body n st2
      | .ok .ct st2 => whileN ft body n st2
      | .ok .bk st2 => .ok .nx st2
      | z => z
theorem ds_while {t : Expr} {body : List Stmt} {pos : Pos} {ft : S → Rz Bool} {fb : S → Rz Fl} (n : Nat) (hp : PassesOwn (model X.prog X.w) X.A X.env X.xe) (ht : DT X c t ft) (hb : DSs X c body fb) : DS X c (.While t body [] pos) (whileN ft fb n) :=
  PS.mono (ps_while hp ht hb) fun D σ H ⟨o, st, rel, h⟩ => by
    refine ⟨fun m σ2 H2 => ∃ o2 st2, SRel c.b o2 st2 σ2 H2 ∧ Tr o H o2 H2 ∧ tsK c o H (whileN ft fb m st2) D, ⟨n, o, st, rel, Tr.refl o H, h⟩, ?_⟩
    rintro m σ2 H2 ⟨o2, st2, rel2, t2, h2⟩
    cases m with
    | zero => exact h2.elim
    | succ m =>
      unfold whileN at h2
      refine tt_bind (E := fun z => tsK c o H z D) rel2 t2 tsK.e tsK.n h2 fun k st3 H3 o3 rel3 t3 t03 h3 => ?_
      cases k with
      | false => exact iteF (h3 σ2 H3 o3 rel3 t03)
      | true =>
        refine iteT ⟨fun σ4 H4 => ∃ o4 st4, SRel c.b o4 st4 σ4 H4 ∧ Tr o H o4 H4 ∧ tsK c o H (whileN ft fb m st4) D, fun σ4 H4 q => ⟨m, Nat.lt_succ_self m, q⟩, o3, st3, rel3, ?_⟩
        cases zb : fb st3 with
        | no => simp only [zb] at h3; exact h3
        | ex e st4 => simp only [zb] at h3; exact fun cls d σ' H' o' r1 t1 x1 => h3 cls d σ' H' o' r1 (t03.trans t1) x1
        | ok fl st4 =>
          simp only [zb] at h3
          cases fl with
          | nx => exact fun σ' H' o' r1 t1 => ⟨o', st4, r1, t03.trans t1, h3⟩
          | ct => exact fun σ' H' o' r1 t1 => ⟨o', st4, r1, t03.trans t1, h3⟩
          | bk => exact fun σ' H' o' r1 t1 => h3 σ' H' o' r1 (t03.trans t1)
          | rt r => exact fun v σ' H' o' r1 t1 x1 => h3 v σ' H' o' r1 (t03.trans t1) (x1.start t03.trk)
end
end FL
end
section
set_option Elab.async false
set_option linter.all false
set_option maxRecDepth 100000
namespace FL
open PySem PySem.Spec PyProof.Rows L2
/-! ### comprehensions -/
def wipeD (ks : List Nat) (δ : List (Option R)) : List (Option R) := match ks with
  | [] => δ
  | k :: ks => (wipeD ks δ).set k none
def wipeS (ks : List Nat) (st : S) : S := { st with δ := wipeD ks st.δ }
def restD (ks : List Nat) (δ1 δ2 : List (Option R)) : List (Option R) := match ks with
  | [] => δ2
  | k :: ks => (restD ks δ1 δ2).set k (δ1[k]?).join
def restS (ks : List Nat) (st1 st2 : S) : S := { st2 with δ := restD ks st1.δ st2.δ }
def dataOnly (δ : List (Option R)) (k : Nat) : Bool := match δ[k]? with
  | some (some (.d _)) => true
  | some none => true
  | _ => false
def fTrue : S → Rz Bool := fun st => .ok true st
def lcLoop (ks : List Nat) (t : Rs → S → Option S) (ft : S → Rz Bool) (fe : S → Rz Rs) : List D → List D → S → Rz (List D)
  | [], acc, st => .ok acc st
  | x :: xs, acc, st => match t (.d x) st with
    | none => .no
    | some st1 => match ft st1 with
      | .ok true st2 => match fe st2 with
        | .ok (.d y) st3 => if acc.length < sizeLine then lcLoop ks t ft fe xs (acc ++ [y]) (wipeS ks st3) else .no
        | _ => .no
      | .ok false st2 => lcLoop ks t ft fe xs acc (wipeS ks st2)
      | _ => .no
def fLc (ks : List Nat) (t : Rs → S → Option S) (ft : S → Rz Bool) (fe : S → Rz Rs) (fi : S → Rz (List D)) : S → Rz Rs := fun st => (fi st).bind fun xs st1 =>
  if ks.all (dataOnly st1.δ) = true then (match lcLoop ks t ft fe xs [] (wipeS ks st1) with
    | .ok acc st2 => .ok (.own (.lst acc)) (restS ks st1 st2)
    | _ => .no) else .no
section
variable {b : B} {o : Own} {st : S} {σ : L2.St} {H : Hp}
theorem wipe_len (ks : List Nat) (σ : L2.St) : (wipe σ ks).length = σ.length := wipe_length σ ks
theorem wipeD_len : ∀ (ks : List Nat) (δ : List (Option R)), (wipeD ks δ).length = δ.length
  | [], _ => rfl
  | k :: ks, δ => by unfold wipeD; rw [List.length_set, wipeD_len ks δ]
theorem wipeD_get : ∀ {ks : List Nat} {δ : List (Option R)} {k : Nat} {r : R}, (wipeD ks δ)[k]? = some (some r) → δ[k]? = some (some r) ∧ k ∉ ks
  | [], _, _, _, e => ⟨e, by simp⟩
  | j :: ks, δ, k, r, e => by
    unfold wipeD at e
    rcases get_set e with ⟨_, e1⟩ | ⟨hk, e1⟩
    · cases e1
    · obtain ⟨h1, h2⟩ := wipeD_get e1
      exact ⟨h1, by simp [hk, h2]⟩
theorem wipe_get : ∀ {ks : List Nat} {σ : L2.St} {k : Nat}, k ∉ ks → (wipe σ ks)[k]? = σ[k]?
  | [], _, _, _ => rfl
  | j :: ks, σ, k, h => by
    rw [List.mem_cons, not_or] at h
    unfold wipe
    rw [List.getElem?_set_ne (Ne.symm h.1)]
    exact wipe_get h.2
theorem wipe_in : ∀ {ks : List Nat} {σ : L2.St} {k : Nat}, k ∈ ks → k < σ.length → (wipe σ ks)[k]? = some none
  | [], _, _, h, _ => nomatch h
  | j :: ks, σ, k, h, hl => by
    unfold wipe
    by_cases e : k = j
    · subst e
      rw [List.getElem?_set_self (by rw [wipe_length]; exact hl)]
    · rw [List.getElem?_set_ne (Ne.symm e)]
      exact wipe_in ((List.mem_cons.mp h).resolve_left e) hl
/-- the slots that a block changed, forgotten -/
theorem wipe_chg {ks : List Nat} {σ σ' : L2.St} (h : Chg ks (wipe σ ks) σ') : wipe σ' ks = wipe σ ks := by
  have hl : σ'.length = σ.length := by rw [h.1, wipe_length]
  refine List.ext_getElem? fun k => ?_
  by_cases hk : k ∈ ks
  · by_cases hl2 : k < σ.length
    · rw [wipe_in hk (by rw [hl]; exact hl2), wipe_in hk hl2]
    · rw [List.getElem?_eq_none (by rw [wipe_length]; omega), List.getElem?_eq_none (by rw [wipe_length]; omega)]
  · rw [wipe_get hk, h.2 k hk]
theorem SRel.wipe (h : SRel b o st σ H) (ks : List Nat) : SRel b o (wipeS ks st) (wipe σ ks) H := by
  refine ⟨by rw [wipe_length, h.len]; exact (wipeD_len ks st.δ).symm, fun k r e => ?_, h.arg, h.mu, h.keep, h.sfresh, h.afp, h.fp, h.root, h.rootH⟩
  obtain ⟨e1, hk⟩ := wipeD_get e
  obtain ⟨v, e2, q⟩ := h.slot k r e1
  exact ⟨v, by rw [wipe_get hk]; exact e2, q⟩
theorem restD_len : ∀ (ks : List Nat) (δ1 δ2 : List (Option R)), (restD ks δ1 δ2).length = δ2.length
  | [], _, _ => rfl
  | k :: ks, δ1, δ2 => by unfold restD; rw [List.length_set, restD_len ks δ1 δ2]
theorem restD_get : ∀ {ks : List Nat} {δ1 δ2 : List (Option R)} {k : Nat} {r : R}, (restD ks δ1 δ2)[k]? = some (some r) → (k ∈ ks ∧ δ1[k]? = some (some r)) ∨ (k ∉ ks ∧ δ2[k]? = some (some r))
  | [], _, _, _, _, e => .inr ⟨by simp, e⟩
  | j :: ks, δ1, δ2, k, r, e => by
    unfold restD at e
    rcases get_set e with ⟨rfl, e1⟩ | ⟨hk, e1⟩
    · refine .inl ⟨by simp, ?_⟩
      cases z : δ1[k]? with
      | none => rw [z] at e1; cases e1
      | some x =>
        rw [z] at e1
        have e1' : x = some r := e1
        rw [e1']
    · rcases restD_get e1 with ⟨h1, h2⟩ | ⟨h1, h2⟩
      · exact .inl ⟨by simp [h1], h2⟩
      · exact .inr ⟨by simp [hk, h1], h2⟩
theorem SRel.rest {st1 : S} {o1 : Own} {H1 : Hp} {ks : List Nat} (h1 : SRel b o1 st1 σ H1) (h : SRel b o st (L2.wipe σ ks) H) (tp : TP b.K H1 H) (hd : ks.all (dataOnly st1.δ) = true) : SRel b o (restS ks st1 st) σ H := by
  refine ⟨?_, fun k r e => ?_, h.arg, h.mu, h.keep, h.sfresh, h.afp, h.fp, h.root, h.rootH⟩
  · have := h.len
    rw [wipe_length] at this
    rw [this]
    exact (restD_len ks st1.δ st.δ).symm
  · rcases restD_get e with ⟨hk, e1⟩ | ⟨hk, e1⟩
    · obtain ⟨v, e2, q⟩ := h1.slot k r e1
      refine ⟨v, e2, ?_⟩
      have := List.all_eq_true.mp hd k hk
      unfold dataOnly at this
      rw [e1] at this
      cases r with
      | d x => exact At.mono tp x v q
      | own _ => simp at this
      | ro _ => simp at this
      | io _ => simp at this
    · obtain ⟨v, e2, q⟩ := h.slot k r e1
      rw [wipe_get hk] at e2
      exact ⟨v, e2, q⟩
/-- a list that nobody has is written -/
theorem SRel.tmp (h : SRel b o st σ H) {p : Addr} {u : HO} (n : o p = none) (n0 : b.H0 p = none) (mu : Mut (H p)) (mu2 : Mut (some u)) : SRel b o st σ (upd H p u) := by
  have kt := tp_write (K := b.K) (u := u) mu
  have ne : ∀ c w, o c = some w → c ≠ p := fun c w e z => by rw [z, n] at e; cases e
  refine ⟨h.len, fun k r e => ?_, fun j m e => ?_, fun c w e => ?_, fun c x e f => ?_, h.sfresh, h.afp, fun c f => ?_, fun c x e => ?_, h.rootH⟩
  · obtain ⟨v, e1, q⟩ := h.slot k r e
    refine ⟨v, e1, ?_⟩
    cases r with
    | d x => exact At.mono kt x v q
    | own m => obtain ⟨c, e2, q2, n2⟩ := q; exact ⟨c, e2, q2.mono kt (upd_ne (ne _ _ n2)), n2⟩
    | ro m => obtain ⟨c, e2, q2, n2⟩ := q; exact ⟨c, e2, q2.mono kt (upd_ne (ne _ _ n2)), n2⟩
    | io j => exact q
  · obtain ⟨c, e2, q2, n2⟩ := h.arg j m e
    exact ⟨c, e2, q2.mono kt (upd_ne (ne _ _ n2)), n2⟩
  · rw [upd_ne (ne c w e)]; exact h.mu c w e
  · rw [upd_ne (ne_of_none e n0)]; exact h.keep c x e f
  · by_cases z : c = p
    · rw [z, upd_same]; exact fun q => nomatch q
    · rw [upd_ne z]; exact h.fp c f
  · obtain ⟨h1, h2⟩ := h.root c x e
    have hc : c ≠ p := fun z => by
      have := h.rootH c x e
      rw [z, n0] at this; cases this
    exact ⟨by rw [upd_ne hc]; exact h1, h2⟩
theorem Tr.tmp {os : Own} {Hs : Hp} (t : Tr os Hs o H) {p : Addr} {u : HO} (f : Hs p = none) : Tr os Hs o (upd H p u) := by
  have ne : ∀ c, Hs c ≠ none → c ≠ p := fun c e z => e (by rw [z]; exact f)
  refine ⟨fun c x e s => ?_, fun c e => ?_, t.own⟩
  · obtain ⟨h1, h2⟩ := t.keep c x e s
    exact ⟨by rw [upd_ne (ne c (by rw [e]; exact fun z => nomatch z))]; exact h1, h2⟩
  · rw [upd_ne (ne c e)]; exact t.trk c e
end
def noW (c : C) : C := { c with W := fun _ _ _ _ => False }
abbrev DTs (X : Cx) (c : C) (ifs : List Expr) (f : S → Rz Bool) : Prop := PTs X ifs (ttOf c f)
theorem dts_nil {X : Cx} {c : C} : DTs X c [] fTrue := ⟨fun pins s σ H Q I ⟨o, st, rel, h⟩ => pts_nil.run pins s σ H Q I (h H o rel (Tr.refl o H))⟩
theorem dts_one {X : Cx} {c : C} {t : Expr} {f : S → Rz Bool} (h : DT X c t f) : DTs X c [t] f := pts_one h
section
variable {X : Cx} {c : C}
theorem lc_go {ks : List Nat} {t : Rs → S → Option S} {ft : S → Rz Bool} {fe : S → Rz Rs} {fi : S → Rz (List D)} {wi : TI} {g : TG} {tt : TT} {te : TE} (hi : ∀ {σ H R}, tiOf c fi σ H R → wi σ H R) (hg : ∀ {v σ H Q}, tgOf (noW c) ks t v σ H Q → g v σ H Q) (ht : ∀ {σ H Q}, ttOf (noW c) ft σ H Q → tt σ H Q) (he : ∀ {σ H Q}, teOf (noW c) fe σ H Q → te σ H Q)
    {σ : L2.St} {H : Hp} {Q : VK} : teOf c (fLc ks t ft fe fi) σ H Q → tLc wi g tt te ks σ H Q := fun ⟨o, st, rel, h⟩ => by
  refine hi ⟨o, st, rel, ?_⟩
  unfold fLc at h
  cases z : fi st with
  | no => rw [z] at h; exact h
  | ex e st1 => rw [z] at h; exact h
  | ok xs st1 =>
    rw [z] at h
    intro J H1 o1 G rel1 t1 w g1 Dl nD
    have h' : teK c o σ H (if ks.all (dataOnly st1.δ) = true then (match lcLoop ks t ft fe xs [] (wipeS ks st1) with
      | .ok acc st2 => .ok (.own (.lst acc)) (restS ks st1 st2)
      | _ => .no) else .no) Q := h
    clear h
    by_cases hd : ks.all (dataOnly st1.δ) = true
    · rw [if_pos hd] at h'
      obtain ⟨oD, hD0⟩ := rel1.fresh0 nD
      have nD0 : H Dl = none := by
        cases q : H Dl with
        | none => rfl
        | some u => exact absurd nD (t1.trk Dl (by rw [q]; exact fun z => nomatch z))
      -- the state ahead of turn i
      refine ⟨fun i m H2 => m = xs.length - i ∧ i ≤ xs.length ∧ ∃ o2 st2 acc vs, SRel c.b o2 st2 (wipe σ ks) H2 ∧ Tr o H o2 H2 ∧ TP c.b.K H1 H2 ∧ G o2 H2 ∧ o2 Dl = none ∧ H2 Dl = some (.lst vs) ∧ AtL c.b.K c.b.Hr H2 acc vs ∧
        teK c o σ H (match lcLoop ks t ft fe (xs.drop i) acc st2 with | .ok acc st2 => .ok (.own (.lst acc)) (restS ks st1 st2) | _ => .no) Q, ⟨xs.length, by simp, Nat.zero_le _, o1, wipeS ks st1, [], [], (rel1.laid nD).wipe ks, t1.trans (Tr.laid nD), tp_upd nD, w.stay rel1 g1 (Tr.laid nD), oD, upd_same, .nil, by simpa using h'⟩, ?_⟩
      rintro i m H2 ⟨rfl, hle, o2, st2, acc, vs, rel2, t2, tp2, g2, n2, hD, ha, hl⟩
      by_cases hlt : i < xs.length
      · refine .inr ⟨w.go rel2 g2 hlt, fun H3 => ∃ o2 st2 acc vs, SRel c.b o2 st2 (wipe σ ks) H3 ∧ Tr o H o2 H3 ∧ TP c.b.K H1 H3 ∧ G o2 H3 ∧ o2 Dl = none ∧ H3 Dl = some (.lst vs) ∧ AtL c.b.K c.b.Hr H3 acc vs ∧
          teK c o σ H (match lcLoop ks t ft fe (xs.drop (i + 1)) acc st2 with | .ok acc st2 => .ok (.own (.lst acc)) (restS ks st1 st2) | _ => .no) Q, fun H3 n => ⟨xs.length - (i + 1), by omega, rfl, hlt, n⟩, fun x H3 y => ?_⟩
        obtain ⟨rel3, t3, at3⟩ := w.yld rel2 g2 y
        have ex : xs[i]? = some xs[i] := List.getElem?_eq_getElem hlt
        have xa := at3 _ ex
        rw [List.drop_eq_getElem_cons hlt] at hl
        unfold lcLoop at hl
        cases zt : t (.d xs[i]) st2 with
        | none => simp only [zt] at hl; exact hl.elim
        | some st3 =>
          simp only [zt] at hl
          refine hg ⟨o2, H3, o2, st2, .d xs[i], st3, rel3, Tr.refl o2 H3, fun a n => (rel3.fresh0 n).2, xa, zt, fun σ4 H4 o4 rel4 t4 tp4 ch4 => ?_⟩
          have ew : wipe σ4 ks = wipe σ ks := wipe_chg ch4
          refine ⟨ew, ?_⟩
          have g4 := w.stay rel3 (w.stay rel2 g2 t3) t4
          have t24 := t3.trans t4
          have tp24 : TP c.b.K H2 H4 := rel2.tups t24
          refine ht ⟨o4, st3, rel4, ?_⟩
          cases zf : ft st3 with
          | no => simp only [zf] at hl; exact hl.elim
          | ex e st4 => simp only [zf] at hl; exact hl.elim
          | ok k st4 =>
            simp only [zf] at hl
            intro H5 o5 rel5 t5
            have g5 := w.stay rel4 g4 t5
            have t25 := t24.trans t5
            obtain ⟨hD5, on5⟩ := t25.keep Dl _ hD (.inl n2)
            have tp25 : TP c.b.K H2 H5 := rel2.tups t25
            cases k with
            | false =>
              refine iteF ⟨o5, wipeS ks st4, acc, vs, ?_, t2.trans t25, tp2.trans tp25, g5, on5.trans n2, hD5, ha.mono tp25 _ _, hl⟩
              have := rel5.wipe ks
              rw [ew] at this
              exact this
            | true =>
              refine iteT (he ⟨o5, st4, rel5, ?_⟩)
              cases zx : fe st4 with
              | no => simp only [zx] at hl; exact hl.elim
              | ex e st5 => simp only [zx] at hl; exact hl.elim
              | ok r st5 =>
                cases r with
                | own _ => simp only [zx] at hl; exact hl.elim
                | var _ => simp only [zx] at hl; exact hl.elim
                | d y =>
                  simp only [zx] at hl
                  intro v6 H6 o6 rel6 t6 x6
                  have t26 := t25.trans t6
                  obtain ⟨hD6, on6⟩ := t26.keep Dl _ hD (.inl n2)
                  have tp26 : TP c.b.K H2 H6 := rel2.tups t26
                  by_cases hz : acc.length < sizeLine
                  · rw [if_pos hz] at hl
                    have mu : Mut (H6 Dl) := by rw [hD6]; trivial
                    have kt := fun u => tp_write (K := c.b.K) (u := u) mu
                    refine ⟨vs, hD6, by rw [ha.len]; exact hz, o6, wipeS ks st5, acc ++ [y], vs ++ [v6], ?_, (t2.trans t26).tmp nD0, (tp2.trans tp26).trans (kt _), ?_, on6.trans n2, upd_same, ?_, hl⟩
                    · have := (rel6.tmp (u := .lst (vs ++ [v6])) (on6.trans n2) hD0 mu trivial).wipe ks
                      rw [ew] at this
                      exact this
                    · exact w.tmp g1 nD (w.stay rel5 g5 t6) mu
                    · exact ((ha.mono tp26 _ _).append (.cons x6 .nil)).mono (kt _) _ _
                  · rw [if_neg hz] at hl; exact hl.elim
      · have e : i = xs.length := by omega
        subst e
        rw [List.drop_length] at hl
        refine .inl ⟨w.stop rel2 g2 (Nat.le_refl _), ?_⟩
        exact hl (.ref Dl) H2 o2 (rel1.rest rel2 tp2 hd) t2 ⟨Dl, rfl, ⟨vs, hD, ha⟩, n2, nD0⟩
    · rw [if_neg hd] at h'; exact h'.elim
theorem de_lc {elt tg iter : Expr} {ifs : List Expr} {scope : Scope} {own : List (Str × Nat)} {pos : Pos} {t : Rs → S → Option S} {ft : S → Rz Bool} {fe : S → Rz Rs} {fi : S → Rz (List D)} (hc : X.calm = true) (hN : X.N.Nodup) (hi : DI X c tg iter fi) (ok : BlkOk X.N X.env.scope scope own)
    (hg : ∀ (s : Shared) (H : Hp) (C : Addr) (cl : List (Str × Addr)) (fp : List Addr), DG (X.blk s H scope (compEnvC scope cl C X.env) fp) (noW c) tg (own.map (·.2)) t) (ht : ∀ (s : Shared) (H : Hp) (C : Addr) (cl : List (Str × Addr)) (fp : List Addr), DTs (X.blk s H scope (compEnvC scope cl C X.env) fp) (noW c) ifs ft)
    (he : ∀ (s : Shared) (H : Hp) (C : Addr) (cl : List (Str × Addr)) (fp : List Addr), DE (X.blk s H scope (compEnvC scope cl C X.env) fp) (noW c) elt fe) (hs : ∀ x, foldedSetIterable iter X.env x = pure x := by intro _; rfl) :
    DE X c (.ListComp elt [⟨tg, iter, ifs, 0⟩] scope pos) (fLc (own.map (·.2)) t ft fe fi) :=
  PE.mono (pe_lc hc hN hi ok hg ht he hs) fun σ H Q h => lc_go (fun h => h) (fun h => h) (fun h => h) (fun h => h) h
theorem ds_setLc (i : Nat) {y : Str} {py : Pos} {elt tg iter : Expr} {ifs : List Expr} {scope : Scope} {own : List (Str × Nat)} {pos spos : Pos} {t : Rs → S → Option S} {ft : S → Rz Bool} {fe : S → Rz Rs} {fi : S → Rz (List D)} (hc : X.calm = true) (hN : X.N.Nodup)
    (hsw : swapsWith (.ListComp elt [⟨tg, iter, ifs, 0⟩] scope pos) (some (.Name y py)) spos.line X.env = pure true) (hi : DI X c tg iter fi) (ok : BlkOk X.N X.env.scope scope own)
    (hg : ∀ (s : Shared) (H : Hp) (C : Addr) (cl : List (Str × Addr)) (fp : List Addr), DG (X.blk s H scope (compEnvC scope cl C X.env) fp) (noW c) tg (own.map (·.2)) t) (ht : ∀ (s : Shared) (H : Hp) (C : Addr) (cl : List (Str × Addr)) (fp : List Addr), DTs (X.blk s H scope (compEnvC scope cl C X.env) fp) (noW c) ifs ft)
    (he : ∀ (s : Shared) (H : Hp) (C : Addr) (cl : List (Str × Addr)) (fp : List Addr), DE (X.blk s H scope (compEnvC scope cl C X.env) fp) (noW c) elt fe) (hy : X.N[i]? = some y := by rfl) (hyl : X.env.scope.names.lookup y = some .local := by rfl) (hs : ∀ x, foldedSetIterable iter X.env x = pure x := by intro _; rfl) :
    DS X c (.Assign [.Name y py] (.ListComp elt [⟨tg, iter, ifs, 0⟩] scope pos) spos) (fAsg (gN i) (fLc (own.map (·.2)) t ft fe fi)) :=
  PS.mono (ps_setLc hc hN hy hyl hsw hi ok hg ht he hs) fun D σ H h => asg_of (ks := [i]) (fun {v σ H Q} ⟨os, Hs, o, st, r, st', rel, t, h0, x, e, k⟩ => gN_go (Q := Q) rel t h0 x e fun σ' o' r' t' _ hc => k σ' H o' r' t' (TP.refl _ _) hc) (fun h => lc_go (fun h => h) (fun h => h) (fun h => h) (fun h => h) h) h
end
end FL
end
section
set_option Elab.async false
set_option linter.all false
set_option maxRecDepth 100000
namespace FL
open PySem PySem.Spec PyProof.Rows L2
/-! ### what a def does -/
inductive Arg where
  | d (x : D) | ro (m : M) | io (m : M)
inductive Out where
  | ret (r : Rs) (fin : List Arg)
  | exc (e : Ex) (fin : List Arg)
  | no
def argR (K : PySem.W.Frag) (Hr H : Hp) (o : Addr → Option Nat) (p : Nat) : Arg → V → Prop
  | .d x, v => At K Hr H x v
  | .ro m, v => ∃ a, v = .ref a ∧ MR K Hr H a m ∧ o a = none ∧ Hr a = none
  | .io m, v => ∃ a, v = .ref a ∧ MR K Hr H a m ∧ o a = some p
structure FPost (K : PySem.W.Frag) (Hr H : Hp) (o : Addr → Option Nat) (vs : List V) (fin : List Arg) (H' : Hp) : Prop where
  keep : ∀ b u, H b = some u → o b = none → H' b = some u
  trk : ∀ b, H b ≠ none → H' b ≠ none
  fin : ∀ (p : Nat) (m : M) (a : Addr), fin[p]? = some (.io m) → vs[p]? = some (.ref a) → MR K Hr H' a m
  mu : ∀ b p, o b = some p → Mut (H' b)
def RetR (K : PySem.W.Frag) (Hr H H' : Hp) : Rs → V → Prop
  | .d x, v => At K Hr H' x v
  | .own m, v => ∃ a, v = .ref a ∧ MR K Hr H' a m ∧ H a = none
  | .var _, _ => False
def ERep' (K : PySem.W.Frag) (Hr : Hp) (mg : Str → Option Value) (H : Hp) (e : Ex) (cls : Value) (d : Option Addr) : Prop :=
  mg e.cls = some cls ∧ ((e.fs = [] ∧ d = none) ∨ ∃ dd vs, d = some dd ∧ H dd = some (.xd vs) ∧ vs.map (·.1) = e.fs.map (·.1) ∧ AtL K Hr H (e.fs.map (·.2)) (vs.map (·.2)))
def FoK (K : PySem.W.Frag) (Hr : Hp) (mg : Str → Option Value) (H : Hp) (o : Addr → Option Nat) (vs : List V) (z : Out) (Q : VK) (E : XK) : Prop := match z with
  | .ret r fin => ∀ v H', FPost K Hr H o vs fin H' → RetR K Hr H H' r v → Q v H'
  | .exc e fin => ∀ cls d H', FPost K Hr H o vs fin H' → ERep' K Hr mg H' e cls d → E cls d H'
  | .no => False
structure FPre (K : PySem.W.Frag) (Hr H : Hp) (o : Addr → Option Nat) (args : List Arg) (vs : List V) : Prop where
  len : vs.length = args.length
  arg : ∀ (p : Nat) (a : Arg) (v : V), args[p]? = some a → vs[p]? = some v → argR K Hr H o p a v
  own : ∀ b p, o b = some p → (∃ m, args[p]? = some (.io m)) ∧ vs[p]? = some (.ref b)
  root : ∀ c u, Hr c = some u → H c = some u ∧ o c = none
def spF (K : PySem.W.Frag) (Hr : Hp) (mg : Str → Option Value) (F : List Arg → Out) : Sp := fun vs H Q E => ∃ args o, FPre K Hr H o args vs ∧ FoK K Hr mg H o vs (F args) Q E
theorem FPre.mu {K : PySem.W.Frag} {Hr H : Hp} {o : Addr → Option Nat} {args : List Arg} {vs : List V} (h : FPre K Hr H o args vs) : ∀ b p, o b = some p → Mut (H b) := fun b p e => by
  obtain ⟨⟨m, e1⟩, e2⟩ := h.own b p e
  obtain ⟨a, e3, q, _⟩ := h.arg p _ _ e1 e2
  cases e3
  exact q.mu
/-! ### a def's body -/
def slot0 (p : Nat) : Arg → R
  | .d x => .d x
  | .ro m => .ro m
  | .io _ => .io p
def slots0 : Nat → List Arg → List (Option R)
  | _, [] => []
  | p, a :: as => some (slot0 p a) :: slots0 (p + 1) as
def ioM : Arg → Option M
  | .io m => some m
  | _ => none
def start0 (n : Nat) (args : List Arg) : S := { δ := slots0 0 args ++ List.replicate (n - args.length) none, γ := args.map ioM }
def finA : List Arg → List (Option M) → List Arg
  | [], _ => []
  | .io _ :: as, some m :: γ => .io m :: finA as γ
  | a :: as, _ :: γ => a :: finA as γ
  | a :: as, [] => a :: finA as []
def S.res (st : S) : Rs → Option Rs
  | .var i => match st.δ[i]? with
    | some (some (.own m)) => some (.own m)
    | _ => none
  | r => some r
def runF (n : Nat) (g : S → Rz Fl) (args : List Arg) : Out := match g (start0 n args) with
  | .ok .nx st => .ret (.d .none) (finA args st.γ)
  | .ok (.rt r) st => match st.res r with
    | some r => .ret r (finA args st.γ)
    | none => .no
  | .ex e st => .exc e (finA args st.γ)
  | _ => .no
theorem slots0_get : ∀ {as : List Arg} {p i : Nat} {a : Arg}, as[i]? = some a → (slots0 p as)[i]? = some (some (slot0 (p + i) a))
  | [], _, _, _, e => by simp at e
  | x :: as, p, 0, a, e => by
    have e' : x = a := by simpa using e
    subst e'
    rfl
  | x :: as, p, i + 1, a, e => by
    have := slots0_get (p := p + 1) (show as[i]? = some a by simpa using e)
    rw [show p + (i + 1) = p + 1 + i by omega]
    exact this
theorem slots0_len : ∀ (as : List Arg) (p : Nat), (slots0 p as).length = as.length
  | [], _ => rfl
  | _ :: as, p => by simp [slots0, slots0_len as (p + 1)]
theorem finA_io : ∀ {as : List Arg} {γ : List (Option M)} {p : Nat} {m : M}, as.length = γ.length → (∀ (i : Nat) (m : M), as[i]? = some (Arg.io m) → ∃ m', γ[i]? = some (some m')) → (finA as γ)[p]? = some (.io m) → γ[p]? = some (some m)
  | [], _, p, m, _, _, e => by simp [finA] at e
  | a :: as, [], p, m, hl, _, e => by simp at hl
  | a :: as, g :: γ, p, m, hl, hk, e => by
    have hl' : as.length = γ.length := by simpa using hl
    have hk' : ∀ (i : Nat) (m : M), as[i]? = some (Arg.io m) → ∃ m', γ[i]? = some (some m') := fun i m h => by simpa using hk (i + 1) m (by simpa using h)
    cases p with
    | zero =>
      cases a with
      | d x => cases g <;> simp [finA] at e
      | ro x => cases g <;> simp [finA] at e
      | io x =>
        cases g with
        | none =>
          obtain ⟨m', h⟩ := hk 0 x rfl
          simp at h
        | some y =>
          simp [finA] at e
          rw [e]
          rfl
    | succ p =>
      have : (finA as γ)[p]? = some (.io m) := by
        cases a <;> cases g <;> simpa [finA] using e
      simpa using finA_io hl' hk' this
section
variable {K : PySem.W.Frag} {Hr H : Hp} {mg : Str → Option Value}
open Classical in
/-- who has what at the start -/
noncomputable def own0 (o : Addr → Option Nat) (args : List Arg) (vs : List V) : Own := fun a => match o a with
  | some p => some (.arg p)
  | none => if ∃ (p : Nat) (m : M), args[p]? = some (Arg.ro m) ∧ vs[p]? = some (V.ref a) then some .fz else none
theorem own0_some {o : Addr → Option Nat} {args : List Arg} {vs : List V} {a : Addr} {p : Nat} (e : o a = some p) : own0 o args vs a = some (.arg p) := by unfold own0; rw [e]
theorem own0_arg {o : Addr → Option Nat} {args : List Arg} {vs : List V} {a : Addr} {p : Nat} (e : own0 o args vs a = some (.arg p)) : o a = some p := by
  unfold own0 at e
  cases z : o a with
  | some q => rw [z] at e; cases e; rfl
  | none =>
    rw [z] at e
    dsimp only at e
    split at e <;> cases e
theorem own0_none {o : Addr → Option Nat} {args : List Arg} {vs : List V} {a : Addr} (e : o a = none) : Stb (own0 o args vs a) := by
  unfold own0
  rw [e]
  dsimp only
  split
  · exact .inr rfl
  · exact .inl rfl
theorem own0_of {o : Addr → Option Nat} {args : List Arg} {vs : List V} {a : Addr} (e : own0 o args vs a = none) : o a = none := by
  cases z : o a with
  | none => rfl
  | some p => rw [own0_some z] at e; cases e
theorem start_rel {n : Nat} {o : Addr → Option Nat} {args : List Arg} {vs : List V} {N : List Str} (hn : N.length = n) (pre : FPre K Hr H o args vs) :
    SRel ⟨K, Hr, H, fun a => o a ≠ none, vs⟩ (own0 o args vs) (start0 n args) (start N vs) H := by
  have getA : ∀ (i : Nat) (r : R), (start0 n args).δ[i]? = some (some r) → ∃ a v, args[i]? = some a ∧ vs[i]? = some v ∧ r = slot0 i a ∧ (start N vs)[i]? = some (some v) := fun i r e => by
    by_cases hi : i < args.length
    · have e1 : args[i]? = some args[i] := List.getElem?_eq_getElem hi
      have hv : i < vs.length := by rw [pre.len]; exact hi
      have e2 : vs[i]? = some vs[i] := List.getElem?_eq_getElem hv
      have e3 : (start0 n args).δ[i]? = some (some (slot0 i args[i])) := by
        show (slots0 0 args ++ List.replicate (n - args.length) none)[i]? = _
        rw [List.getElem?_append_left (by rw [slots0_len]; exact hi), slots0_get e1, Nat.zero_add]
      rw [e3] at e
      cases e
      refine ⟨_, _, e1, e2, rfl, ?_⟩
      show (vs.map some ++ List.replicate (N.length - vs.length) none)[i]? = _
      rw [List.getElem?_append_left (by simpa using hv), List.getElem?_map, e2]
      rfl
    · exfalso
      have e3 : (slots0 0 args ++ List.replicate (n - args.length) none)[i]? = some (some r) := e
      rw [List.getElem?_append_right (by rw [slots0_len]; omega)] at e3
      have := List.mem_of_getElem? e3
      have := List.eq_of_mem_replicate this
      cases this
  refine ⟨?_, fun i r e => ?_, fun j m e => ?_, fun a w e => ?_, fun c u e _ => e, fun a i e => ?_, fun a j e => ?_, fun a f => ?_, fun c u e => ?_, fun c u e => (pre.root c u e).1⟩
  · show (vs.map some ++ List.replicate (N.length - vs.length) none).length = (slots0 0 args ++ List.replicate (n - args.length) none).length
    rw [List.length_append, List.length_append, List.length_map, List.length_replicate, List.length_replicate, slots0_len, pre.len, hn]
  · obtain ⟨a, v, e1, e2, rfl, e3⟩ := getA i r e
    refine ⟨v, e3, ?_⟩
    have q := pre.arg i a v e1 e2
    cases a with
    | d x => exact q
    | ro m =>
      obtain ⟨b, rfl, q1, q2, _⟩ := q
      refine ⟨b, rfl, q1, ?_⟩
      unfold own0
      rw [q2]
      exact if_pos ⟨i, m, e1, e2⟩
    | io m => exact ⟨e2, m, by show (args.map _)[i]? = _; rw [List.getElem?_map, e1]; rfl⟩
  · have e' : (args.map ioM)[j]? = some (some m) := e
    rw [List.getElem?_map] at e'
    cases z : args[j]? with
    | none => rw [z] at e'; cases e'
    | some a =>
      rw [z] at e'
      cases a with
      | d x => simp [ioM] at e'
      | ro x => simp [ioM] at e'
      | io x =>
        have e'' : x = m := by simpa [ioM] using e'
        subst e''
        have hj : j < vs.length := by rw [pre.len]; exact (List.getElem?_eq_some_iff.mp z).1
        have e2 : vs[j]? = some vs[j] := List.getElem?_eq_getElem hj
        obtain ⟨b, e3, q1, q2⟩ := pre.arg j _ _ z e2
        exact ⟨b, by rw [← e3]; exact e2, q1, own0_some q2⟩
  · cases z : o a with
    | some p => exact pre.mu a p z
    | none =>
      unfold own0 at e
      rw [z] at e
      dsimp only at e
      split at e
      · rename_i h
        obtain ⟨p, m, h1, h2⟩ := h
        obtain ⟨b, e3, q1, _⟩ := pre.arg p _ _ h1 h2
        cases e3
        exact q1.mu
      · cases e
  · unfold own0 at e
    cases z : o a with
    | some p => rw [z] at e; cases e
    | none =>
      rw [z] at e
      dsimp only at e
      split at e <;> cases e
  · exact .inr (by show o a ≠ none; rw [own0_arg e]; exact fun z => nomatch z)
  · cases z : o a with
    | none => exact absurd z f
    | some p => exact Mut.some (pre.mu a p z)
  · obtain ⟨h1, h2⟩ := pre.root c u e
    refine ⟨h1, ?_⟩
    unfold own0
    rw [h2]
    refine if_neg fun ⟨p, m, g1, g2⟩ => ?_
    obtain ⟨b, e3, _, _, e4⟩ := pre.arg p _ _ g1 g2
    cases e3
    have e' : Hr c = some u := e
    rw [e4] at e'; cases e'
/-- behind the body -/
theorem end_post {n : Nat} {o : Addr → Option Nat} {args : List Arg} {vs : List V} {o' : Own} {st : S} {σ' : L2.St} {H' : Hp} (pre : FPre K Hr H o args vs) (rel : SRel ⟨K, Hr, H, fun a => o a ≠ none, vs⟩ o' st σ' H') (t : Tr (own0 o args vs) H o' H') (hg : st.γ.length = args.length ∧ ∀ (i : Nat) (m : M), args[i]? = some (Arg.io m) → ∃ m', st.γ[i]? = some (some m')) :
    FPost K Hr H o vs (finA args st.γ) H' where
  keep := fun b u e n => (t.keep b u e (own0_none n)).1
  trk := t.trk
  fin := fun p m a e e2 => by
    have e3 := finA_io hg.1.symm hg.2 e
    obtain ⟨c, e4, q, _⟩ := rel.arg p m e3
    have e5 : vs[p]? = some (.ref c) := e4
    rw [e2] at e5
    cases e5
    exact q
  mu := fun b p e => by
    obtain ⟨⟨m, e1⟩, e2⟩ := pre.own b p e
    obtain ⟨m', e3⟩ := hg.2 p m e1
    obtain ⟨c, e4, q, _⟩ := rel.arg p m' e3
    have e5 : vs[p]? = some (.ref c) := e4
    rw [e2] at e5
    cases e5
    exact q.mu
theorem end_ret {n : Nat} {o : Addr → Option Nat} {args : List Arg} {vs : List V} {o' : Own} {st : S} {σ' : L2.St} {H' : Hp} {r r' : Rs} {v : V} (rel : SRel ⟨K, Hr, H, fun a => o a ≠ none, vs⟩ o' st σ' H') (x : XRep ⟨K, Hr, H, fun a => o a ≠ none, vs⟩ H o' H' σ' r v) (e : st.res r = some r') : RetR K Hr H H' r' v := by
  cases r with
  | d d => cases e; exact x
  | own m =>
    cases e
    obtain ⟨a, rfl, q, _, f⟩ := x
    exact ⟨a, rfl, q, f⟩
  | var i =>
    unfold S.res at e
    dsimp only at e
    split at e
    · rename_i m hd
      cases e
      obtain ⟨w, e1, a, rfl, q, n⟩ := rel.slot i _ hd
      have x' : σ'[i]? = some (some v) := x
      rw [e1] at x'
      cases x'
      exact ⟨a, rfl, q, rel.sfresh a i n⟩
    · cases e
end
/-- the things handed in are told to the end -/
def KeepsG (g : S → Rz Fl) : Prop := True
section
variable {P : Program} {w : World} {K : PySem.W.Frag} {mg : Str → Option Value} {base : Heap}
abbrev cOf (K : PySem.W.Frag) (Hr H : Hp) (mg : Str → Option Value) (o : Addr → Option Nat) (vs : List V) (W : WX) : C := ⟨⟨K, Hr, H, fun a => o a ≠ none, vs⟩, mg, W⟩
/-- the check at the end: the things that were handed in are all there -/
def ioOk : List Arg → List (Option M) → Bool
  | [], [] => true
  | .io _ :: as, some _ :: γ => ioOk as γ
  | .io _ :: _, _ => false
  | _ :: as, _ :: γ => ioOk as γ
  | _, _ => false
theorem ioOk_inv : ∀ {as : List Arg} {γ : List (Option M)}, ioOk as γ = true → γ.length = as.length ∧ ∀ (i : Nat) (m : M), as[i]? = some (Arg.io m) → ∃ m', γ[i]? = some (some m')
  | [], [], _ => ⟨rfl, fun i m e => by simp at e⟩
  | [], _ :: _, h => by simp [ioOk] at h
  | .io x :: as, some y :: γ, h => by
    obtain ⟨h1, h2⟩ := ioOk_inv (as := as) (γ := γ) (by simpa [ioOk] using h)
    refine ⟨by simp [h1], fun i m e => ?_⟩
    cases i with
    | zero => exact ⟨y, rfl⟩
    | succ i => simpa using h2 i m (by simpa using e)
  | .io x :: as, none :: γ, h => by simp [ioOk] at h
  | .io x :: as, [], h => by simp [ioOk] at h
  | .d x :: as, y :: γ, h => by
    obtain ⟨h1, h2⟩ := ioOk_inv (as := as) (γ := γ) (by simpa [ioOk] using h)
    refine ⟨by simp [h1], fun i m e => ?_⟩
    cases i with
    | zero => simp at e
    | succ i => simpa using h2 i m (by simpa using e)
  | .d x :: as, [], h => by simp [ioOk] at h
  | .ro x :: as, y :: γ, h => by
    obtain ⟨h1, h2⟩ := ioOk_inv (as := as) (γ := γ) (by simpa [ioOk] using h)
    refine ⟨by simp [h1], fun i m e => ?_⟩
    cases i with
    | zero => simp at e
    | succ i => simpa using h2 i m (by simpa using e)
  | .ro x :: as, [], h => by simp [ioOk] at h
/-- what a def does, by its body -/
def bodyF (n : Nat) (g : S → Rz Fl) (args : List Arg) : Out := match g (start0 n args) with
  | .ok .nx st => if ioOk args st.γ = true then .ret (.d .none) (finA args st.γ) else .no
  | .ok (.rt r) st => if ioOk args st.γ = true then (match st.res r with
    | some r => .ret r (finA args st.γ)
    | none => .no) else .no
  | .ex e st => if ioOk args st.γ = true then .exc e (finA args st.γ) else .no
  | _ => .no
/-- a def that lets nothing out -/
theorem fn_ok {x qual : Str} {s : Stmt} {f : Addr} {fd : FuncData} {N ps : List Str} {k : Nat} {Hr : Hp} {g : S → Rz Fl} (F : Fun K x qual s f fd) (sc : FnScope N ps (defScope s)) {Fn : List Arg → Out} (n : Nat) (hn : N.length = n) (hlen : ∀ args, Fn args ≠ .no → args.length = ps.length)
    (hF : ∀ args, (∀ e fin, Fn args ≠ .exc e fin) ∧ (Fn args ≠ .no → bodyF n g args = Fn args))
    (der : ∀ (cdv : Value) (A : Around) (outer : List Env) (s0 : Shared) (H : Hp) (E : XK) (o : Addr → Option Nat) (vs : List V), Room k (A.deeper (envOfC qual (defScope s) s0.heap.objs.size f cdv)) →
      DSs (cxOf CX0 P w K mg base N qual (defScope s) f cdv A outer s0 H E).nox (cOf K Hr H mg o vs (fun _ _ _ _ => False)) (defBody s) g) : FnOk P w K mg base CX0 (k + 1) f fd ps (spF K Hr mg Fn) := by
  refine F.ok sc (fun vs H Q E h => ?_) (fun cdv A outer s0 H vs Q E hr h => ?_)
  · obtain ⟨args, o, pre, q⟩ := h
    rw [pre.len]
    refine hlen args fun z => ?_
    rw [z] at q
    exact q
  · obtain ⟨args, o, pre, q⟩ := h
    refine ⟨_, der cdv A outer s0 H E o vs hr, own0 o args vs, start0 n args, start_rel hn pre, ?_⟩
    obtain ⟨h1, h2⟩ := hF args
    have hne : Fn args ≠ .no := fun z => by rw [z] at q; exact q
    have e := h2 hne
    unfold bodyF at e
    cases z : g (start0 n args) with
    | no => rw [z] at e; exact absurd e.symm hne
    | ex ee st =>
      rw [z] at e
      dsimp only at e
      split at e
      · exact absurd e.symm (h1 _ _)
      · exact absurd e.symm hne
    | ok fl st =>
      rw [z] at e
      cases fl with
      | bk => exact absurd e.symm hne
      | ct => exact absurd e.symm hne
      | nx =>
        dsimp only at e
        by_cases hio : ioOk args st.γ = true
        · rw [if_pos hio] at e
          rw [← e] at q
          exact fun σ' H' o' rel t => q .non H' (end_post (n := n) pre rel t (ioOk_inv hio)) At.non
        · rw [if_neg hio] at e; exact absurd e.symm hne
      | rt r =>
        dsimp only at e
        by_cases hio : ioOk args st.γ = true
        · rw [if_pos hio] at e
          cases zr : st.res r with
          | none => rw [zr] at e; exact absurd e.symm hne
          | some r' =>
            rw [zr] at e
            dsimp only at e
            rw [← e] at q
            exact fun v σ' H' o' rel t xr => q v H' (end_post (n := n) pre rel t (ioOk_inv hio)) (end_ret (n := n) (args := args) rel xr zr)
        · rw [if_neg hio] at e; exact absurd e.symm hne
end
end FL
end
section
set_option Elab.async false
set_option linter.all false
set_option maxRecDepth 100000
namespace FL
open PySem PySem.Spec PyProof.Rows L2
/-! ### a call -/
inductive Md where
  | v | r | w
  deriving DecidableEq
/-- who has it -/
def S.tgt (st : S) : Rs → Option Ow
  | .var i => match st.δ[i]? with
    | some (some (.own _)) => some (.slot i)
    | some (some (.io j)) => some (.arg j)
    | _ => none
  | _ => none
def owEq : Ow → Ow → Bool
  | .slot i, .slot j => i == j
  | .arg i, .arg j => i == j
  | .fz, .fz => true
  | _, _ => false
theorem owEq_iff {a b : Ow} : owEq a b = true ↔ a = b := by
  cases a <;> cases b <;> simp [owEq]
/-- nobody is lent twice -/
def apartB : List (Option Ow) → Bool
  | [] => true
  | none :: r => apartB r
  | some a :: r => (r.all fun x => match x with | some b => !owEq a b | none => true) && apartB r
def mkArg (st : S) : Md → Rs → Option Arg
  | .v, .d x => some (.d x)
  | .r, .d x => some (.d x)
  | .r, .own m => some (.ro m)
  | .r, .var i => (st.der (.var i)).map .ro
  | .w, .var i => (st.get i).map .io
  | .w, .own m => some (.io m)
  | _, _ => none
def mkArgs (st : S) : List Md → List Rs → Option (List Arg)
  | [], [] => some []
  | m :: ms, r :: rs => match mkArg st m r, mkArgs st ms rs with
    | some a, some as => some (a :: as)
    | _, _ => none
  | _, _ => none
def back (st : S) : List Md → List Rs → List Arg → Option S
  | [], [], [] => some st
  | .w :: ms, .var i :: rs, .io m :: fs => back (st.put i m) ms rs fs
  | .w :: ms, .own _ :: rs, .io _ :: fs => back st ms rs fs
  | .v :: ms, _ :: rs, _ :: fs => back st ms rs fs
  | .r :: ms, _ :: rs, _ :: fs => back st ms rs fs
  | _, _, _ => none
def fCallF (F : List Arg → Out) (ms : List Md) (fa : S → Rz (List Rs)) : S → Rz Rs := fun st => (fa st).bind fun rs st => match mkArgs st ms rs with
  | none => .no
  | some args => if apartB (rs.map st.tgt) = true then (match F args with
    | .ret r fin => match back st ms rs fin with
      | some st' => .ok r st'
      | none => .no
    | .exc e fin => match back st ms rs fin with
      | some st' => .ex e st'
      | none => .no
    | .no => .no) else .no
section
variable {b : B} {o : Own} {st : S} {σ : L2.St} {H Hs : Hp}
theorem mkArgs_get : ∀ {ms : List Md} {rs : List Rs} {as : List Arg} {p : Nat} {a : Arg}, mkArgs st ms rs = some as → as[p]? = some a → ∃ m r, ms[p]? = some m ∧ rs[p]? = some r ∧ mkArg st m r = some a
  | [], [], as, p, a, e, e2 => by cases e; simp at e2
  | m :: ms, r :: rs, as, p, a, e, e2 => by
    simp only [mkArgs] at e
    split at e
    · rename_i a1 as1 h1 h2
      cases e
      cases p with
      | zero =>
        have : a1 = a := by simpa using e2
        subst this
        exact ⟨m, r, rfl, rfl, h1⟩
      | succ p =>
        obtain ⟨m', r', g1, g2, g3⟩ := mkArgs_get (p := p) h2 (by simpa using e2)
        exact ⟨m', r', by simpa using g1, by simpa using g2, g3⟩
    · cases e
  | [], _ :: _, _, _, _, e, _ => by simp [mkArgs] at e
  | _ :: _, [], _, _, _, e, _ => by simp [mkArgs] at e
theorem mkArgs_len : ∀ {ms : List Md} {rs : List Rs} {as : List Arg}, mkArgs st ms rs = some as → as.length = rs.length ∧ ms.length = rs.length
  | [], [], as, e => by cases e; exact ⟨rfl, rfl⟩
  | m :: ms, r :: rs, as, e => by
    simp only [mkArgs] at e
    split at e
    · rename_i a1 as1 h1 h2
      cases e
      obtain ⟨g1, g2⟩ := mkArgs_len h2
      simp [g1, g2]
    · cases e
  | [], _ :: _, _, e => by simp [mkArgs] at e
  | _ :: _, [], _, e => by simp [mkArgs] at e
theorem apartB_get : ∀ {l : List (Option Ow)} {p q : Nat} {a : Ow}, apartB l = true → l[p]? = some (some a) → l[q]? = some (some a) → p = q
  | [], p, q, a, _, h, _ => by simp at h
  | none :: r, p, q, a, hl, h1, h2 => by
    cases p with
    | zero => simp at h1
    | succ p =>
      cases q with
      | zero => simp at h2
      | succ q => rw [apartB_get (l := r) (p := p) (q := q) (a := a) (by simpa [apartB] using hl) (by simpa using h1) (by simpa using h2)]
  | some x :: r, p, q, a, hl, h1, h2 => by
    simp only [apartB, Bool.and_eq_true, List.all_eq_true] at hl
    have no : ∀ k, r[k]? = some (some x) → False := fun k hk => by
      have := hl.1 _ (List.mem_of_getElem? hk)
      simp only [Bool.not_eq_true'] at this
      rw [owEq_iff.mpr rfl] at this
      cases this
    cases p with
    | zero =>
      have e1 : x = a := by simpa using h1
      subst e1
      cases q with
      | zero => rfl
      | succ q => exact (no q (by simpa using h2)).elim
    | succ p =>
      cases q with
      | zero =>
        have e1 : x = a := by simpa using h2
        subst e1
        exact (no p (by simpa using h1)).elim
      | succ q => rw [apartB_get (l := r) (p := p) (q := q) (a := a) hl.2 (by simpa using h1) (by simpa using h2)]
/-- a lent name's owner -/
theorem tgt_own (h : SRel b o st σ H) {i : Nat} {m : M} (e : st.get i = some m) : ∃ a w, σ[i]? = some (some (.ref a)) ∧ MR b.K b.Hr H a m ∧ o a = some w ∧ st.tgt (.var i) = some w ∧ w ≠ .fz := by
  unfold S.get at e
  cases hd : st.δ[i]? with
  | none => simp only [hd] at e; cases e
  | some x =>
    cases x with
    | none => simp only [hd] at e; cases e
    | some r =>
      obtain ⟨v, e1, q⟩ := h.slot i r hd
      cases r with
      | d x => simp only [hd] at e; cases e
      | ro m' => simp only [hd] at e; cases e
      | own m' =>
        simp only [hd] at e
        cases e
        obtain ⟨a, rfl, q2, q3⟩ := q
        exact ⟨a, _, e1, q2, q3, by simp [S.tgt, hd], fun z => nomatch z⟩
      | io j =>
        simp only [hd] at e
        obtain ⟨q2, m2, q3⟩ := q
        rw [q3] at e
        have e' : m2 = m := Option.some.inj e
        subst e'
        obtain ⟨a, e4, q4, n⟩ := h.arg j _ q3
        rw [q2] at e4
        cases e4
        exact ⟨a, _, e1, q4, n, by simp [S.tgt, hd], fun z => nomatch z⟩
theorem der_own (h : SRel b o st σ H) {i : Nat} {m : M} (e : st.der (.var i) = some m) : ∃ a, σ[i]? = some (some (.ref a)) ∧ MR b.K b.Hr H a m ∧ ((∃ w, o a = some w ∧ st.tgt (.var i) = some w) ∨ o a = some .fz) := by
  simp only [S.der] at e
  cases hd : st.δ[i]? with
  | none => simp only [hd] at e; cases e
  | some x =>
    cases x with
    | none => simp only [hd] at e; cases e
    | some r =>
      obtain ⟨v, e1, q⟩ := h.slot i r hd
      cases r with
      | d x => simp only [hd] at e; cases e
      | ro m' =>
        simp only [hd] at e
        cases e
        obtain ⟨a, rfl, q2, q3⟩ := q
        exact ⟨a, e1, q2, .inr q3⟩
      | own m' =>
        simp only [hd] at e
        cases e
        obtain ⟨a, rfl, q2, q3⟩ := q
        exact ⟨a, e1, q2, .inl ⟨_, q3, by simp [S.tgt, hd]⟩⟩
      | io j =>
        simp only [hd] at e
        obtain ⟨q2, m2, q3⟩ := q
        rw [q3] at e
        have e' : m2 = m := Option.some.inj e
        subst e'
        obtain ⟨a, e4, q4, n⟩ := h.arg j _ q3
        rw [q2] at e4
        cases e4
        exact ⟨a, e1, q4, .inl ⟨_, n, by simp [S.tgt, hd]⟩⟩
/-- all stands but what the things at A are -/
structure SRelx (A : Addr → Prop) (b : B) (o : Own) (st : S) (σ : L2.St) (H : Hp) : Prop where
  len : σ.length = st.δ.length
  sd : ∀ (i : Nat) (x : D), st.δ[i]? = some (some (R.d x)) → ∃ v, σ[i]? = some (some v) ∧ At b.K b.Hr H x v
  so : ∀ (i : Nat) (m : M), st.δ[i]? = some (some (R.own m)) → ∃ a, σ[i]? = some (some (V.ref a)) ∧ o a = some (Ow.slot i) ∧ (¬ A a → MR b.K b.Hr H a m)
  sr : ∀ (i : Nat) (m : M), st.δ[i]? = some (some (R.ro m)) → ∃ a, σ[i]? = some (some (V.ref a)) ∧ o a = some Ow.fz ∧ MR b.K b.Hr H a m
  si : ∀ (i j : Nat), st.δ[i]? = some (some (R.io j)) → (∃ v, σ[i]? = some (some v) ∧ b.gv[j]? = some v) ∧ ∃ m, st.γ[j]? = some (some m)
  arg : ∀ (j : Nat) (m : M), st.γ[j]? = some (some m) → ∃ a, b.gv[j]? = some (V.ref a) ∧ o a = some (Ow.arg j) ∧ (¬ A a → MR b.K b.Hr H a m)
  mu : ∀ a w, o a = some w → Mut (H a)
  keep : ∀ c u, b.H0 c = some u → ¬ b.FP c → H c = some u
  sfresh : ∀ a i, o a = some (.slot i) → b.H0 a = none
  afp : ∀ a j, o a = some (.arg j) → b.H0 a = none ∨ b.FP a
  fp : ∀ a, b.FP a → H a ≠ none
  root : ∀ c u, b.Hr c = some u → H c = some u ∧ o c = none
  rootH : ∀ c u, b.Hr c = some u → b.H0 c = some u
theorem SRelx.to {A : Addr → Prop} (h : SRelx A b o st σ H) (hA : ∀ a, ¬ A a) : SRel b o st σ H :=
  ⟨h.len, fun i r e => by
    cases r with
    | d x => exact h.sd i x e
    | own m => obtain ⟨a, e1, e2, q⟩ := h.so i m e; exact ⟨_, e1, a, rfl, q (hA a), e2⟩
    | ro m => obtain ⟨a, e1, e2, q⟩ := h.sr i m e; exact ⟨_, e1, a, rfl, q, e2⟩
    | io j => obtain ⟨⟨v, e1, e2⟩, q⟩ := h.si i j e; exact ⟨v, e1, e2, q⟩, fun j m e => let ⟨a, e1, e2, q⟩ := h.arg j m e; ⟨a, e1, q (hA a), e2⟩, h.mu, h.keep, h.sfresh, h.afp, h.fp, h.root, h.rootH⟩
theorem SRelx.mono {A A' : Addr → Prop} (h : SRelx A b o st σ H) (hA : ∀ a, A a → A' a) : SRelx A' b o st σ H :=
  ⟨h.len, h.sd, fun i m e => let ⟨a, e1, e2, q⟩ := h.so i m e; ⟨a, e1, e2, fun n => q fun z => n (hA a z)⟩, h.sr, h.si, fun j m e => let ⟨a, e1, e2, q⟩ := h.arg j m e; ⟨a, e1, e2, fun n => q fun z => n (hA a z)⟩, h.mu, h.keep, h.sfresh, h.afp, h.fp, h.root, h.rootH⟩
theorem SRelx.put {A : Addr → Prop} (h : SRelx A b o st σ H) {i : Nat} {m0 m : M} {a : Addr} (e0 : st.get i = some m0) (es : σ[i]? = some (some (.ref a))) (q : MR b.K b.Hr H a m) : SRelx (fun c => A c ∧ c ≠ a) b o (st.put i m) σ H := by
  unfold S.get at e0
  cases hd : st.δ[i]? with
  | none => simp only [hd] at e0; cases e0
  | some x =>
    cases x with
    | none => simp only [hd] at e0; cases e0
    | some r =>
      cases r with
      | d x => simp only [hd] at e0; cases e0
      | ro m' => simp only [hd] at e0; cases e0
      | own m' =>
        have ep : st.put i m = { st with δ := st.δ.set i (some (.own m)) } := by simp only [S.put, hd]
        rw [ep]
        obtain ⟨a', e1, e2, _⟩ := h.so i m' hd
        rw [es] at e1
        cases e1
        refine ⟨by simp [h.len], fun k x e => ?_, fun k x e => ?_, fun k x e => ?_, fun k x e => ?_, fun j m e => ?_, h.mu, h.keep, h.sfresh, h.afp, h.fp, h.root, h.rootH⟩
        · rcases get_set e with ⟨rfl, e1⟩ | ⟨hk, e1⟩
          · cases e1
          · exact h.sd k x e1
        · rcases get_set e with ⟨rfl, e1⟩ | ⟨hk, e1⟩
          · cases e1
            exact ⟨a, es, e2, fun _ => q⟩
          · obtain ⟨c, g1, g2, g3⟩ := h.so k x e1
            exact ⟨c, g1, g2, fun n => g3 fun z => n ⟨z, fun y => by rw [y, e2] at g2; cases g2; exact hk rfl⟩⟩
        · rcases get_set e with ⟨rfl, e1⟩ | ⟨hk, e1⟩
          · cases e1
          · exact h.sr k x e1
        · rcases get_set e with ⟨rfl, e1⟩ | ⟨hk, e1⟩
          · cases e1
          · exact h.si k x e1
        · obtain ⟨c, g1, g2, g3⟩ := h.arg j m e
          exact ⟨c, g1, g2, fun n => g3 fun z => n ⟨z, fun y => by rw [y, e2] at g2; cases g2⟩⟩
      | io j =>
        have ep : st.put i m = { st with γ := st.γ.set j (some m) } := by simp only [S.put, hd]
        rw [ep]
        obtain ⟨⟨v, e1, e2⟩, m1, e3⟩ := h.si i j hd
        rw [es] at e1
        cases e1
        obtain ⟨a', e4, e5, _⟩ := h.arg j m1 e3
        rw [e2] at e4
        cases e4
        refine ⟨h.len, h.sd, fun k x e => ?_, h.sr, fun k x e => ?_, fun j' m' e => ?_, h.mu, h.keep, h.sfresh, h.afp, h.fp, h.root, h.rootH⟩
        · obtain ⟨c, g1, g2, g3⟩ := h.so k x e
          exact ⟨c, g1, g2, fun n => g3 fun z => n ⟨z, fun y => by rw [y, e5] at g2; cases g2⟩⟩
        · obtain ⟨g1, m2, g2⟩ := h.si k x e
          refine ⟨g1, ?_⟩
          by_cases z : x = j
          · subst z
            exact ⟨m, by show (st.γ.set x (some m))[x]? = _; rw [List.getElem?_set_self (List.getElem?_eq_some_iff.mp g2).1]⟩
          · exact ⟨m2, by show (st.γ.set j (some m))[x]? = _; rw [List.getElem?_set_ne (Ne.symm z)]; exact g2⟩
        · rcases get_set e with ⟨rfl, e1⟩ | ⟨hk, e1⟩
          · cases e1
            exact ⟨a, e2, e5, fun _ => q⟩
          · obtain ⟨c, g1, g2, g3⟩ := h.arg j' m' e1
            exact ⟨c, g1, g2, fun n => g3 fun z => n ⟨z, fun y => by rw [y, e5] at g2; cases g2; exact hk rfl⟩⟩
theorem get_put {i k : Nat} {m m0 : M} (e : st.get k = some m0) : ∃ m1, (st.put i m).get k = some m1 := by
  unfold S.get at e
  cases hi : st.δ[i]? with
  | none => exact ⟨m0, by simp only [S.put, hi]; exact e⟩
  | some x =>
    cases x with
    | none => exact ⟨m0, by simp only [S.put, hi]; exact e⟩
    | some r =>
      cases r with
      | d _ => exact ⟨m0, by simp only [S.put, hi]; exact e⟩
      | ro _ => exact ⟨m0, by simp only [S.put, hi]; exact e⟩
      | own m' =>
        simp only [S.put, hi]
        by_cases hk : k = i
        · subst hk
          refine ⟨m, ?_⟩
          unfold S.get
          dsimp only
          rw [List.getElem?_set_self (List.getElem?_eq_some_iff.mp hi).1]
        · refine ⟨m0, ?_⟩
          unfold S.get
          dsimp only
          rw [List.getElem?_set_ne (Ne.symm hk)]
          exact e
      | io j =>
        simp only [S.put, hi]
        unfold S.get
        dsimp only
        cases hk : st.δ[k]? with
        | none => rw [hk] at e; cases e
        | some y =>
          rw [hk] at e
          cases y with
          | none => cases e
          | some y =>
            cases y with
            | d _ => cases e
            | ro _ => cases e
            | own m' => exact ⟨m0, e⟩
            | io j' =>
              dsimp only at e ⊢
              by_cases z : j' = j
              · subst z
                cases q : st.γ[j']? with
                | none => rw [q] at e; cases e
                | some w => exact ⟨m, by rw [List.getElem?_set_self (List.getElem?_eq_some_iff.mp q).1]; rfl⟩
              · exact ⟨m0, by rw [List.getElem?_set_ne (Ne.symm z)]; exact e⟩
/-- what is lent comes back -/
theorem back_rel : ∀ {ms : List Md} {rs : List Rs} {fs : List Arg} {vs : List V} {st st' : S} {A : Addr → Prop}, SRelx A b o st σ H → back st ms rs fs = some st' →
    (∀ (p i : Nat), ms[p]? = some Md.w → rs[p]? = some (Rs.var i) → (∃ m, st.get i = some m) ∧ ∃ a, σ[i]? = some (some (V.ref a)) ∧ vs[p]? = some (V.ref a)) →
    (∀ (p : Nat) (m : M) (a : Addr), fs[p]? = some (Arg.io m) → vs[p]? = some (V.ref a) → MR b.K b.Hr H a m) → vs.length = rs.length →
    SRelx (fun c => A c ∧ ∀ (p i : Nat), ms[p]? = some Md.w → rs[p]? = some (Rs.var i) → vs[p]? ≠ some (V.ref c)) b o st' σ H
  | [], [], [], vs, st, st', A, h, e, _, _, _ => by
    cases e
    exact h.mono fun a n => ⟨n, fun p i h1 => by simp at h1⟩
  | .w :: ms, .var i :: rs, .io m :: fs, vs, st, st', A, h, e, hw, hf, hl => by
    cases vs with
    | nil => simp at hl
    | cons v vs =>
      obtain ⟨⟨m0, e0⟩, a, e1, e2⟩ := hw 0 i rfl rfl
      have e2' : v = .ref a := by simpa using e2
      subst e2'
      have h1 := h.put (m := m) e0 e1 (hf 0 m a rfl rfl)
      have h2 := back_rel (vs := vs) h1 (show back (st.put i m) ms rs fs = some st' from e) (fun p k g1 g2 => by
        obtain ⟨⟨mk, g3⟩, c, g4, g5⟩ := hw (p + 1) k (by simpa using g1) (by simpa using g2)
        exact ⟨get_put g3, c, g4, by simpa using g5⟩) (fun p m' a' g1 g2 => hf (p + 1) m' a' (by simpa using g1) (by simpa using g2)) (by simpa using hl)
      refine h2.mono fun c ⟨⟨n1, n2⟩, n3⟩ => ⟨n1, fun p k g1 g2 g3 => ?_⟩
      cases p with
      | zero =>
        have : a = c := by simpa using g3
        exact n2 this.symm
      | succ p => exact n3 p k (by simpa using g1) (by simpa using g2) (by simpa using g3)
  | .w :: ms, .own _ :: rs, .io _ :: fs, vs, st, st', A, h, e, hw, hf, hl => by
    cases vs with
    | nil => simp at hl
    | cons v vs =>
      have h2 := back_rel (vs := vs) h (show back st ms rs fs = some st' from e) (fun p k g1 g2 => by
        obtain ⟨g3, c, g4, g5⟩ := hw (p + 1) k (by simpa using g1) (by simpa using g2)
        exact ⟨g3, c, g4, by simpa using g5⟩) (fun p m' a' g1 g2 => hf (p + 1) m' a' (by simpa using g1) (by simpa using g2)) (by simpa using hl)
      refine h2.mono fun c ⟨n1, n3⟩ => ⟨n1, fun p k g1 g2 g3 => ?_⟩
      cases p with
      | zero => simp at g2
      | succ p => exact n3 p k (by simpa using g1) (by simpa using g2) (by simpa using g3)
  | .v :: ms, r :: rs, _ :: fs, vs, st, st', A, h, e, hw, hf, hl => by
    cases vs with
    | nil => simp at hl
    | cons v vs =>
      have h2 := back_rel (vs := vs) h (show back st ms rs fs = some st' from (by simpa [back] using e)) (fun p k g1 g2 => by
        obtain ⟨g3, c, g4, g5⟩ := hw (p + 1) k (by simpa using g1) (by simpa using g2)
        exact ⟨g3, c, g4, by simpa using g5⟩) (fun p m' a' g1 g2 => hf (p + 1) m' a' (by simpa using g1) (by simpa using g2)) (by simpa using hl)
      refine h2.mono fun c ⟨n1, n3⟩ => ⟨n1, fun p k g1 g2 g3 => ?_⟩
      cases p with
      | zero => simp at g1
      | succ p => exact n3 p k (by simpa using g1) (by simpa using g2) (by simpa using g3)
  | .r :: ms, r :: rs, _ :: fs, vs, st, st', A, h, e, hw, hf, hl => by
    cases vs with
    | nil => simp at hl
    | cons v vs =>
      have h2 := back_rel (vs := vs) h (show back st ms rs fs = some st' from (by simpa [back] using e)) (fun p k g1 g2 => by
        obtain ⟨g3, c, g4, g5⟩ := hw (p + 1) k (by simpa using g1) (by simpa using g2)
        exact ⟨g3, c, g4, by simpa using g5⟩) (fun p m' a' g1 g2 => hf (p + 1) m' a' (by simpa using g1) (by simpa using g2)) (by simpa using hl)
      refine h2.mono fun c ⟨n1, n3⟩ => ⟨n1, fun p k g1 g2 g3 => ?_⟩
      cases p with
      | zero => simp at g1
      | succ p => exact n3 p k (by simpa using g1) (by simpa using g2) (by simpa using g3)
  | [], [], _ :: _, _, _, _, _, _, e, _, _, _ => by simp [back] at e
  | [], _ :: _, _, _, _, _, _, _, e, _, _, _ => by simp [back] at e
  | .v :: _, [], _, _, _, _, _, _, e, _, _, _ => by simp [back] at e
  | .r :: _, [], _, _, _, _, _, _, e, _, _, _ => by simp [back] at e
  | .w :: _, [], _, _, _, _, _, _, e, _, _, _ => by simp [back] at e
  | .v :: _, _ :: _, [], _, _, _, _, _, e, _, _, _ => by simp [back] at e
  | .r :: _, _ :: _, [], _, _, _, _, _, e, _, _, _ => by simp [back] at e
  | .w :: _, .d _ :: _, _, _, _, _, _, _, e, _, _, _ => by simp [back] at e
  | .w :: _, .var _ :: _, [], _, _, _, _, _, e, _, _, _ => by simp [back] at e
  | .w :: _, .var _ :: _, .d _ :: _, _, _, _, _, _, e, _, _, _ => by simp [back] at e
  | .w :: _, .var _ :: _, .ro _ :: _, _, _, _, _, _, e, _, _, _ => by simp [back] at e
  | .w :: _, .own _ :: _, [], _, _, _, _, _, e, _, _, _ => by simp [back] at e
  | .w :: _, .own _ :: _, .d _ :: _, _, _, _, _, _, e, _, _, _ => by simp [back] at e
  | .w :: _, .own _ :: _, .ro _ :: _, _, _, _, _, _, e, _, _, _ => by simp [back] at e
end
end FL
end
section
set_option Elab.async false
set_option linter.all false
set_option maxRecDepth 100000
namespace FL
open PySem PySem.Spec PyProof.Rows L2
section
variable {c : C} {o o1 : Own} {st1 : S} {σ : L2.St} {H H1 : Hp}
theorem XReps.two {Hs : Hp} {o : Own} {H : Hp} : ∀ {rs : List Rs} {vs : List V} {p q : Nat} {m m' : M} {v : V}, XReps c.b Hs o H σ rs vs → rs[p]? = some (Rs.own m) → rs[q]? = some (Rs.own m') → vs[p]? = some v → vs[q]? = some v → p = q
  | [], _, _, _, _, _, _, _, e, _, _, _ => by simp at e
  | r :: rs, _, p, q, m, m', v, ⟨w, us, e, h1, h2, h3⟩, e1, e2, e3, e4 => by
    subst e
    cases p with
    | zero =>
      cases q with
      | zero => rfl
      | succ q =>
        have er : r = .own m := by simpa using e1
        have ew : w = v := by simpa using e3
        subst ew
        exact absurd (by simpa using e4) (h3 m er q m' (by simpa using e2))
    | succ p =>
      cases q with
      | zero =>
        have er : r = .own m' := by simpa using e2
        have ew : w = v := by simpa using e4
        subst ew
        exact absurd (by simpa using e3) (h3 m' er p m (by simpa using e1))
      | succ q => rw [XReps.two (p := p) (q := q) h2 (by simpa using e1) (by simpa using e2) (by simpa using e3) (by simpa using e4)]
open Classical in
noncomputable def ownC (ms : List Md) (vs : List V) : Addr → Option Nat := fun a => if h : ∃ p : Nat, ms[p]? = some Md.w ∧ vs[p]? = some (V.ref a) then some (choose h) else none
theorem ownC_some {ms : List Md} {vs : List V} {a : Addr} {p : Nat} (e : ownC ms vs a = some p) : ms[p]? = some Md.w ∧ vs[p]? = some (V.ref a) := by
  unfold ownC at e
  split at e
  · rename_i h
    have := Classical.choose_spec h
    cases e
    exact this
  · cases e
theorem ownC_none {ms : List Md} {vs : List V} {a : Addr} (h : ∀ p : Nat, ms[p]? = some Md.w → vs[p]? ≠ some (V.ref a)) : ownC ms vs a = none := by
  unfold ownC
  rw [dif_neg]
  rintro ⟨p, h1, h2⟩
  exact h p h1 h2
theorem ownC_is {ms : List Md} {vs : List V} {a : Addr} {p : Nat} (h1 : ms[p]? = some Md.w) (h2 : vs[p]? = some (V.ref a)) (u : ∀ q : Nat, ms[q]? = some Md.w → vs[q]? = some (V.ref a) → q = p) : ownC ms vs a = some p := by
  cases z : ownC ms vs a with
  | none =>
    unfold ownC at z
    rw [dif_pos ⟨p, h1, h2⟩] at z
    cases z
  | some q =>
    obtain ⟨g1, g2⟩ := ownC_some z
    rw [u q g1 g2]
/-- an entry that is lent -/
theorem lent {st : S} {ms : List Md} {rs : List Rs} {args : List Arg} {vs : List V} {p : Nat} {a : Addr} (rel : SRel c.b o st σ H) (rel1 : SRel c.b o1 st1 σ H1) (x : XReps c.b H o1 H1 σ rs vs) (em : mkArgs st1 ms rs = some args) (hm : ms[p]? = some Md.w) (hv : vs[p]? = some (V.ref a)) :
    (∃ m, args[p]? = some (.io m)) ∧ Mut (H1 a) ∧ c.b.Hr a = none ∧ ((∃ i w m, rs[p]? = some (.var i) ∧ st1.get i = some m ∧ σ[i]? = some (some (.ref a)) ∧ o1 a = some w ∧ st1.tgt (.var i) = some w ∧ w ≠ .fz) ∨ (∃ m, rs[p]? = some (.own m) ∧ o1 a = none ∧ H a = none)) := by
  obtain ⟨l1, l2⟩ := mkArgs_len em
  have hp : p < ms.length := (List.getElem?_eq_some_iff.mp hm).1
  have ea : args[p]? = some (args[p]'(by omega)) := List.getElem?_eq_getElem (by omega)
  obtain ⟨m, r, g1, g2, g3⟩ := mkArgs_get em ea
  rw [hm] at g1
  cases g1
  obtain ⟨v, e1, xr⟩ := x.get g2
  rw [hv] at e1
  cases e1
  cases r with
  | d y => simp [mkArg] at g3
  | own m =>
    have g3' : Arg.io m = args[p]'(by omega) := Option.some.inj g3
    obtain ⟨a', e2, q, n, f⟩ := xr
    cases e2
    refine ⟨⟨m, by rw [ea, ← g3']⟩, q.mu, ?_, .inr ⟨m, g2, n, f⟩⟩
    cases z : c.b.Hr a with
    | none => rfl
    | some u => rw [(rel.root a u z).1] at f; cases f
  | var i =>
    cases z : st1.get i with
    | none => simp [mkArg, z] at g3
    | some m =>
      have g3' : Arg.io m = args[p]'(by omega) := by simpa [mkArg, z] using g3
      obtain ⟨a', w, e2, q, n, t, nf⟩ := tgt_own rel1 z
      have xr' : σ[i]? = some (some (.ref a)) := xr
      rw [xr'] at e2
      cases e2
      refine ⟨⟨m, by rw [ea, ← g3']⟩, q.mu, ?_, .inl ⟨i, w, m, g2, z, xr', n, t, nf⟩⟩
      cases zz : c.b.Hr a with
      | none => rfl
      | some u => rw [(rel1.root a u zz).2] at n; cases n
theorem tgt_map {rs : List Rs} {p i : Nat} {w : Ow} (h : rs[p]? = some (.var i)) (t : st1.tgt (.var i) = some w) : (rs.map st1.tgt)[p]? = some (some w) := by
  rw [List.getElem?_map, h, ← t]; rfl
theorem call_pre {st : S} {ms : List Md} {rs : List Rs} {args : List Arg} {vs : List V} (rel : SRel c.b o st σ H) (rel1 : SRel c.b o1 st1 σ H1) (x : XReps c.b H o1 H1 σ rs vs) (em : mkArgs st1 ms rs = some args) (ap : apartB (rs.map st1.tgt) = true) :
    FPre c.b.K c.b.Hr H1 (ownC ms vs) args vs := by
  obtain ⟨l1, l2⟩ := mkArgs_len em
  have uniq : ∀ (p q : Nat) (a : Addr), ms[p]? = some Md.w → vs[p]? = some (V.ref a) → ms[q]? = some Md.w → vs[q]? = some (V.ref a) → q = p := fun p q a h1 h2 h3 h4 => by
    obtain ⟨_, _, _, L1⟩ := lent rel rel1 x em h1 h2
    obtain ⟨_, _, _, L2⟩ := lent rel rel1 x em h3 h4
    rcases L1 with ⟨i, w, m, g1, _, _, g4, g5, _⟩ | ⟨m, g1, g2, g3⟩
    · rcases L2 with ⟨i', w', m', f1, _, _, f4, f5, _⟩ | ⟨m', f1, f2, f3⟩
      · rw [g4] at f4
        cases f4
        exact apartB_get ap (tgt_map f1 f5) (tgt_map g1 g5)
      · rw [g4] at f2; cases f2
    · rcases L2 with ⟨i', w', m', f1, _, _, f4, f5, _⟩ | ⟨m', f1, f2, f3⟩
      · rw [g2] at f4; cases f4
      · exact x.two f1 g1 h4 h2
  refine ⟨by rw [x.len, l1], fun p a v e1 e2 => ?_, fun b p e => ?_, fun k u e => ⟨(rel1.root k u e).1, ownC_none fun p h1 h2 => ?_⟩⟩
  · obtain ⟨m, r, g1, g2, g3⟩ := mkArgs_get em e1
    obtain ⟨v', e3, xr⟩ := x.get g2
    rw [e2] at e3
    cases e3
    cases m with
    | v =>
      cases r with
      | d y => have : Arg.d y = a := Option.some.inj g3; subst this; exact xr
      | own _ => simp [mkArg] at g3
      | var _ => simp [mkArg] at g3
    | r =>
      cases r with
      | d y => have : Arg.d y = a := Option.some.inj g3; subst this; exact xr
      | own m0 =>
        have g3' : Arg.ro m0 = a := Option.some.inj g3
        subst g3'
        obtain ⟨ad, rfl, q, n, f⟩ := xr
        refine ⟨ad, rfl, q, ownC_none fun q' h1 h2 => ?_, ?_⟩
        · obtain ⟨_, _, _, L⟩ := lent rel rel1 x em h1 h2
          rcases L with ⟨i', w', m', f1, _, _, f4, f5, _⟩ | ⟨m', f1, f2, f3⟩
          · rw [n] at f4; cases f4
          · have := x.two f1 g2 h2 e2
            subst this
            rw [g1] at h1; cases h1
        · cases zz : c.b.Hr ad with
          | none => rfl
          | some u => rw [(rel.root ad u zz).1] at f; cases f
      | var i =>
        cases z : st1.der (.var i) with
        | none => simp [mkArg, z] at g3
        | some mm =>
          have g3' : Arg.ro mm = a := by simpa [mkArg, z] using g3
          subst g3'
          obtain ⟨ad, es, q, ow⟩ := der_own rel1 z
          have xr' : σ[i]? = some (some v) := xr
          rw [xr'] at es
          cases es
          refine ⟨ad, rfl, q, ownC_none fun q' h1 h2 => ?_, ?_⟩
          · obtain ⟨_, _, _, L⟩ := lent rel rel1 x em h1 h2
            rcases L with ⟨i', w', m', f1, _, _, f4, f5, f6⟩ | ⟨m', f1, f2, f3⟩
            · rcases ow with ⟨w, g4, g5⟩ | g4
              · rw [g4] at f4
                cases f4
                have := apartB_get ap (tgt_map f1 f5) (tgt_map g2 g5)
                subst this
                rw [g1] at h1; cases h1
              · rw [g4] at f4
                cases f4
                exact f6 rfl
            · rcases ow with ⟨w, g4, g5⟩ | g4
              · rw [g4] at f2; cases f2
              · rw [g4] at f2; cases f2
          · cases zz : c.b.Hr ad with
            | none => rfl
            | some u =>
              have r2 := (rel1.root ad u zz).2
              rcases ow with ⟨w, g4, _⟩ | g4
              · rw [g4] at r2; cases r2
              · rw [g4] at r2; cases r2
    | w =>
      cases r with
      | d y => simp [mkArg] at g3
      | own m0 =>
        have g3' : Arg.io m0 = a := Option.some.inj g3
        subst g3'
        obtain ⟨ad, rfl, q, n, f⟩ := xr
        exact ⟨ad, rfl, q, ownC_is g1 e2 fun q' h1 h2 => uniq p q' ad g1 e2 h1 h2⟩
      | var i =>
        cases z : st1.get i with
        | none => simp [mkArg, z] at g3
        | some m0 =>
          have g3' : Arg.io m0 = a := by simpa [mkArg, z] using g3
          subst g3'
          obtain ⟨ad, w, es, q, _⟩ := tgt_own rel1 z
          have xr' : σ[i]? = some (some v) := xr
          rw [xr'] at es
          cases es
          exact ⟨ad, rfl, q, ownC_is g1 e2 fun q' h1 h2 => uniq p q' ad g1 e2 h1 h2⟩
  · obtain ⟨h1, h2⟩ := ownC_some e
    exact ⟨(lent rel rel1 x em h1 h2).1, h2⟩
  · obtain ⟨_, _, g, _⟩ := lent rel rel1 x em h1 h2
    rw [g] at e; cases e
/-- behind the call -/
theorem call_post {st st' : S} {ms : List Md} {rs : List Rs} {args fin : List Arg} {vs : List V} {H' : Hp} (rel : SRel c.b o st σ H) (rel1 : SRel c.b o1 st1 σ H1) (t1 : Tr o H o1 H1) (x : XReps c.b H o1 H1 σ rs vs) (em : mkArgs st1 ms rs = some args) (ap : apartB (rs.map st1.tgt) = true)
    (po : FPost c.b.K c.b.Hr H1 (ownC ms vs) vs fin H') (eb : back st1 ms rs fin = some st') : SRel c.b o1 st' σ H' ∧ Tr o H o1 H' ∧ TP c.b.K H1 H' := by
  have pre := call_pre rel rel1 x em ap
  have cs : ∀ a, (∃ p, ownC ms vs a = some p ∧ ((∃ i w m, rs[p]? = some (.var i) ∧ st1.get i = some m ∧ σ[i]? = some (some (.ref a)) ∧ o1 a = some w ∧ st1.tgt (.var i) = some w ∧ w ≠ .fz) ∨ (∃ m, rs[p]? = some (.own m) ∧ o1 a = none ∧ H a = none))) ∨ ownC ms vs a = none := fun a => by
    cases z : ownC ms vs a with
    | none => exact .inr rfl
    | some p =>
      obtain ⟨h1, h2⟩ := ownC_some z
      exact .inl ⟨p, rfl, (lent rel rel1 x em h1 h2).2.2.2⟩
  have tp : TP c.b.K H1 H' := by
    have nm : ∀ a u, H1 a = some u → ¬ Mut (some u) → ownC ms vs a = none := fun a u e n => by
      cases z : ownC ms vs a with
      | none => rfl
      | some p => have := pre.mu a p z; rw [e] at this; exact absurd this n
    refine ⟨fun a us q => ?_, fun a us ob e => po.keep a _ e (nm a _ e fun z => z)⟩
    rcases q with ⟨ob, q, d⟩ | q
    · exact .inl ⟨ob, po.keep a _ q (nm a _ q fun z => z), d⟩
    · exact .inr q
  have kept : ∀ a m, MR c.b.K c.b.Hr H1 a m → ownC ms vs a = none → MR c.b.K c.b.Hr H' a m := fun a m q n => by
    cases z : H1 a with
    | none => exact absurd z (Mut.some q.mu)
    | some u => exact q.mono tp ((po.keep a u z n).trans z.symm)
  have rx : SRelx (fun a => ∃ (p i : Nat), ms[p]? = some Md.w ∧ rs[p]? = some (Rs.var i) ∧ vs[p]? = some (V.ref a)) c.b o1 st1 σ H' := by
    refine ⟨rel1.len, fun i y e => ?_, fun i m e => ?_, fun i m e => ?_, fun i j e => ?_, fun j m e => ?_, fun a w e => ?_, fun k u e f => ?_, rel1.sfresh, rel1.afp, fun a f => po.trk a (rel1.fp a f), fun k u e => ?_, rel1.rootH⟩
    · obtain ⟨v, e1, q⟩ := rel1.slot i _ e
      exact ⟨v, e1, At.mono tp y v q⟩
    · obtain ⟨v, e1, a, rfl, q, n⟩ := rel1.slot i _ e
      refine ⟨a, e1, n, fun nA => kept a m q ?_⟩
      rcases cs a with ⟨p, z, L⟩ | z
      · obtain ⟨h1, h2⟩ := ownC_some z
        rcases L with ⟨i', w', m', f1, _⟩ | ⟨m', f1, f2, _⟩
        · exact absurd ⟨p, i', h1, f1, h2⟩ nA
        · rw [n] at f2; cases f2
      · exact z
    · obtain ⟨v, e1, a, rfl, q, n⟩ := rel1.slot i _ e
      refine ⟨a, e1, n, kept a m q ?_⟩
      rcases cs a with ⟨p, z, L⟩ | z
      · rcases L with ⟨i', w', m', f1, _, _, f4, _, f6⟩ | ⟨m', f1, f2, _⟩
        · rw [n] at f4; cases f4; exact absurd rfl f6
        · rw [n] at f2; cases f2
      · exact z
    · obtain ⟨v, e1, q1, q2⟩ := rel1.slot i _ e
      exact ⟨⟨v, e1, q1⟩, q2⟩
    · obtain ⟨a, e1, q, n⟩ := rel1.arg j m e
      refine ⟨a, e1, n, fun nA => kept a m q ?_⟩
      rcases cs a with ⟨p, z, L⟩ | z
      · obtain ⟨h1, h2⟩ := ownC_some z
        rcases L with ⟨i', w', m', f1, _⟩ | ⟨m', f1, f2, _⟩
        · exact absurd ⟨p, i', h1, f1, h2⟩ nA
        · rw [n] at f2; cases f2
      · exact z
    · cases z : ownC ms vs a with
      | some p => exact po.mu a p z
      | none =>
        have mu := rel1.mu a w e
        cases zz : H1 a with
        | none => rw [zz] at mu; exact mu.elim
        | some u => rw [po.keep a u zz z]; rw [zz] at mu; exact mu
    · refine po.keep k u (rel1.keep k u e f) ?_
      rcases cs k with ⟨p, z, L⟩ | z
      · rcases L with ⟨i', w', m', f1, _, _, f4, _, f6⟩ | ⟨m', f1, f2, f3⟩
        · cases w' with
          | slot i2 => rw [rel1.sfresh k i2 f4] at e; cases e
          | arg j2 => rcases rel1.afp k j2 f4 with z | z
                      · rw [z] at e; cases e
                      · exact absurd z f
          | fz => exact absurd rfl f6
        · rw [(rel.fresh0 f3).2] at e; cases e
      · exact z
    · obtain ⟨h1, h2⟩ := pre.root k u e
      exact ⟨po.keep k u h1 h2, (rel1.root k u e).2⟩
  have r2 := back_rel (vs := vs) rx eb (fun p i h1 h2 => by
    obtain ⟨v, e1, xr⟩ := x.get h2
    have hp : p < args.length := by
      obtain ⟨l1, l2⟩ := mkArgs_len em
      have := (List.getElem?_eq_some_iff.mp h1).1
      omega
    obtain ⟨m, r, g1, g2, g3⟩ := mkArgs_get em (List.getElem?_eq_getElem hp)
    rw [h1] at g1
    cases g1
    rw [h2] at g2
    cases g2
    cases z : st1.get i with
    | none => simp [mkArg, z] at g3
    | some m =>
      obtain ⟨a, es, _⟩ := rel1.get z
      have xr' : σ[i]? = some (some v) := xr
      rw [xr'] at es
      cases es
      exact ⟨⟨m, rfl⟩, a, xr', e1⟩) po.fin (by rw [x.len])
  refine ⟨r2.to fun a ⟨⟨p, i, h1, h2, h3⟩, n⟩ => n p i h1 h2 h3, ⟨fun b u e s => ?_, fun b e => po.trk b (t1.trk b e), t1.own⟩, tp⟩
  obtain ⟨g1, g2⟩ := t1.keep b u e s
  refine ⟨po.keep b u g1 ?_, g2⟩
  rcases cs b with ⟨p, z, L⟩ | z
  · rcases L with ⟨i', w', m', f1, _, _, f4, _, f6⟩ | ⟨m', f1, f2, f3⟩
    · rw [← g2, f4] at s
      rcases s with s | s
      · cases s
      · cases s; exact absurd rfl f6
    · rw [e] at f3; cases f3
  · exact z
end
section
variable {X : Cx} {c : C}
theorem de_callF {x : Str} {f : Addr} {fd : FuncData} {ps : List Str} {k : Nat} {CX : CXT} {F : List Arg → Out} {e : Expr} {es : List Expr} {p pos : Pos} {fa : S → Rz (List Rs)} (ms : List Md) (G : FnOk X.prog X.w X.K X.mg X.base CX k f fd ps (spF c.b.K c.b.Hr c.mg F)) (hr : Room k X.A) (hm : X.mg x = some (.ref f)) (hk : PySem.W.keepIn X.K (.ref f) = true) (hb : Binds X.K fd ps []) (hx : ∀ σ, PassesAt CX X σ (WE c.W σ))
    (ha : DA X c (e :: es) fa) (hg : Gl X x := by rfl) (hdb : (x == ("__debug__" : Str)) = false := by decide) (he : starEach (e :: es) X.env = (false, eval e X.env) :: starEach es X.env := by rfl) (hpl : (backTo pos (starEach es X.env)).any (·.1) = false := by rfl) :
    DE X c (.Call (.Name x p) (e :: es) [] pos) (fCallF F ms fa) := PE.mono (pe_callS G hr hg hm hk hb hx ha hdb he hpl) fun σ H Q ⟨o, st, rel, h⟩ => by
  refine ta_bind (E := fun z => teK c o σ H z Q) rel (Tr.refl o H) teK.e teK.n h fun rs st1 vs H1 o1 rel1 t1 _ x1 h1 => ?_
  cases em : mkArgs st1 ms rs with
  | none => simp only [em] at h1; exact h1.elim
  | some args =>
    simp only [em] at h1
    by_cases ap : apartB (rs.map st1.tgt) = true
    · rw [if_pos ap] at h1
      refine ⟨args, ownC ms vs, call_pre rel rel1 x1 em ap, ?_⟩
      cases z : F args with
      | no => rw [z] at h1; exact h1.elim
      | ret r fin =>
        rw [z] at h1
        dsimp only at h1
        cases eb : back st1 ms rs fin with
        | none => rw [eb] at h1; exact h1.elim
        | some st' =>
          rw [eb] at h1
          intro v H' po ret
          obtain ⟨r2, t2, tp⟩ := call_post rel rel1 t1 x1 em ap po eb
          refine h1 v H' o1 r2 t2 ?_
          cases r with
          | d y => exact ret
          | own m =>
            obtain ⟨a, rfl, q, n⟩ := ret
            refine ⟨a, rfl, q, (rel1.fresh0 n).1, ?_⟩
            cases zz : H a with
            | none => rfl
            | some u => exact absurd n (t1.trk a (by rw [zz]; exact fun z => nomatch z))
          | var _ => exact ret.elim
      | exc ee fin =>
        rw [z] at h1
        dsimp only at h1
        cases eb : back st1 ms rs fin with
        | none => rw [eb] at h1; exact h1.elim
        | some st' =>
          rw [eb] at h1
          intro cls d H' po er
          obtain ⟨r2, t2, tp⟩ := call_post rel rel1 t1 x1 em ap po eb
          exact h1 cls d H' o1 r2 t2 er
    · rw [if_neg ap] at h1; exact h1.elim
theorem pass00 {W : WX} : ∀ σ, PassesAt CX0 X σ (WE W σ) := fun _ _ _ _ _ _ _ h => h.elim
end
end FL
end
section
set_option Elab.async false
set_option linter.all false
set_option maxRecDepth 100000
namespace FL
open PySem PySem.Spec PyProof.Rows L2
/-! ### name op= e -/
def fAug (i : Nat) (g : S → Rs → Rs → Option Rs) (f : S → Rz Rs) : S → Rz Fl := fun st => match st.δ[i]? with
  | some (some (.d x)) => (f st).bind fun y st => match g st (.d x) y with
    | some (.d z) => if i < st.δ.length then .ok .nx { st with δ := st.δ.set i (some (.d z)) } else .no
    | _ => .no
  | _ => .no
theorem ds_aug (i : Nat) {X : Cx} {c : C} {x : Str} {e : Expr} {op : Operator} {r : R2} {g : S → Rs → Rs → Option Rs} {f : S → Rz Rs} {pos' pos : Pos} (hN : X.N.Nodup) (ho : OpR X (inplaceOp op) r) (hs : OpS c r g) (he : DE X c e f) (hi : X.N[i]? = some x := by rfl) (hx : Loc X.env.scope x := by first | exact Or.inl rfl | exact Or.inr rfl)
    (hf : X.fn x = true ∨ X.env.scope.names.lookup x = some .local := by first | exact .inl rfl | exact .inr rfl | assumption) : DS X c (.AugAssign (.Name x pos') op e pos) (fAug i g f) := PS.mono (ps_aug hN hi hx he ho hf) fun D σ H ⟨o, st, rel, h⟩ => by
  unfold fAug at h
  split at h
  · rename_i d hd
    obtain ⟨v, e1, q1⟩ := rel.slot i _ hd
    refine ⟨v, e1, ?_⟩
    refine te_bind (E := fun z => tsK c o H z D) rel (Tr.refl o H) tsK.e tsK.n h fun y st1 u H1 o1 rel1 t1 _ x1 h1 => ?_
    have xd : XRep c.b H o H σ (.d d) v := q1
    cases z : g st1 (.d d) y with
    | none => simp only [z] at h1; exact h1.elim
    | some w =>
      simp only [z] at h1
      cases w with
      | own m => exact h1.elim
      | var k => exact h1.elim
      | d w =>
        dsimp only at h1
        split at h1
        · rename_i hl
          exact hs o1 st1 σ H1 H (.d d) y (.d w) v u _ rel1 t1.trk (xd.step rel t1) x1 z fun w' H2 r2 t2 x2 => h1 _ H2 o1 (r2.setD hl x2) (t1.trans t2)
        · exact h1.elim
  · exact h.elim
/-! ### dicts with plain keys -/
def mGetK (m : M) (k : D) : Option (Option D) := match m with
  | .dicK kvs => (keyK k).map fun k => valA kvs k
  | _ => none
def mPutK (m : M) (k v : D) : Option M := match m with
  | .dicK kvs => if kvs.length < sizeLine then (keyK k).map fun k => .dicK (putA kvs k v) else none
  | _ => none
section
variable {c : C} {o : Own} {st : S} {σ : L2.St} {H Hs : Hp}
theorem mGetK_at {m : M} {k : D} {r : Option D} {a : Addr} {v : V} (q : MR c.b.K c.b.Hr H a m) (hk : At c.b.K c.b.Hr H k v) (e : mGetK m k = some r) :
    ∃ r', DGet H a v r' ∧ (∀ d, r = some d → ∃ w, r' = some w ∧ At c.b.K c.b.Hr H d w) ∧ (r = none → r' = none) := by
  cases m with
  | lst _ => cases e
  | dicT _ => cases e
  | dicK kvs =>
    obtain ⟨ws, h1, h2, h3⟩ := q
    cases z : keyK k with
    | none => simp only [mGetK, z] at e; cases e
    | some kk =>
      simp only [mGetK, z] at e
      cases e
      refine ⟨valV ws kk, by rw [keyK_at hk z]; exact DGet.k h1, (valA_at kk h2 h3).1, (valA_at kk h2 h3).2⟩
theorem mPutK_at {m m' : M} {k d : D} {a : Addr} {v w : V} (q : MR c.b.K c.b.Hr H a m) (hk : At c.b.K c.b.Hr H k v) (hd : At c.b.K c.b.Hr H d w) (e : mPutK m k d = some m') :
    ∃ u, Mut (some u) ∧ DPut H a v w (upd H a u) ∧ MR c.b.K c.b.Hr (upd H a u) a m' := by
  have kt := fun u => tp_write (K := c.b.K) (u := u) q.mu
  cases m with
  | lst _ => cases e
  | dicT _ => cases e
  | dicK kvs =>
    obtain ⟨ws, h1, h2, h3⟩ := q
    simp only [mPutK] at e
    by_cases hl : kvs.length < sizeLine
    · rw [if_pos hl] at e
      cases z : keyK k with
      | none => rw [z] at e; cases e
      | some kk =>
        rw [z] at e
        cases e
        obtain ⟨g1, g2⟩ := putA_at (k := kk) h2 h3 hd
        have hl' : ws.length < sizeLine := by have := congrArg List.length h2; simp at this; omega
        exact ⟨.dK (putK ws kk w), trivial, by rw [keyK_at hk z]; exact DPut.k h1 hl', _, upd_same, g1, g2.mono (kt _) _ _⟩
    · rw [if_neg hl] at e; cases e
end
def fDNew : S → Rz Rs := fun st => .ok (.own (.dicK [])) st
section
variable {X : Cx} {c : C}
theorem de_dnew {pos : Pos} : DE X c (.Dict [] [] pos) fDNew := PE.mono pe_dnewK fun σ H Q ⟨o, st, rel, h⟩ p n =>
  h (.ref p) _ o (rel.laid n) (Tr.laid n) ⟨p, rfl, ⟨[], upd_same, rfl, .nil⟩, (rel.fresh0 n).1, n⟩
/-- d[k] -/
def fDGet (fo fk : S → Rz Rs) : S → Rz Rs := fun st => (fo st).bind fun x st => (fk st).bind fun k st => match st.der x, k with
  | some m, .d k => match mGetK m k with
    | some (some v) => .ok (.d v) st
    | _ => .no
  | _, _ => .no
theorem de_dget {e i : Expr} {pos : Pos} {fo fk : S → Rz Rs} (hu : X.A.units + 1 < cLine) (ho : DE X c e fo) (hi : DE X c i fk) (hs : NoSl i := by intro _ _; rfl) : DE X c (.Subscript e i pos) (fDGet fo fk) := PE.mono (pe_dget hu ho hi hs) fun σ H Q ⟨o, st, rel, h⟩ => by
  refine te_bind (E := fun z => teK c o σ H z Q) rel (Tr.refl o H) teK.e teK.n h fun x st1 v H1 o1 rel1 t1 _ x1 h1 => ?_
  refine te_bind (E := fun z => teK c o σ H z Q) rel1 t1 teK.e teK.n h1 fun k st2 u H2 o2 rel2 t2 t12 x2 h2 => ?_
  split at h2
  · rename_i m kd e1
    split at h2
    · rename_i w e2
      obtain ⟨a, rfl, q⟩ := rel2.der (x1.step rel1 t2) e1
      obtain ⟨r', g1, g2, g3⟩ := mGetK_at q x2 e2
      obtain ⟨w', rfl, g4⟩ := g2 _ rfl
      exact ⟨a, w', rfl, g1, h2 w' H2 o2 rel2 t12 g4⟩
    · exact h2.elim
  · exact h2.elim
/-- d.get(k, x) -/
def isDK : M → Bool
  | .dicK _ => true
  | _ => false
def fDGet2 (fo fk fx : S → Rz Rs) : S → Rz Rs := fun st => (fo st).bind fun x st => match st.der x with
  | some m0 => if isDK m0 = true then (fk st).bind fun k st => (fx st).bind fun y st => match st.der x, k, y with
    | some m, .d k, .d y => match mGetK m k with
      | some r => .ok (.d (r.getD y)) st
      | none => .no
    | _, _, _ => .no
    else .no
  | none => .no
theorem de_dget2 {o e f : Expr} {apos cpos : Pos} {fo fk fx : S → Rz Rs} (hu : X.A.units + 1 < cLine) (ho : DE X c o fo) (he : DE X c e fk) (hf : DE X c f fx) (m : M2 X o "get" apos e f cpos := by exact ⟨rfl, rfl, rfl, rfl⟩) :
    DE X c (.Call (.Attribute o "get" apos) [e, f] [] cpos) (fDGet2 fo fk fx) := PE.mono (pe_dget2 hu ho he hf m) fun σ H Q ⟨o, st, rel, h⟩ => by
  refine te_bind (E := fun z => teK c o σ H z Q) rel (Tr.refl o H) teK.e teK.n h fun x st1 v H1 o1 rel1 t1 _ x1 h1 => ?_
  split at h1
  · rename_i m0 e0
    split at h1
    · rename_i hk
      obtain ⟨a, rfl, q0⟩ := rel1.der x1 e0
      refine ⟨a, rfl, ?_, ?_⟩
      · cases m0 with
        | lst _ => cases hk
        | dicT _ => cases hk
        | dicK kvs => obtain ⟨ws, g, _⟩ := q0; exact .inl ⟨ws, .inl g⟩
      · refine te_bind (E := fun z => teK c o σ H z Q) rel1 t1 teK.e teK.n h1 fun k st2 u H2 o2 rel2 t2 t12 x2 h2 => ?_
        refine te_bind (E := fun z => teK c o σ H z Q) rel2 t12 teK.e teK.n h2 fun y st3 w H3 o3 rel3 t3 t13 x3 h3 => ?_
        split at h3
        · rename_i m kd yd e1
          split at h3
          · rename_i r e2
            obtain ⟨a', ea, q⟩ := rel3.der ((x1.step rel1 t2).step rel2 t3) e1
            cases ea
            have xk : XRep c.b H1 o3 H3 σ (.d kd) u := x2.step rel2 t3
            obtain ⟨r', g1, g2, g3⟩ := mGetK_at q xk e2
            refine ⟨r', g1, h3 _ H3 o3 rel3 t13 ?_⟩
            cases r with
            | none => rw [g3 rfl]; exact x3
            | some d => obtain ⟨w', rfl, g4⟩ := g2 d rfl; exact g4
          · exact h3.elim
        · exact h3.elim
    · exact h1.elim
  · exact h1.elim
/-- d[k] = v -/
def fDPut (i : Nat) (fk fv : S → Rz Rs) : S → Rz Fl := fun st => (fv st).bind fun v st => match st.get i with
  | none => .no
  | some _ => (fk st).bind fun k st => match st.get i, k, v with
    | some m, .d k, .d x => match mPutK m k x with
      | some m' => .ok .nx (st.put i m')
      | none => .no
    | _, _, _ => .no
theorem ds_dput {i : Nat} {o k v : Expr} {p1 pos : Pos} {fk fv : S → Rz Rs} (hu : X.A.units + 1 < cLine) (ho : PE X o (tVar i)) (hk : DE X c k fk) (hv : DE X c v fv) (hs : swapsWith v (some (.Subscript o k p1)) pos.line X.env = pure false := by rfl) :
    DS X c (.Assign [.Subscript o k p1] v pos) (fDPut i fk fv) := PS.mono (ps_dput hu ho hk hv hs) fun D σ H ⟨ow, st, rel, h⟩ => by
  refine te_bind (E := fun z => tsK c ow H z D) rel (Tr.refl ow H) tsK.e tsK.n h fun y st1 v H1 o1 rel1 t1 _ x1 h1 => ?_
  cases e0 : st1.get i with
  | none => simp only [e0] at h1; exact h1.elim
  | some m0 =>
    simp only [e0] at h1
    obtain ⟨a, es, q0, _⟩ := rel1.get e0
    refine ⟨.ref a, es, ?_⟩
    refine te_bind (E := fun z => tsK c ow H z D) rel1 t1 tsK.e tsK.n h1 fun kk st2 u H2 o2 rel2 t2 t12 x2 h2 => ?_
    cases e1 : st2.get i with
    | none => simp only [e1] at h2; exact h2.elim
    | some m =>
      obtain ⟨a', es2, q1, _⟩ := rel2.get e1
      rw [es] at es2
      cases es2
      simp only [e1] at h2
      split at h2
      · rename_i m1 n d heq
        cases heq
        split at h2
        · rename_i m' hm'
          have x1' := x1.step rel1 t2
          obtain ⟨u', mu, g1, g2⟩ := mPutK_at q1 x2 x1' hm'
          obtain ⟨r3, t3⟩ := rel2.put e1 es mu g2
          exact ⟨a, _, rfl, g1, h2 σ _ o2 r3 (t12.trans t3)⟩
        · exact h2.elim
      · exact h2.elim
/-- d[k] op= v -/
def fDAug (i : Nat) (g : S → Rs → Rs → Option Rs) (fk fv : S → Rz Rs) : S → Rz Fl := fun st => match st.get i with
  | none => .no
  | some _ => (fk st).bind fun k st => match st.get i, k with
    | some m, .d k => match mGetK m k with
      | some (some x) => (fv st).bind fun y st => match g st (.d x) y with
        | some (.d z) => match st.get i with
          | some m => match mPutK m k z with
            | some m' => .ok .nx (st.put i m')
            | none => .no
          | none => .no
        | _ => .no
      | _ => .no
    | _, _ => .no
theorem ds_daug {i : Nat} {o k v : Expr} {op : Operator} {r : R2} {g : S → Rs → Rs → Option Rs} {p1 pos : Pos} {fk fv : S → Rz Rs} (hu : X.A.units + 1 < cLine) (ho : PE X o (tVar i)) (hk : DE X c k fk) (hv : DE X c v fv) (hop : OpR X (inplaceOp op) r) (hs : OpS c r g)
    (ha : ∀ ov iv new, augStore k ov iv new = (do holding [new, ov, iv] (setItem ov iv new); release [new, ov, iv] []; pure .next) := by intros; rfl) :
    DS X c (.AugAssign (.Subscript o k p1) op v pos) (fDAug i g fk fv) := PS.mono (ps_daug hu ho hk hv hop ha) fun D σ H ⟨ow, st, rel, h⟩ => by
  unfold fDAug at h
  cases e0 : st.get i with
  | none => simp only [e0] at h; exact h.elim
  | some m0 =>
    simp only [e0] at h
    obtain ⟨a, es, q0, _⟩ := rel.get e0
    refine ⟨.ref a, es, ?_⟩
    refine te_bind (E := fun z => tsK c ow H z D) rel (Tr.refl ow H) tsK.e tsK.n h fun kk st1 u H1 o1 rel1 t1 _ x1 h1 => ?_
    cases e1 : st1.get i with
    | none => simp only [e1] at h1; exact h1.elim
    | some m =>
      obtain ⟨a', es2, q1, _⟩ := rel1.get e1
      rw [es] at es2
      cases es2
      simp only [e1] at h1
      cases kk with
      | own _ => exact h1.elim
      | var _ => exact h1.elim
      | d kd =>
        dsimp only at h1
        split at h1
        · rename_i xd e2
          obtain ⟨r', g1, g2, g3⟩ := mGetK_at q1 x1 e2
          obtain ⟨w', rfl, g4⟩ := g2 _ rfl
          refine ⟨a, w', rfl, g1, ?_⟩
          refine te_bind (E := fun z => tsK c ow H z D) rel1 t1 tsK.e tsK.n h1 fun y st2 w2 H2 o2 rel2 t2 t12 x2 h2 => ?_
          have xo : XRep c.b H1 o2 H2 σ (.d xd) w' := XRep.step (r := .d xd) rel1 t2 g4
          have xk : XRep c.b H1 o2 H2 σ (.d kd) u := XRep.step (r := .d kd) rel1 t2 x1
          cases z : g st2 (.d xd) y with
          | none => simp only [z] at h2; exact h2.elim
          | some w =>
            simp only [z] at h2
            cases w with
            | own _ => exact h2.elim
            | var _ => exact h2.elim
            | d zd =>
              dsimp only at h2
              refine hs o2 st2 σ H2 H1 (.d xd) y (.d zd) w' w2 _ rel2 t2.trk xo x2 z fun w3 H3 r3 t3 x3 => ?_
              cases e3 : st2.get i with
              | none => simp only [e3] at h2; exact h2.elim
              | some m2 =>
                simp only [e3] at h2
                obtain ⟨a', es2, q3, _⟩ := r3.get e3
                rw [es] at es2
                cases es2
                split at h2
                · rename_i m' hm'
                  have xk3 : XRep c.b H1 o2 H3 σ (.d kd) u := XRep.step (r := .d kd) rel2 t3 xk
                  obtain ⟨u', mu, g5, g6⟩ := mPutK_at q3 xk3 x3 hm'
                  obtain ⟨r4, t4⟩ := r3.put e3 es mu g6
                  exact ⟨_, g5, h2 σ _ o2 r4 ((t12.trans t3).trans t4)⟩
                · exact h2.elim
        · exact h1.elim
end
end FL
end
section
set_option Elab.async false
set_option linter.all false
set_option maxRecDepth 100000
set_option maxHeartbeats 2000000
namespace FL
open PySem PySem.Spec PyProof.Rows L2
/-! ### growth -/
section
variable {b : B} {o : Own} {st : S} {σ : L2.St} {H H' : Hp}
theorem sqt_grow {K : PySem.W.Frag} {a : Addr} {vs : List V} (k : ∀ c x, H c = some x → H' c = some x) (q : TqT K H a vs) : TqT K H' a vs := by
  rcases q with ⟨ob, q, d⟩ | q
  · exact .inl ⟨ob, k _ _ q, d⟩
  · exact .inr q
theorem Tr.grow (k : ∀ c x, H c = some x → H' c = some x) : Tr o H o H' :=
  ⟨fun c x e _ => ⟨k c x e, rfl⟩, (fun c hc => by
    cases z : H c with
    | none => exact absurd z hc
    | some x => rw [k c x z]; exact fun q => nomatch q), fun _ _ _ e => .inl e⟩
theorem SRel.grow (h : SRel b o st σ H) (hs : ∀ c x, H c = some x → H' c = some x) : SRel b o st σ H' := by
  have T : Tr o H o H' := Tr.grow hs
  have k := h.tups T
  refine ⟨h.len, fun i r e => ?_, fun j m e => ?_, fun a w e => ?_, fun c x e f => hs _ _ (h.keep c x e f), h.sfresh, h.afp, fun a f => T.trk a (h.fp a f), fun c x e => ⟨hs _ _ (h.root c x e).1, (h.root c x e).2⟩, h.rootH⟩
  · obtain ⟨v, e1, q⟩ := h.slot i r e
    exact ⟨v, e1, q.mono k (fun a x e2 _ => ⟨hs _ _ e2, rfl⟩) fun j m e => ⟨m, e⟩⟩
  · obtain ⟨a, e1, q, n1⟩ := h.arg j m e
    cases z : H a with
    | none => exact absurd z (Mut.some q.mu)
    | some x => exact ⟨a, e1, q.mono k ((hs _ _ z).trans z.symm), n1⟩
  · cases z : H a with
    | none => exact absurd z (Mut.some (h.mu a w e))
    | some x => have := h.mu a w e; rw [z] at this; rw [hs _ _ z]; exact this
end
/-! ### sorted -/
def isort (ns : List Int) : List Int := ns.mergeSort (fun a b => decide (a ≤ b))
theorem isort_perm (ns : List Int) : (isort ns).Perm ns := List.mergeSort_perm ns _
theorem isort_le (ns : List Int) : (isort ns).Pairwise (· ≤ ·) := by
  have h := List.pairwise_mergeSort (le := fun a b : Int => decide (a ≤ b)) (fun a b c h1 h2 => by simp at *; omega) (fun a b => by simp; omega) ns
  exact h.imp fun h => by simpa using h
theorem isort_uniq {ns ms : List Int} (p : ms.Perm ns) (s : ms.Pairwise (· ≤ ·)) : ms = isort ns :=
  (p.trans (isort_perm ns).symm).eq_of_pairwise (fun a b _ _ h1 h2 => by omega) s (isort_le ns)
theorem ints_at {K : PySem.W.Frag} {Hr H : Hp} {ds : List D} {vs : List V} {ns : List Int} (h : AtL K Hr H ds vs) (e : ints? ds = some ns) : vs = ns.map V.int := by
  have := ints?_inv e
  subst this
  exact AtL.ints_inv h
def gSortedI : S → List Rs → Option Rs := fun st xs => match xs with
  | [x] => match st.lst x with
    | some ds => (ints? ds).map fun ns => .own (.lst ((isort ns).map .int))
    | none => none
  | _ => none
theorem cs_sortedI {c : C} : CallS c (rSortedI c.b.K) gSortedI := by
  intro o st σ H Hs xs z vs Q rel hs hx e k
  unfold gSortedI at e
  split at e
  · rename_i x
    split at e
    · rename_i ds hd
      cases z2 : ints? ds with
      | none => rw [z2] at e; cases e
      | some ns =>
        rw [z2] at e
        cases e
        obtain ⟨v, rfl, x1⟩ := xreps1 hx
        obtain ⟨a, ws, rfl, g3, g4⟩ := rel.lst x1 hd
        have e3 := ints_at g4 z2
        subst e3
        refine ⟨a, ns, rfl, g3, fun ns' p pm pw n => ?_⟩
        rw [isort_uniq pm pw]
        exact give_lst rel hs (AtL.ints _) k p n
    · cases e
  · cases e
/-! ### sorted(d), keys ints -/
def rSortDI : List V → Hp → VK → Prop := fun xs H Q => ∃ (a : Addr) (kvs : List (Key × V)) (ks : List Int), xs = [.ref a] ∧ Rd H a (.dK kvs) ∧ kvs.map (·.1) = ks.map Sum.inl ∧
    ∀ (ys : List Int) (p : Addr), ys.Perm ks → ys.Pairwise (· ≤ ·) → H p = none → Q (.ref p) (upd H p (.lst (ys.map V.int)))
theorem cr_sortDI {X : Cx} (hcalm : X.calm = true) : CallR X (.builtin "sorted") rSortDI := by
  intro pins s σ H xs us Q I r q
  obtain ⟨a, kvs, ks, ex, hd, hks, q⟩ := q
  subst ex
  obtain ⟨u, eu, rx⟩ := vals1 r
  subst eu
  cases rx
  obtain ⟨z, lo, vs, rel, dd⟩ := dk_rd I.hok hd
  obtain ⟨ep, hat⟩ := dd.dictAt
  have hkeys : vs.map (·.1) = ks.map Sum.inl := rel.keys.symm.trans hks
  have hl : vs.length = ks.length := by
    have e := congrArg List.length hkeys
    rw [List.length_map, List.length_map] at e
    exact e
  have h16 : vs.length ≤ sizeLine := by rw [← rel.length]; exact z
  refine Calls.call_function_entry PyProof.Rows.kind_sorted PyProof.Rows.plain_sorted PyProof.Rows.entry_sorted (PyProof.Rows.args_sorted1 _) ?_
  unfold Builtin.«sorted»
  refine wpAny_bind (m := checkCount "sorted" 1 1 _) (wpAny_pure ?_)
  refine wpAny_bind (PySem.W.kdu_collect (A := X.A.in1) (PySem.W.kdl_dict (knd := mixKind X.prog X.w) (kvs := vs) (ep := ep) lo) (I.ok.hd hcalm) hat h16 fun h' tk acc hk hacc => ?_)
  have hal : acc.toList.length = ks.length := by rw [Array.length_toList, hacc.1, hl]
  have hS : IntsAre acc.toList ks := ints_each hal fun j v e => by
    obtain ⟨k, x, e1, e2⟩ := hacc.2 j v (by rw [← Array.getElem?_toList]; exact e)
    have e3 : (vs.map (·.1))[j]? = some k := by rw [List.getElem?_map, e1]; rfl
    rw [hkeys, List.getElem?_map] at e3
    cases e4 : ks[j]? with
    | none => rw [e4] at e3; cases e3
    | some y =>
      rw [e4] at e3
      have e5 : Sum.inl y = k := Option.some.inj e3
      subst e5
      rcases keyIs_shape (show keyIs (Sum.inl y) v = true from e2) with ⟨i, t, ek, ev⟩ | ⟨z, t, ek, ev⟩
      · cases ek
        exact ⟨y, t, rfl, ev⟩
      · cases ek
  have I1 : Inv X pins σ H { s with heap := h', toks := tk } := I.kept hk
  refine wpAny_bind (wpAny_newList ?_ (by rw [hal, ← hl]; exact h16))
  have hoL : (h'.push (seqObj "list" acc.toList.toArray 0)).get? h'.objs.size = some (seqObj "list" acc.toList.toArray 0) := Heap.get?_push_size _ rfl
  show wpAny _ _ _ _ _ { s with heap := h'.push (seqObj "list" acc.toList.toArray 0), toks := tk }
  refine wpAny_bind (wpAny_holding (wpAny_call_entry PyProof.Rows.slot_list_sort ⟨_, hoL, rfl⟩ PyProof.Rows.entry_list_sort
    (SrtO.list_sort_ord (s := { s with heap := h'.push (seqObj "list" acc.toList.toArray 0), toks := tk }) SrtO.swo_int hoL (by rw [hal, ← hl]; exact h16) (fun h2 => SrtO.ints_sortable hS h2) fun out h1 h2 => ⟨_, rfl, ?_⟩) (PyProof.Rows.args_list_sort _)))
  obtain ⟨g1, g2, g3⟩ := SrtO.ints_out hS h1 h2
  obtain ⟨e', he'⟩ := PyProof.Rows.sortedHeap_at (vs := acc.toList) (out := out.toArray) hoL
  have hlen : ((out.map SrtO.iv).map V.int).length ≤ sizeLine := by
    rw [List.length_map, g2.length_eq, ← hl]
    exact h16
  refine wpAny_pure ⟨_, rfl, .ref h'.objs.size, upd H h'.objs.size (.lst ((out.map SrtO.iv).map V.int)), I1.laid (t' := tk) (fun b u e => ?_) (Nat.le_refl _)
    (show ObjOk X.prog X.w _ _ _ (.lst ((out.map SrtO.iv).map V.int)) from ⟨hlen, out, e', vals_of_ints g1, he'⟩), rfl, q _ _ g2 g3 (I1.hok.fresh (Nat.le_refl _))⟩
  have hb : b < h'.objs.size := Heap.lt_size e
  rw [PyProof.Rows.sortedHeap_old (Nat.ne_of_lt hb) (by rw [size_push']; exact Nat.lt_succ_of_lt hb)]
  exact Heap.get?_push_of_some _ e
def intKeys : List (Key × D) → Option (List Int)
  | [] => some []
  | (.inl k, _) :: r => (intKeys r).map (k :: ·)
  | _ => none
theorem intKeys_inv : ∀ {kvs : List (Key × D)} {ks : List Int}, intKeys kvs = some ks → kvs.map (·.1) = ks.map Sum.inl
  | [], ks, e => by cases e; rfl
  | (.inl k, _) :: r, ks, e => by
    cases z : intKeys r with
    | none => simp only [intKeys, z] at e; cases e
    | some ks' =>
      simp only [intKeys, z] at e
      cases e
      simp only [List.map_cons, intKeys_inv z]
  | (.inr _, _) :: r, ks, e => by cases e
def gSortDI : S → List Rs → Option Rs := fun st xs => match xs with
  | [x] => match st.der x with
    | some (.dicK kvs) => (intKeys kvs).map fun ks => .own (.lst ((isort ks).map .int))
    | _ => none
  | _ => none
theorem cs_sortDI {c : C} : CallS c rSortDI gSortDI := by
  intro o st σ H Hs xs z vs Q rel hs hx e k
  unfold gSortDI at e
  split at e
  · rename_i x
    split at e
    · rename_i kvs hd
      cases z2 : intKeys kvs with
      | none => rw [z2] at e; cases e
      | some ks =>
        rw [z2] at e
        cases e
        obtain ⟨v, rfl, x1⟩ := xreps1 hx
        obtain ⟨a, rfl, ws, g1, g2, g3⟩ := rel.der x1 hd
        refine ⟨a, ws, ks, rfl, .inl g1, g2.trans (intKeys_inv z2), fun ns' p pm pw n => ?_⟩
        rw [isort_uniq pm pw]
        exact give_lst rel hs (AtL.ints _) k p n
    · cases e
  · cases e
end FL
end
section
set_option Elab.async false
set_option linter.all false
set_option maxRecDepth 100000
set_option maxHeartbeats 2000000
namespace FL
open PySem PySem.Spec PyProof.Rows L2
/-! ### sorted(d.items()): ints to ints -/
abbrev encP (z : Int × Int) : PyData := .tuple [.int z.1, .int z.2]
def psort (ps : List (Int × Int)) : List (Int × Int) := ps.mergeSort (PySem.W.dataLe false encP)
abbrev kvP (z : Int × Int) : Key × V := (Sum.inl z.1, V.int z.2)
def rItemsK : V → List V → Hp → VK → Prop := fun x xs H Q => ∃ (a : Addr) (kvs : List (Key × V)), x = .ref a ∧ xs = [] ∧ H a = some (.dK kvs) ∧ ∀ p, H p = none → Q (.ref p) (upd H p (L2.DX.itemsO p a))
theorem mt_itemsK {X : Cx} : MtR X "dict.items" rItemsK := by
  intro pins s σ H x xs v us Q I rx rxs h
  obtain ⟨a, kvs, rfl, rfl, ha, q⟩ := h
  cases rx
  cases rxs
  obtain ⟨z, hd, vs, rel, dd⟩ := dk_rd I.hok (.inl ha)
  obtain ⟨ep, o, es, ho, hx, hdat, _⟩ := dd.dictAt
  refine DT.callItems (es := es) (ep := ep) hd ⟨o, ho, hx, hdat⟩ ?_
  have hf : H s.heap.objs.size = none := I.hok.fresh (Nat.le_refl _)
  exact ⟨.ref s.heap.objs.size, upd H s.heap.objs.size (L2.DX.itemsO s.heap.objs.size a), I.laid (t' := s.toks) (fun b u e => Heap.get?_push_of_some _ e) (Nat.le_refl _) (L2.DX.itemsO_ok (Heap.get?_push_size _ rfl)), rfl, q _ hf⟩
def rSortItK : List V → Hp → VK → Prop := fun vs H Q => ∃ (p a : Addr) (ps : List (Int × Int)), vs = [.ref p] ∧ H p = some (L2.DX.itemsO p a) ∧ H a = some (.dK (ps.map kvP)) ∧
  ∀ (H' : Hp) (l : Addr) (ts : List Addr), (∀ b o, H b = some o → H' b = some o) → H l = none → H' l = some (.lst (ts.map V.ref)) → Paired (fun (t : Addr) (z : Int × Int) => ∃ o : Obj, H' t = some (.frz o (.tup [.int z.1, .int z.2])) ∧ o.dict = none) ts (psort ps) → Q (.ref l) H'
theorem kvRel {ps : List (Int × Int)} {vs : List (Key × Value)} (r : KV (ps.map kvP) vs) : ∀ {j : Nat} {q : Key × Value}, vs[j]? = some q → ∃ z, ps[j]? = some z ∧ q.1 = Sum.inl z.1 ∧ RelV (.int z.2) q.2 := by
  intro j q e
  obtain ⟨e0, he0, r1, r2⟩ := L2.DX.pget r e
  rw [List.getElem?_map] at he0
  cases hz : ps[j]? with
  | none => rw [hz] at he0; cases he0
  | some z =>
    rw [hz] at he0
    have : kvP z = e0 := Option.some.inj he0
    subst this
    exact ⟨z, rfl, r1.symm, r2⟩
theorem each_refs {as : List Addr} {ps : List (Int × Int)} : ∀ {out : List Value} {bs : List (Int × Int)}, PySem.W.EachIs (fun (v : Value) (z : Int × Int) => ∃ (t : Addr) (j : Nat), v = .ref t ∧ as[j]? = some t ∧ ps[j]? = some z) out bs →
    ∃ ts : List Addr, out = ts.map Value.ref ∧ Paired (fun (t : Addr) (z : Int × Int) => ∃ j : Nat, as[j]? = some t ∧ ps[j]? = some z) ts bs
  | _, _, .nil => ⟨[], rfl, .nil⟩
  | _, _, .cons ⟨t, j, e, h1, h2⟩ r => by
    obtain ⟨ts, e2, q⟩ := each_refs r
    exact ⟨t :: ts, by rw [e, e2]; rfl, .cons ⟨j, h1, h2⟩ q⟩
theorem vals_refs' : ∀ ts : List Addr, Vals (ts.map V.ref) (ts.map Value.ref)
  | [] => .nil
  | _ :: ts => .cons rfl (vals_refs' ts)
theorem paired_mono {α β : Type} {F G : α → β → Prop} : ∀ {as : List α} {bs : List β}, Paired F as bs → (∀ a b, F a b → G a b) → Paired G as bs
  | _, _, .nil, _ => .nil
  | _, _, .cons h t, g => .cons (g _ _ h) (paired_mono t g)
/-- things already laid are tracked -/
theorem takeF {X : Cx} {pins : List (Addr × Obj)} {σ : L2.St} {H0 : Hp} {s : Shared} {h' : Heap} {tk : Nat} {P : Addr → HO → Prop} (I0 : Inv X pins σ H0 s) : ∀ (L : List Addr) (H1 : Hp), Inv X pins σ H1 { s with heap := h', toks := tk } → L.Nodup →
    (∀ a ∈ L, s.heap.objs.size ≤ a ∧ H1 a = none ∧ ∃ u, P a u ∧ ∀ H2, ObjOk X.prog X.w H2 h' a u) →
    ∃ H2, Inv X pins σ H2 { s with heap := h', toks := tk } ∧ (∀ b o, H1 b = some o → H2 b = some o) ∧ ∀ a ∈ L, ∃ u, P a u ∧ H2 a = some u
  | [], H1, I1, _, _ => ⟨H1, I1, fun _ _ e => e, fun _ h => nomatch h⟩
  | a :: L, H1, I1, hn, h => by
    obtain ⟨hb, hnone, u, hP, ok⟩ := h a (List.mem_cons_self ..)
    have I2 : Inv X pins σ (upd H1 a u) { s with heap := h', toks := tk } := I1.take (h' := h') (t' := tk) (fun b ob _ e => e) (I0.fpOk hb hnone) (ok _)
    rw [List.nodup_cons] at hn
    obtain ⟨H2, I3, g, q⟩ := takeF I0 L (upd H1 a u) I2 hn.2 fun c hc => by
      obtain ⟨c1, c2, c3⟩ := h c (List.mem_cons_of_mem _ hc)
      exact ⟨c1, by rw [upd_ne (fun z => hn.1 (by rw [← z]; exact hc))]; exact c2, c3⟩
    refine ⟨H2, I3, fun b o e => g b o (by rw [upd_ne (ne_of_none e hnone)]; exact e), fun c hc => ?_⟩
    rcases List.mem_cons.mp hc with rfl | hc
    · exact ⟨u, hP, g _ _ upd_same⟩
    · exact q c hc
theorem cr_sortItK {X : Cx} (hc : X.calm = true) (hu : X.A.units + 64 < cLine) : CallR X (.builtin "sorted") rSortItK := by
  intro pins s σ H xs us Q I r h
  obtain ⟨p, a, ps, rfl, hp, ha, q⟩ := h
  obtain rfl := Vals.ref1 r
  have view : s.heap.IsItemsView p a := (show ObjOk X.prog X.w H s.heap p (L2.DX.itemsO p a) from I.hok p _ hp).1
  obtain ⟨z, hd, vs, rel, dd⟩ := dk_rd I.hok (.inl ha)
  obtain ⟨ep, o, es, ho, hx, hdat, hko, hpr, hnd⟩ := dd.dictAt
  have l1 : ps.length = vs.length := by have := rel.length; rw [List.length_map] at this; exact this
  have l2 : es.size = vs.length := by rw [← hpr.length]; simp
  have hz : ps.length ≤ sizeLine := by rw [List.length_map] at z; exact z
  have hh : X.A.handled = none := I.ok.hd hc
  refine DT.sortedI (es := es) (ep := ep) hh view ⟨o, ho, hx, hdat⟩ (by omega) fun h' tk as hk hlt hl hG => ?_
  have lak : as.length = ps.length := by omega
  have nd : as.Nodup := List.Pairwise.imp (fun h => Nat.ne_of_lt h) hG.rise
  have pr : ∀ (j : Nat) (b : Addr), as[j]? = some b → ∃ (z : Int × Int) (t1 t2 : Tok), ps[j]? = some z ∧ h'.get? b = some { cls := .type "tuple", data := .seq #[Value.int z.1 t1, Value.int z.2 t2] } := by
    intro j b hj
    obtain ⟨en, he, hg⟩ := hG.pairs j b hj
    have hjl : j < vs.length := by
      have := (List.getElem?_eq_some_iff.mp hj).1
      omega
    obtain ⟨⟨k, v⟩, hv⟩ : ∃ kv, vs[j]? = some kv := ⟨vs[j], List.getElem?_eq_getElem hjl⟩
    obtain ⟨k1, k2⟩ := hpr.get? (by rw [Array.getElem?_toList]; exact he) hv
    obtain ⟨zz, e1, e2, e3⟩ := kvRel rel hv
    have e2' : k = Sum.inl zz.1 := e2
    subst e2'
    rcases keyIs_shape (show keyIs (Sum.inl zz.1) en.key = true from k1) with ⟨i, t, ek, ev⟩ | ⟨_, t, ek, ev⟩
    · cases ek
      obtain ⟨t2, e4⟩ := (show ∃ t, v = Value.int zz.2 t from e3)
      exact ⟨zz, t, t2, e1, by rw [hg, ev, k2, e4]⟩
    · cases ek
  have hob : (h'.push { cls := .type "list", data := .seq (as.map Value.ref).toArray }).get? h'.objs.size = some (seqObj "list" (as.map Value.ref).toArray 0) := Heap.get?_push_size _ rfl
  have kb : ∀ b o, s.heap.get? b = some o → (h'.push { cls := .type "list", data := .seq (as.map Value.ref).toArray }).get? b = some o := fun b o e => Heap.get?_push_of_some _ (hk b o e)
  have ne0 : ∀ b o, h'.get? b = some o → b ≠ h'.objs.size := fun b o e => Nat.ne_of_lt (Heap.lt_size e)
  generalize hh2 : h'.push { cls := .type "list", data := .seq (as.map Value.ref).toArray } = h2 at hob kb ⊢
  have ka : ∀ b o, h'.get? b = some o → h2.get? b = some o := fun b o e => by rw [← hh2]; exact Heap.get?_push_of_some _ e
  have eR : PySem.W.EachIs (fun (v : Value) (z : Int × Int) => ∃ (t : Addr) (j : Nat), v = .ref t ∧ as[j]? = some t ∧ ps[j]? = some z) (as.map Value.ref) ps := by
    refine PySem.W.EachIs.of_zip (by rw [List.length_map]; exact lak) fun w hw => ?_
    obtain ⟨j, hj⟩ := List.mem_iff_getElem?.mp hw
    obtain ⟨j1, j2⟩ := List.getElem?_zip_eq_some.mp hj
    rw [List.getElem?_map] at j1
    cases ej : as[j]? with
    | none => rw [ej] at j1; cases j1
    | some t =>
      rw [ej] at j1
      exact ⟨t, j, (Option.some.inj j1).symm, ej, j2⟩
  have eRd : PySem.W.EachIs (fun (v : Value) (z : Int × Int) => ∃ as', Reads h2 v (encP z) as' ∧ h'.objs.size ∉ as') (as.map Value.ref) ps := eR.mono fun v z ⟨t, j, ev, e1, e2⟩ => by
    obtain ⟨z', t1, t2, e3, e4⟩ := pr j t e1
    have : z' = z := Option.some.inj (e3.symm.trans e2)
    subst this
    subst ev
    exact ⟨_, Reads.tuple (ka _ _ e4) rfl rfl (ReadsAll.cons (Reads.int _ _) (ReadsAll.cons (Reads.int _ _) ReadsAll.nil)), by simp⟩
  refine PySem.W.list_sort_data (s := { s with heap := h2, toks := tk }) (enc := encP) hob eR eRd (PySem.W.AllAlike.of fun b b' => by simp [encP, PySem.W.alike, PySem.W.alikeAll]) (PySem.W.Sortable.tuples fun b => ⟨_, _, rfl⟩) hz (fun b _ => by
    have : (encP b).depth = 1 := by simp [encP, PyData.depth, PyData.depthAll]
    rw [this]
    show X.A.units + 1 + 1 + 1 < cLine
    omega) fun out lo eo => ?_
  obtain ⟨ts, rfl, pt⟩ := each_refs eo
  show EP X pins σ Q (.ref h'.objs.size) { s with heap := sortedHeap h2 h'.objs.size (as.map Value.ref) (List.toArray (ts.map Value.ref)), toks := tk }
  have kF : ∀ b o, b ≠ h'.objs.size → h2.get? b = some o → (sortedHeap h2 h'.objs.size (as.map Value.ref) (List.toArray (ts.map Value.ref))).get? b = some o := fun b o hb e => (PyProof.Rows.sortedHeap_old hb (Heap.lt_size e)).trans e
  have kS : ∀ b o, s.heap.get? b = some o → (sortedHeap h2 h'.objs.size (as.map Value.ref) (List.toArray (ts.map Value.ref))).get? b = some o := fun b o e => kF b o (ne0 _ _ (hk b o e)) (kb b o e)
  obtain ⟨eF, heF⟩ := PyProof.Rows.sortedHeap_at (vs := as.map Value.ref) (out := (ts.map Value.ref).toArray) hob
  have I1 : Inv X pins σ H { s with heap := sortedHeap h2 h'.objs.size (as.map Value.ref) (List.toArray (ts.map Value.ref)), toks := tk } := I.kept (t' := tk) kS
  have hn0 : H h'.objs.size = none := I.hok.fresh (Nat.le_of_lt hlt)
  have hlen : (ts.map V.ref).length ≤ sizeLine := by
    rw [List.length_map] at lo ⊢
    omega
  have I2 : Inv X pins σ (upd H h'.objs.size (.lst (ts.map V.ref))) { s with heap := sortedHeap h2 h'.objs.size (as.map Value.ref) (List.toArray (ts.map Value.ref)), toks := tk } :=
    I1.take (h' := sortedHeap h2 h'.objs.size (as.map Value.ref) (List.toArray (ts.map Value.ref))) (t' := tk) (fun b ob _ e => e) (I.fpOk (Nat.le_of_lt hlt) hn0) ⟨hlen, ts.map Value.ref, eF, vals_refs' ts, heF⟩
  obtain ⟨H2, I3, g, qt⟩ := takeF (P := fun b u => ∃ (j : Nat) (z : Int × Int) (ob : Obj), as[j]? = some b ∧ ps[j]? = some z ∧ u = .frz ob (.tup [V.int z.1, V.int z.2]) ∧ ob.dict = none) I as _ I2 nd fun b hb => by
    obtain ⟨j, hj⟩ := List.mem_iff_getElem?.mp hb
    obtain ⟨zz, t1, t2, hz', hg⟩ := pr j b hj
    have hbl : s.heap.objs.size ≤ b := Nat.le_of_lt (hG.above b hb)
    refine ⟨hbl, ?_, .frz (tupO [Value.int zz.1 t1, Value.int zz.2 t2]) (.tup [V.int zz.1, V.int zz.2]), ⟨j, zz, _, hj, hz', rfl, rfl⟩, fun H3 => tupO_ok (kF _ _ (ne0 _ _ hg) (ka _ _ hg)) rfl (.cons ⟨t1, rfl⟩ (.cons ⟨t2, rfl⟩ .nil)) (by rw [sizeLine_eq]; show 2 ≤ 16777216; omega)⟩
    rw [upd_ne (ne0 _ _ hg)]
    exact I.hok.fresh hbl
  have gr : ∀ b o, H b = some o → H2 b = some o := fun b o e => g b o (by rw [upd_ne (ne_of_none e hn0)]; exact e)
  refine ⟨.ref h'.objs.size, H2, I3, rfl, q H2 h'.objs.size ts gr hn0 (g _ _ upd_same) (paired_mono pt fun t zz ⟨i, i1, i2⟩ => ?_)⟩
  obtain ⟨u, ⟨j, zz', ob, j1, j2, ev, hd⟩, hH⟩ := qt t (List.mem_of_getElem? i1)
  have eij : i = j := (List.getElem?_inj (List.getElem?_eq_some_iff.mp i1).1 nd).mp (i1.trans j1.symm)
  subst eij
  have ee : zz' = zz := Option.some.inj (j2.symm.trans i2)
  subst ee
  exact ⟨ob, by rw [hH, ev], hd⟩
end FL
end
section
set_option Elab.async false
set_option linter.all false
set_option maxRecDepth 100000
set_option maxHeartbeats 2000000
namespace FL
open PySem PySem.Spec PyProof.Rows L2
def intPairs : List (Key × D) → Option (List (Int × Int))
  | [] => some []
  | (.inl k, .int v) :: r => (intPairs r).map ((k, v) :: ·)
  | _ => none
theorem intPairs_inv : ∀ {kvs : List (Key × D)} {ps : List (Int × Int)}, intPairs kvs = some ps → kvs = ps.map fun z => (Sum.inl z.1, .int z.2)
  | [], ps, e => by cases e; rfl
  | (.inl k, .int v) :: r, ps, e => by
    cases z : intPairs r with
    | none => simp only [intPairs, z] at e; cases e
    | some ps' =>
      simp only [intPairs, z] at e
      cases e
      rw [intPairs_inv z]; rfl
  | (.inl k, .none) :: r, ps, e => by cases e
  | (.inl k, .bool _) :: r, ps, e => by cases e
  | (.inl k, .str _) :: r, ps, e => by cases e
  | (.inl k, .tuple _) :: r, ps, e => by cases e
  | (.inl k, .list _) :: r, ps, e => by cases e
  | (.inl k, .dict _) :: r, ps, e => by cases e
  | (.inr _, _) :: r, ps, e => by cases e
theorem kvP_at {K : PySem.W.Frag} {Hr H : Hp} : ∀ {ps : List (Int × Int)} {ws : List (Key × V)}, ws.map (·.1) = ps.map (fun z => (Sum.inl z.1 : Key)) → AtL K Hr H (ps.map fun z => .int z.2) (ws.map (·.2)) → ws = ps.map kvP
  | [], ws, e, _ => by
    cases ws with
    | nil => rfl
    | cons _ _ => simp at e
  | z :: ps, ws, e, q => by
    cases ws with
    | nil => simp at e
    | cons w ws =>
      obtain ⟨k, v⟩ := w
      simp only [List.map_cons, List.cons.injEq] at e
      obtain ⟨v', r, e1, q1, q2⟩ := AtL.cons_inv (show AtL K Hr H (.int z.2 :: ps.map fun z => .int z.2) (v :: ws.map (·.2)) from q)
      cases e1
      rw [kvP_at e.2 q2, q1.int_inv, e.1]
      rfl
theorem atl_pairs {K : PySem.W.Frag} {Hr H : Hp} : ∀ {ts : List Addr} {bs : List (Int × Int)}, Paired (fun (t : Addr) (z : Int × Int) => ∃ o : Obj, H t = some (.frz o (.tup [.int z.1, .int z.2])) ∧ o.dict = none) ts bs → AtL K Hr H (bs.map encP) (ts.map V.ref)
  | _, _, .nil => .nil
  | _, _, .cons h t => .cons (.tup (.inl h) (.cons .int (.cons .int .nil))) (atl_pairs t)
def fSortIt (f : S → Rz Rs) : S → Rz Rs := fun st => (f st).bind fun x st => match st.der x with
  | some (.dicK kvs) => match intPairs kvs with
    | some ps => .ok (.own (.lst ((psort ps).map encP))) st
    | none => .no
  | _ => .no
theorem de_sortIt {X : Cx} {c : C} {o : Expr} {apos cpos p pos : Pos} {f : S → Rz Rs} (hc : X.calm = true) (hu : X.A.units + 64 < cLine) (hg : Gl X "sorted") (hm : X.mg "sorted" = none) (ho : DE X c o f)
    (hbase : attributeBase o "items" X.env (eval o X.env) = eval o X.env := by rfl) (hline : (apos.endLine == cpos.line) = true := by rfl)
    (he : starEach [.Call (.Attribute o "items" apos) [] [] cpos] X.env = (false, eval (.Call (.Attribute o "items" apos) [] [] cpos) X.env) :: starEach [] X.env := by rfl) (hpl : (backTo pos (starEach [] X.env)).any (·.1) = false := by rfl) (hv : bootBuiltins "sorted" = some (.builtin "sorted") := by rfl) :
    DE X c (.Call (.Name "sorted" p) [.Call (.Attribute o "items" apos) [] [] cpos] [] pos) (fSortIt f) :=
  PE.mono (pe_callB (cr_sortItK hc hu) hg hm hv (pa_cons (pe_bm0 PySem.F.plainAttrs_dict PySem.F.slot_dict_items PySem.F.type_dict_items mt_itemsK ho hbase hline) pa_nil (hs := he)) (by decide) (by decide) he hpl) fun σ H Q ⟨o, st, rel, h⟩ => by
  refine te_bind (E := fun z => teK c o σ H z Q) rel (Tr.refl o H) teK.e teK.n h fun x st1 v H1 o1 rel1 t1 _ x1 h1 => ?_
  split at h1
  · rename_i kvs hd
    split at h1
    · rename_i ps hp
      obtain ⟨a, rfl, ws, g1, g2, g3⟩ := rel1.der x1 hd
      have hk := intPairs_inv hp
      subst hk
      have ew : ws = ps.map kvP := kvP_at (by rw [g2, List.map_map]; rfl) (by rw [List.map_map] at g3; exact g3)
      subst ew
      have rel1' := fun {p} n => rel1.laid (p := p) (u := L2.DX.itemsO p a) n
      refine ⟨.inr (.inr (.inl ⟨rfl, .inl ⟨_, g1⟩⟩)), a, _, rfl, rfl, g1, fun p n => ?_⟩
      have ne : a ≠ p := fun z => by rw [z, n] at g1; cases g1
      refine ⟨p, a, ps, rfl, upd_same, by rw [upd_ne ne]; exact g1, fun H' l ts gr hl hH hp => ?_⟩
      have gr1 : ∀ c x, H1 c = some x → H' c = some x := fun c x e => gr c x (upd_some n e)
      have hl1 : H1 l = none := by
        cases z : H1 l with
        | none => rfl
        | some u => rw [upd_some n z] at hl; cases hl
      refine h1 (.ref l) H' o1 (rel1.grow gr1) (t1.trans (Tr.grow gr1)) ⟨l, rfl, ⟨_, hH, atl_pairs hp⟩, (rel1.fresh0 hl1).1, ?_⟩
      cases z : H l with
      | none => rfl
      | some u => exact absurd hl1 (t1.trk l (by rw [z]; exact fun q => nomatch q))
    · exact h1.elim
  · exact h1.elim
end FL
end
section
set_option Elab.async false
set_option linter.all false
set_option maxRecDepth 100000
set_option maxHeartbeats 2000000
namespace FL
open PySem PySem.Spec PyProof.Rows L2
/-! ### dict(xs), xs a list or tuple of pairs -/
theorem TqT.plain {X : Cx} {pins : List (Addr × Obj)} {σ : L2.St} {H : Hp} {s : Shared} {a : Addr} {xs : List V} (I : Inv X pins σ H s) (h : TqT X.K H a xs) : ∃ its : List Value, Vals xs its ∧ PlainSeq "tuple" s.heap a its.toArray ∧ xs.length ≤ sizeLine := by
  obtain ⟨its, rv, ⟨o, ho, hc, n, hd⟩, hz⟩ := I.tuple h.sq
  refine ⟨its, rv, ⟨o, n, ho, hc, ?_, hd⟩, hz⟩
  rcases h with ⟨ob, e, nd⟩ | ⟨ob, _, _, e, _, _, _, _, nd⟩
  · have := (show ObjOk X.prog X.w H s.heap a (.frz ob (.tup xs)) from I.hok a _ e).1
    rw [ho] at this
    cases this
    exact nd
  · have := I.kIn a ob e
    rw [ho] at this
    cases this
    exact nd
def rDictQ (K : PySem.W.Frag) : List V → Hp → VK → Prop := fun xs H Q => ∃ (a : Addr) (ts : List Addr) (kvs : List (Key × V)), xs = [.ref a] ∧ (SqL K H a (ts.map V.ref) ∨ TqT K H a (ts.map V.ref)) ∧ Paired (fun p kv => SqT K H p [kV kv.1, kv.2]) ts kvs ∧
    ∀ p, H p = none → Q (.ref p) (upd H p (.dK (mergeK [] kvs)))
theorem call_dictQ {X : Cx} (hcalm : X.calm = true) : CallR X (.type "dict") (rDictQ X.K) := by
  intro pins s σ H xs us Q I r q
  obtain ⟨a, ts, kvs, ex, hq, hp, q⟩ := q
  rcases hq with hq | hq
  · exact call_dictP hcalm pins s σ H xs us Q I r ⟨a, ts, kvs, ex, hq, hp, q⟩
  · subst ex
    obtain ⟨u, eu, rx⟩ := vals1 r
    subst eu
    cases rx
    obtain ⟨its, rv, pl, hz⟩ := TqT.plain I hq
    have ei := refs_at rv
    subst ei
    rw [List.length_map] at hz
    obtain ⟨prs, rel, hl, hpr⟩ := pairs_of I hp
    have pk : ∀ (j : Nat) (q : Key × Value), prs[j]? = some q → ∃ (b : Addr) (u : Value), ts[j]? = some b ∧ IsTup s.heap b #[u, q.2] ∧ keyIs q.1 u = true := hpr
    obtain ⟨ks, hkl, hks⟩ : ∃ ks : List Value, ks.length = prs.length ∧ ∀ (j : Nat) (q : Key × Value), prs[j]? = some q → ∃ b u, ts[j]? = some b ∧ ks[j]? = some u ∧ IsTup s.heap b #[u, q.2] ∧ keyIs q.1 u = true := by
      clear pl rv rel hp hq hz q
      have : ∀ (prs : List (Key × Value)) (ts : List Addr), (∀ (j : Nat) (q : Key × Value), prs[j]? = some q → ∃ (b : Addr) (u : Value), ts[j]? = some b ∧ IsTup s.heap b #[u, q.2] ∧ keyIs q.1 u = true) → ∃ ks : List Value, ks.length = prs.length ∧ ∀ (j : Nat) (q : Key × Value), prs[j]? = some q → ∃ b u, ts[j]? = some b ∧ ks[j]? = some u ∧ IsTup s.heap b #[u, q.2] ∧ keyIs q.1 u = true := by
        intro prs
        induction prs with
        | nil => exact fun ts _ => ⟨[], rfl, fun j q e => by simp at e⟩
        | cons p prs ih =>
          intro ts h
          obtain ⟨b, u, e1, e2, e3⟩ := h 0 p rfl
          cases ts with
          | nil => cases e1
          | cons t ts =>
            obtain ⟨ks, l, k⟩ := ih ts fun j q e => by
              obtain ⟨b, u, g1, g2, g3⟩ := h (j + 1) q (by simpa using e)
              exact ⟨b, u, by simpa using g1, g2, g3⟩
            refine ⟨u :: ks, by simp [l], fun j q e => ?_⟩
            cases j with
            | zero => cases e; exact ⟨b, u, e1, rfl, e2, e3⟩
            | succ j =>
              obtain ⟨b, u', g1, g2, g3⟩ := k j q (by simpa using e)
              exact ⟨b, u', by simpa using g1, by simpa using g2, g3⟩
      exact this prs ts pk
    let ps : List (Value × Value) := ks.zip (prs.map (·.2))
    have hpl : ps.length = ts.length := by simp [ps, hkl, hl]
    have hpp : PairItems s.heap (ts.map Value.ref).toArray (fun j => ts.getD j 0) ps := by
      refine ⟨by simp [hpl], fun j k v hj => ?_⟩
      obtain ⟨h1, h2⟩ := List.getElem?_zip_eq_some.mp hj
      rw [List.getElem?_map] at h2
      cases hq : prs[j]? with
      | none => rw [hq] at h2; cases h2
      | some q =>
        rw [hq] at h2
        have h2' : q.2 = v := Option.some.inj h2
        obtain ⟨b, u, g1, g2, g3, g4⟩ := hks j q hq
        rw [h1] at g2
        cases g2
        refine ⟨by simp [g1, List.getD_eq_getElem?_getD], .inl ?_⟩
        have eb : ts.getD j 0 = b := by rw [List.getD_eq_getElem?_getD, g1]; rfl
        have h2'' : q.2 = v := h2'
        show s.heap.IsTuple (ts.getD j 0) #[k, v]
        rw [eb, ← h2'']
        exact g3
    refine PySem.call_dict_pairs (knd := mixKind X.prog X.w) (kvs := prs) (PairArg.tuple a (ts.map Value.ref).toArray (fun j => ts.getD j 0) ps) (I.ok.hd hcalm) ⟨pl, hpp⟩ ⟨by rw [hpl, hl], fun i key v rel => ?_⟩ (by rw [hpl]; exact hz) fun h' tk hd' k => ?_
    · obtain ⟨h1, h2⟩ := List.getElem?_zip_eq_some.mp rel
      rw [List.getElem?_map] at h2
      cases hq : prs[i]? with
      | none => rw [hq] at h2; cases h2
      | some q =>
        rw [hq] at h2
        have h2' : q.2 = v := Option.some.inj h2
        obtain ⟨b, u, g1, g2, g3, g4⟩ := hks i q hq
        rw [h1] at g2
        cases g2
        exact ⟨q.1, by rw [← h2'], g4⟩
    · have hm : (s.heap.objs.size == sysModules) = false := beq_eq_false_iff_ne.mpr (Nat.ne_of_gt I.big)
      have hlen : (mergeK [] kvs).length ≤ sizeLine := by
        refine Nat.le_trans (length_mergeK kvs []) ?_
        rw [List.length_nil, Nat.zero_add, rel.length, hl]
        exact hz
      exact ⟨.ref s.heap.objs.size, upd H s.heap.objs.size (.dK (mergeK [] kvs)), I.laid (t' := tk) (fun b o e => k b o (by simp) e) (Nat.le_refl _) (show ObjOk X.prog X.w _ _ _ (.dK (mergeK [] kvs)) from ⟨hlen, hm, merged [] prs, KV.merge rel .nil, hd'⟩), rfl, q _ (I.hok.fresh (Nat.le_refl _))⟩
/-- the pairs of a sequence, as keys and values -/
def pairsOf : List D → Option (List (Key × D))
  | [] => some []
  | .tuple [k, v] :: r => match keyK k, pairsOf r with
    | some k, some r => some ((k, v) :: r)
    | _, _ => none
  | _ => none
theorem pairsOf_at {K : PySem.W.Frag} {Hr H : Hp} : ∀ {ds : List D} {ps : List (Key × D)} {vs : List V}, AtL K Hr H ds vs → pairsOf ds = some ps →
    ∃ (ts : List Addr) (kvs : List (Key × V)), vs = ts.map V.ref ∧ Paired (fun p kv => SqT K H p [kV kv.1, kv.2]) ts kvs ∧ kvs.map (·.1) = ps.map (·.1) ∧ AtL K Hr H (ps.map (·.2)) (kvs.map (·.2))
  | [], ps, vs, h, e => by
    cases e
    exact ⟨[], [], h.nil_inv, .nil, rfl, .nil⟩
  | d :: r, ps, vs, h, e => by
    unfold pairsOf at e
    split at e
    · rename_i e1; cases e1
    · rename_i k v r' e1
      cases e1
      split at e
      · rename_i k' r'' z1 z2
        cases e
        obtain ⟨w, ws, rfl, q, t⟩ := h.cons_inv
        obtain ⟨a, us, rfl, q1, q2⟩ := q.tup_inv
        obtain ⟨u1, us', rfl, q3, q4⟩ := q2.cons_inv
        obtain ⟨u2, us'', rfl, q5, q6⟩ := q4.cons_inv
        have := q6.nil_inv
        subst this
        have ek := keyK_at q3 z1
        subst ek
        obtain ⟨ts, kvs, rfl, g1, g2, g3⟩ := pairsOf_at t z2
        exact ⟨a :: ts, (k', u2) :: kvs, rfl, .cons q1 g1, by simp [g2], .cons q5 g3⟩
      · cases e
    · cases e
def mergeA (kvs more : List (Key × D)) : List (Key × D) := more.foldl (fun acc kv => putA acc kv.1 kv.2) kvs
theorem mergeA_at {K : PySem.W.Frag} {Hr H : Hp} : ∀ {more : List (Key × D)} {mws : List (Key × V)} {kvs : List (Key × D)} {ws : List (Key × V)}, mws.map (·.1) = more.map (·.1) → AtL K Hr H (more.map (·.2)) (mws.map (·.2)) →
    ws.map (·.1) = kvs.map (·.1) → AtL K Hr H (kvs.map (·.2)) (ws.map (·.2)) → (mergeK ws mws).map (·.1) = (mergeA kvs more).map (·.1) ∧ AtL K Hr H ((mergeA kvs more).map (·.2)) ((mergeK ws mws).map (·.2))
  | [], mws, kvs, ws, e, q, e2, q2 => by
    cases mws with
    | nil => exact ⟨e2, q2⟩
    | cons _ _ => simp at e
  | (k, d) :: more, mws, kvs, ws, e, q, e2, q2 => by
    cases mws with
    | nil => simp at e
    | cons w mws =>
      obtain ⟨k', v⟩ := w
      simp only [List.map_cons, List.cons.injEq] at e
      obtain ⟨rfl, e⟩ := e
      obtain ⟨v', r, e1, q3, q4⟩ := AtL.cons_inv (show AtL K Hr H (d :: more.map (·.2)) (v :: mws.map (·.2)) from q)
      cases e1
      obtain ⟨g1, g2⟩ := putA_at (k := k') e2 q2 q3
      exact mergeA_at (kvs := putA kvs k' d) (ws := putK ws k' v) e q4 g1 g2
def gDict : S → List Rs → Option Rs := fun st xs => match xs with
  | [x] => match st.seq x with
    | some ds => (pairsOf ds).map fun ps => .own (.dicK (mergeA [] ps))
    | none => none
  | _ => none
theorem cs_dict {c : C} : CallS c (rDictQ c.b.K) gDict := by
  intro o st σ H Hs xs z vs Q rel hs hx e k
  unfold gDict at e
  split at e
  · rename_i x
    split at e
    · rename_i ds hd
      cases z2 : pairsOf ds with
      | none => rw [z2] at e; cases e
      | some ps =>
        rw [z2] at e
        cases e
        obtain ⟨v, rfl, x1⟩ := xreps1 hx
        obtain ⟨a, ws, rfl, g1, g2⟩ := rel.seq x1 hd
        obtain ⟨ts, kvs, rfl, g3, g4, g5⟩ := pairsOf_at g2 z2
        refine ⟨a, ts, kvs, rfl, g1, g3, fun p n => ?_⟩
        obtain ⟨g6, g7⟩ := mergeA_at (kvs := []) (ws := []) g4 g5 rfl .nil
        refine k (.ref p) _ (rel.laid n) (Tr.laid n) ⟨p, rfl, ⟨_, upd_same, g6, g7.mono (tp_upd n) _ _⟩, (rel.fresh0 n).1, ?_⟩
        cases z : Hs p with
        | none => rfl
        | some u => exact absurd n (hs p (by rw [z]; exact fun q => nomatch q))
    · cases e
  · cases e
end FL
end
section
set_option Elab.async false
set_option linter.all false
set_option maxRecDepth 100000
set_option maxHeartbeats 2000000
namespace FL
open PySem PySem.Spec PyProof.Rows L2
/-! ### enumerate of a tuple -/
section
open PySem.F
theorem meets_enum1 {v : Value} {o : Obj} {H : Heap → Prop} (B : Begins v o H) :
    Meets (Builtin.«enumerate.__new__» ⟨[.type "enumerate", v], []⟩) (fun _ R s => H s.heap ∧
      R (.ok (.ret (.ref (s.heap.push o).objs.size))) { s with heap := (s.heap.push o).push { cls := .type "enumerate", data := .fields #[.none, .bool false, .ref s.heap.objs.size, rawInt 0, .none, .none] } }) :=
  .of_wp fun prog w A R s h => by
    obtain ⟨hp, g, d, tk, os⟩ := s; obtain ⟨h1, h⟩ := h
    have hsub := sub_enumerate
    have q1 : ∀ {A' : Around} {E : Value → Shared → Prop} {Q : Value → Shared → Prop}, Q (.ref hp.objs.size) ⟨hp.push o, g, d, tk, os⟩ → wpAny (model prog w) A' (pyIter v) Q E ⟨hp, g, d, tk, os⟩ :=
      fun q => B.iter prog w _ _ ⟨hp, g, d, tk, os⟩ _ h1 q
    wp_walk using q1
    refine wpAny_stack_any fun st => wpAny_pure ?_
    split
    · rename_i c _ _ _ _ _
      cases (c == Value.type "enumerate")
      · wp_walk using q1
        exact ⟨_, rfl, h⟩
      · wp_walk using q1
        exact ⟨_, rfl, h⟩
    · wp_walk using q1
      exact ⟨_, rfl, h⟩
end
theorem call_enum1 {prog : Program} {w : World} {A : Around} {E : Value → Shared → Prop} {s : Shared} {v : Value} {o : Obj} {H : Heap → Prop} {Q : Value → Shared → Prop} (B : Begins v o H) (h1 : H s.heap)
    (h : ∀ h', IsEnum h' (s.heap.objs.size + 1) s.heap.objs.size 0 .none → h'.get? s.heap.objs.size = some o → h'.objs.size = s.heap.objs.size + 2 →
      (∀ b o, s.heap.get? b = some o → h'.get? b = some o) → Q (.ref (s.heap.objs.size + 1)) { s with heap := h' }) :
    wpAny (model prog w) A (call (.type "enumerate") [v]) Q E s := by
  refine callType_new F.called_enumerate (by decide) (F.typeCall_enumerate_1 _) (F.newCall_enumerate_1 _) (fun obj => F.args_object_init_2 obj _) F.entry_enumerate_new
    (meets_enum1 B) ⟨h1, ?_⟩
  have hz : (s.heap.push o).objs.size = s.heap.objs.size + 1 := Heap.size_push ..
  show _ ∧ _
  rw [hz]
  have he : IsEnum ((s.heap.push o).push { cls := .type "enumerate", data := .fields #[.none, .bool false, .ref s.heap.objs.size, rawInt 0, .none, .none] }) (s.heap.objs.size + 1) s.heap.objs.size 0 .none := by
    have := Heap.get?_push_size (s.heap.push o) (o := { cls := .type "enumerate", data := .fields #[.none, .bool false, .ref s.heap.objs.size, rawInt 0, .none, .none] }) rfl
    rw [hz] at this; exact this
  refine ⟨⟨_, he, rfl⟩, h _ he (Heap.get?_push_of_some _ (Heap.get?_push_size _ B.free)) (by rw [Heap.size_push, hz]) fun b o x => Heap.get?_push_of_some _ (Heap.get?_push_of_some _ x)⟩
def IteT (K : PySem.W.Frag) (a : Addr) : It :=
  ⟨fun i H => ∃ (xs : List V) (x : V), SqT K H a xs ∧ xs[i]? = some x, fun i H v H' => ∃ (T : Addr) (o : Obj) (x : V), v = .ref T ∧ H T = none ∧ o.dict = none ∧ H' = upd H T (.frz o (.tup [.int (i : Nat), x])) ∧ ∀ xs, SqT K H a xs → xs[i]? = some x, fun i H => ∃ xs : List V, SqT K H a xs ∧ xs.length ≤ i⟩
theorem turn_enumT {P : Program} {w : World} {K : PySem.W.Frag} {elts : List Expr} {kk : Nat} {tpos : Pos} (a e it : Addr) :
    Turn P w K (.Tuple elts kk tpos) (IteT K a) [e, it] e (fun i h => (∃ old, IsEnum h e it ((i : Nat) : Int) old) ∧ h.IsTupleIter it a i ∧ e ≠ it) where
  mem := by simp
  obj := fun i h st b hb => by
    obtain ⟨⟨old, he⟩, ⟨o, ho, hc, hd⟩, _⟩ := st
    have e' : b = e ∨ b = it := by simpa using hb
    rcases e' with z | z
    · rw [z]; exact ⟨_, he, fun v q => nomatch q⟩
    · rw [z]; exact ⟨o, ho, fun v q => by rw [hd] at q; cases q⟩
  keep := fun i h h' st k => let ⟨⟨old, he⟩, hi, hne⟩ := st; ⟨⟨old, k e (by simp) _ he⟩, hi.at fun o q => k it (by simp) o q, hne⟩
  item := by
    intro X hP hw hK hc i pins s σ H E I hf st hg
    subst hP hw hK
    obtain ⟨⟨old, he⟩, hit, hne⟩ := st
    obtain ⟨xs, x, hq, hx⟩ := hg
    obtain ⟨its, rv, p, hz⟩ := I.tuple hq
    obtain ⟨u, hu, ru⟩ := rv.get hx
    have hel : e < s.heap.objs.size := Heap.lt_size he
    have hil : it < s.heap.objs.size := by obtain ⟨_, q, _⟩ := hit; exact Heap.lt_size q
    have hai : a ≠ it := fun z => by
      obtain ⟨o1, h1, c1, _⟩ := p
      obtain ⟨o2, h2, c2, _⟩ := hit
      rw [z, h2] at h1
      cases h1
      rw [c2] at c1
      exact absurd c1 (by decide)
    have hae : e ∉ [it, a] := fun z => by
      have e' : e = it ∨ e = a := by simpa using z
      rcases e' with z | z
      · exact hne z
      · obtain ⟨o1, h1, c1, _⟩ := p
        rw [← z, he] at h1
        cases h1
        have c2 : Value.type "enumerate" = Value.type "tuple" := c1
        exact absurd c2 (by decide)
    have hlt : i < its.toArray.size := by
      have := (List.getElem?_eq_some_iff.mp hu).1
      simpa using this
    refine wpAny_pyNext_enum_itemD (Draws.tuple (A := X.A.in1) (I.ok.hd hc) it a hai its.toArray) he ⟨hit, p⟩ hlt hne hae fun y h' tk hy ho hit' hT hsz hk => ?_
    have hy' : its.toArray[i]? = some y := hy
    have hyu : y = u := by
      have h2 : its.toArray[i]? = some u := by simpa using hu
      rw [hy'] at h2
      exact Option.some.inj h2
    subst hyu
    refine ⟨_, rfl, wpAny_letOwnedTupleGo_enum (s := { s with heap := h', toks := tk + 1 }) ho fun h'' he' sb => ?_⟩
    have hT2 : h''.get? s.heap.objs.size = some { cls := .type "tuple", data := .seq #[.int i tk, y] } := (sb.2 _ (Nat.ne_of_gt hel)).trans hT
    have new : ObjOk X.prog X.w (upd H s.heap.objs.size (.frz (tupO [.int i tk, y]) (.tup [.int (i : Nat), x]))) h'' s.heap.objs.size (.frz (tupO [.int i tk, y]) (.tup [.int (i : Nat), x])) :=
      tupO_ok hT2 rfl (.cons ⟨_, rfl⟩ (.cons ru .nil)) (by show 2 ≤ sizeLine; decide)
    have I1 : Inv X pins σ (upd H s.heap.objs.size (.frz (tupO [.int i tk, y]) (.tup [.int (i : Nat), x]))) { s with heap := h'', toks := tk + 1 } :=
      I.turnedNew (ch := [e, it]) (fun b ob hb q => (sb.2 b (fun z => hb (by simp [z]))).trans (hk b ob (fun z => hb (by simp [z])) (fun z => hb (by simp [z])) q)) hf (Nat.le_refl _) new
    refine ⟨.ref s.heap.objs.size, _, I1, rfl, ⟨_, _, x, rfl, I.hok.fresh (Nat.le_refl _), rfl, rfl, fun ys hy => by rw [I.tuple_inj hy hq]; exact hx⟩, ⟨⟨y, ?_⟩, hit'.1.at fun o q => (sb.2 it (Ne.symm hne)).trans q, hne⟩, fun b hb => ?_⟩
    · have e1 : ((i + 1 : Nat) : Int) = (i : Int) + 1 := by omega
      rw [e1]; exact he'
    · have hb' : b < s.heap.objs.size := by
        have e' : b = e ∨ b = it := by simpa using hb
        rcases e' with z | z
        · rw [z]; exact hel
        · rw [z]; exact hil
      rw [upd_ne (Nat.ne_of_lt hb')]
      exact (hf b hb).1
  done := by
    intro X hP hw hK hc i pins s σ H E I hf st hg
    subst hP hw hK
    obtain ⟨⟨old, he⟩, hit, hne⟩ := st
    obtain ⟨xs, hq, hx⟩ := hg
    obtain ⟨its, rv, p, hz⟩ := I.tuple hq
    obtain ⟨f0, f1, f2, f3, f4, f5⟩ := hf it (by simp)
    have hl := rv.length
    have hT : s.TypeIs (.ref e) "enumerate" := ⟨_, he, rfl⟩
    unfold pyNext
    refine wpAny_bind (wpAny_attempt (wpAny_callSpecial?_slot (name := Str.ofString "__next__") hT F.slot_enumerate_next
      (wpAny_call_entry F.slot_enumerate_next hT F.entry_enumerate_next ?_ (F.args_enumerate_next_1 _))))
    show wpAny _ _ (field (.ref e) 2 >>= _) _ _ _
    refine wpAny_bind (wpAny_field he rfl (x := .ref it) rfl ?_)
    refine wpAny_bind (wpAny_nextOf_tuple_end (I.ok.hd hc) hit (show s.heap.IsTuple a its.toArray from p) (by simp; omega) fun h' x he' hx' => ?_)
    obtain ⟨o, ho, hc'⟩ := hx'
    refine wpAny_bind (wpAny_isInstance (T := "StopIteration") (b := true) ⟨o, ho, hc'⟩ isSubtype_stop ?_)
    exact wpAny_pure ⟨rfl, I.turned (t' := s.toks) (fun b o hb q => he' b o hb q) f0 f1 f3 f4 f5⟩
  self := fun A i s Q E st h => let ⟨⟨_, he⟩, _⟩ := st; wpAny_pyIter_enum he h
def iEnumT (K : PySem.W.Frag) (ta : TA) : TI := fun σ H R => ta σ H fun vs H1 => ∃ a xs, vs = [.ref a] ∧ SqT K H1 a xs ∧ R (IteT K a) H1
theorem pi_enumT {X : Cx} {e : Expr} {ta : TA} {p pos tpos : Pos} {elts : List Expr} {kk : Nat} (hg : Gl X "enumerate") (hm : X.mg "enumerate" = none) (ha : PA X [e] ta) (hs : starEach [e] X.env = [(false, eval e X.env)] := by rfl) :
    PI X (.Tuple elts kk tpos) (.Call (.Name "enumerate" p) [e] [] pos) (iEnumT X.K ta) := by
  refine ⟨fun pins s σ H R I h => ?_⟩
  refine Call_ (ld_blt I hg hm boot_enumerate (PyProof.Rows.callWith_type1 (thn (ha.run pos pins s σ H _ I h) fun us s1 ⟨vs, H1, I1, r1, q1⟩ => ?_) hs rfl))
  obtain ⟨a, xs, ex, hq, q⟩ := q1
  subst ex
  cases r1 with
  | cons r rr =>
    cases rr
    cases r
    obtain ⟨its, rv, p', hz⟩ := I1.tuple hq
    refine call_enum1 (begins_tuple a its.toArray) p' fun h' he hit hsz hk => wpAny_pyIter_enum he ?_
    have I2 : Inv X pins σ H1 { s1 with heap := h' } := I1.kept (t' := s1.toks) hk
    refine ⟨s1.heap.objs.size + 1, [s1.heap.objs.size + 1, s1.heap.objs.size], _, _, H1, rfl, I2, turn_enumT a (s1.heap.objs.size + 1) s1.heap.objs.size, ⟨⟨.none, he⟩, ⟨_, hit, rfl, rfl⟩, Nat.succ_ne_self _⟩, fun b hb => ?_, q⟩
    have e' : b = s1.heap.objs.size + 1 ∨ b = s1.heap.objs.size := by simpa using hb
    have hle : s1.heap.objs.size ≤ b := by
      rcases e' with z | z
      · rw [z]; exact Nat.le_add_right _ _
      · rw [z]; exact Nat.le_refl _
    exact I1.fpOk hle (I1.hok.fresh hle)
def enumD (xs : List D) : List D := xs.zipIdx.map fun z => .tuple [.int (z.2 : Nat), z.1]
theorem enumD_get {xs : List D} {i : Nat} {d : D} (e : (enumD xs)[i]? = some d) : ∃ x, xs[i]? = some x ∧ d = .tuple [.int (i : Nat), x] := by
  unfold enumD at e
  rw [List.getElem?_map, List.getElem?_zipIdx] at e
  cases z : xs[i]? with
  | none => rw [z] at e; cases e
  | some x =>
    rw [z] at e
    simp at e
    exact ⟨x, rfl, e.symm⟩
theorem walks_enum {c : C} (a : Addr) (vs : List V) (xs : List D) : Walks c (IteT c.b.K a) (enumD xs) (fun o H => TqT c.b.K H a vs ∧ AtL c.b.K c.b.Hr H xs vs) where
  stay := fun rel ⟨h1, h2⟩ t => ⟨rel.tups t _ _ h1, h2.mono (rel.tups t) _ _⟩
  go := fun {o st σ H i} rel ⟨h1, h2⟩ hi => by
    have hi' : i < xs.length := by simpa [enumD] using hi
    have e : xs[i]? = some xs[i] := List.getElem?_eq_getElem hi'
    obtain ⟨v, e1, _⟩ := h2.get e
    exact ⟨vs, v, h1.sq, e1⟩
  yld := fun {o st σ H i v H'} rel ⟨h1, h2⟩ y => by
    obtain ⟨T, ob, x, rfl, n, nd, rfl, y⟩ := y
    refine ⟨rel.laid n, Tr.laid n, fun d e => ?_⟩
    obtain ⟨x', e1, rfl⟩ := enumD_get e
    obtain ⟨w, e2, q⟩ := h2.get e1
    rw [y vs h1.sq] at e2
    cases e2
    exact .tup (.inl ⟨ob, upd_same, nd⟩) (.cons .int (.cons (At.mono (tp_upd n) _ _ q) .nil))
  stop := fun rel ⟨h1, h2⟩ hi => ⟨vs, h1.sq, by rw [h2.len]; simpa [enumD] using hi⟩
  tmp := fun _ _ ⟨h1, h2⟩ mu => ⟨tp_write mu _ _ h1, h2.mono (tp_write mu) _ _⟩
def fEnum (fa : S → Rz (List Rs)) : S → Rz (List D) := fun st => (fa st).bind fun rs st => match rs with
  | [.d (.tuple xs)] => .ok (enumD xs) st
  | _ => .no
theorem di_enum {X : Cx} {c : C} {e : Expr} {p pos tpos : Pos} {elts : List Expr} {kk : Nat} {fa : S → Rz (List Rs)} (hK : X.K = c.b.K) (hg : Gl X "enumerate") (hm : X.mg "enumerate" = none) (ha : DA X c [e] fa) (hs : starEach [e] X.env = [(false, eval e X.env)] := by rfl) :
    DI X c (.Tuple elts kk tpos) (.Call (.Name "enumerate" p) [e] [] pos) (fEnum fa) := PI.mono (pi_enumT hg hm ha hs) fun σ H R ⟨o, st, rel, h⟩ => by
  refine ta_bind (E := fun z => tiK c o σ H z R) rel (Tr.refl o H) (fun _ _ h => h) (fun h => h) h fun xs st1 vs H1 o1 rel1 t1 _ x1 h1 => ?_
  rw [hK]
  split at h1
  · rename_i ds
    obtain ⟨v, rfl, x2⟩ := xreps1 x1
    obtain ⟨a, us, rfl, q1, q2⟩ := At.tup_invT x2
    exact ⟨a, us, rfl, q1.sq, h1 _ H1 o1 _ rel1 t1 (walks_enum a us ds) ⟨q1, q2⟩⟩
  · exact h1.elim
end FL
end
section
set_option Elab.async false
set_option linter.all false
set_option maxRecDepth 100000
set_option maxHeartbeats 2000000
namespace FL
open PySem PySem.Spec PyProof.Rows L2
/-! ### isinstance(x, T), T a built-in type -/
inductive Ty5 where
  | int | bool | str | tuple | list
def Ty5.nm : Ty5 → String
  | .int => "int" | .bool => "bool" | .str => "str" | .tuple => "tuple" | .list => "list"
def isiD : D → Ty5 → Option Bool
  | .none, _ => some false
  | .bool _, .bool => some true
  | .bool _, .int => some true
  | .bool _, _ => some false
  | .int _, .int => some true
  | .int _, _ => some false
  | .str _, .str => some true
  | .str _, _ => some false
  | .tuple _, .tuple => some true
  | .tuple _, _ => some false
  | .list _, .list => some true
  | .list _, _ => some false
  | .dict _, _ => none
def isL : Ty5 → Bool
  | .list => true
  | _ => false
def isiR (st : S) (r : Rs) (T : Ty5) : Option Bool := match r with
  | .d x => isiD x T
  | r => match st.der r with
    | some (.lst _) => some (isL T)
    | _ => none
theorem kit_none (T : Ty5) : kitB "NoneType" T.nm = some false := by cases T <;> decide +kernel
theorem kit_bool (T : Ty5) : kitB "bool" T.nm = some (match T with | .bool => true | .int => true | _ => false) := by cases T <;> decide +kernel
theorem kit_int (T : Ty5) : kitB "int" T.nm = some (match T with | .int => true | _ => false) := by cases T <;> decide +kernel
theorem kit_str (T : Ty5) : kitB "str" T.nm = some (match T with | .str => true | _ => false) := by cases T <;> decide +kernel
theorem kit_tuple (T : Ty5) : kitB "tuple" T.nm = some (match T with | .tuple => true | _ => false) := by cases T <;> decide +kernel
theorem kit_list (T : Ty5) : kitB "list" T.nm = some (match T with | .list => true | _ => false) := by cases T <;> decide +kernel
section
variable {X : Cx} {c : C} {o : Own} {st : S} {σ : L2.St} {H Hs : Hp}
theorem tyx_lst {K : PySem.W.Frag} {Hr H : Hp} {a : Addr} {vs : List V} (root : ∀ c u, Hr c = some u → H c = some u) (q : SqL K Hr a vs) : TyX K H (.ref a) (.type "list") := by
  rcases q with (q | ⟨ob, q⟩) | ⟨o, _, _, e, h, _⟩
  · exact .base (.lst (root _ _ q))
  · exact .base (.frz (root _ _ q))
  · exact .kList e h
theorem tyx_lstF {K : PySem.W.Frag} {Hr H : Hp} {a : Addr} {vs : List V} (root : ∀ c u, Hr c = some u → H c = some u) (q : FqL K Hr H a vs) : TyX K H (.ref a) (.type "list") := by
  rcases q with q | ⟨o, q⟩
  · exact tyx_lst root q
  · exact .base (.frz q)
theorem tyx_tup {K : PySem.W.Frag} {H : Hp} {a : Addr} {vs : List V} (q : TqT K H a vs) : TyX K H (.ref a) (.type "tuple") := by
  rcases q with ⟨ob, q, _⟩ | ⟨o, _, _, e, h, _⟩
  · exact .fTuple q
  · exact .kTuple e h
theorem isi_ok {T : Ty5} {r : Rs} {v : V} {b : Bool} (rel : SRel c.b o st σ H) (x : XRep c.b Hs o H σ r v) (e : isiR st r T = some b) : ∃ t, TyX c.b.K H v t ∧ PySem.W.kitOne c.b.K t (.type T.nm) = some b := by
  have go : ∀ {r : Rs}, XRep c.b Hs o H σ r v → (match st.der r with | some (.lst _) => some (isL T) | _ => none) = some b → ∃ t, TyX c.b.K H v t ∧ PySem.W.kitOne c.b.K t (.type T.nm) = some b := by
    intro r x e
    cases z : st.der r with
    | none => rw [z] at e; cases e
    | some m =>
      rw [z] at e
      cases m with
      | lst ys =>
        obtain ⟨a, rfl, vs, h, q⟩ := rel.der x z
        exact ⟨_, .base (.lst h), kit_ty (by rw [kit_list]; cases T <;> exact e)⟩
      | dicK _ => cases e
      | dicT _ => cases e
  cases r with
  | own m => exact go x e
  | var i => exact go x e
  | d d =>
    have x' : At c.b.K c.b.Hr H d v := x
    have e' : isiD d T = some b := e
    cases d with
    | none => rw [x'.none_inv]; exact ⟨_, .base .non, kit_ty (by rw [kit_none]; cases T <;> exact e')⟩
    | bool y => rw [x'.bool_inv]; exact ⟨_, .base (.bl _), kit_ty (by rw [kit_bool]; cases T <;> exact e')⟩
    | int y => rw [x'.int_inv]; exact ⟨_, .base (.int _), kit_ty (by rw [kit_int]; cases T <;> exact e')⟩
    | str y => rw [x'.str_inv]; exact ⟨_, .base (.str _), kit_ty (by rw [kit_str]; cases T <;> exact e')⟩
    | tuple ds =>
      obtain ⟨a, vs, rfl, q, _⟩ := x'.tup_invT
      exact ⟨_, tyx_tup q, kit_ty (by rw [kit_tuple]; cases T <;> exact e')⟩
    | list ds =>
      obtain ⟨a, vs, rfl, q, _⟩ := x'.lst_inv
      exact ⟨_, tyx_lstF (fun c u e => (rel.root c u e).1) q, kit_ty (by rw [kit_list]; cases T <;> exact e')⟩
    | dict _ => cases e'
def fIsi (T : Ty5) (f : S → Rz Rs) : S → Rz Rs := fun st => (f st).bind fun r st => match isiR st r T with
  | some b => .ok (.d (.bool b)) st
  | none => .no
theorem de_isi (T : Ty5) {e : Expr} {n : Str} {p pos pT : Pos} {f : S → Rz Rs} (hK : X.K = c.b.K) (hg : Gl X "isinstance") (hm : X.mg "isinstance" = none) (hgT : Gl X n) (hmT : X.mg n = none) (hT : bootBuiltins n = some (.type T.nm)) (he : DE X c e f) (hn : n ≠ "__name__" := by decide) (hd : (n == ("__debug__" : Str)) = false := by decide)
    (h1 : starEach [e, .Name n pT] X.env = (false, eval e X.env) :: starEach [.Name n pT] X.env := by rfl) (h2 : starEach [.Name n pT] X.env = (false, eval (.Name n pT) X.env) :: starEach [] X.env := by rfl)
    (hpl : (backTo pos (starEach [.Name n pT] X.env)).any (·.1) = false := by rfl) (hv : bootBuiltins "isinstance" = some (.builtin "isinstance") := by rfl) :
    DE X c (.Call (.Name "isinstance" p) [e, .Name n pT] [] pos) (fIsi T f) :=
  PE.mono (pe_callB call_isi hg hm hv (pa_cons he (pa_cons (pe_bltn (v := .ty T.nm) hgT hmT hT rfl hn hd) pa_nil (hs := h2)) (hs := h1)) (by decide) (by decide) h1 hpl) fun σ H Q ⟨o, st, rel, h⟩ => by
  refine te_bind (E := fun z => teK c o σ H z Q) rel (Tr.refl o H) teK.e teK.n h fun x st1 v H1 o1 rel1 t1 _ x1 h1 => ?_
  split at h1
  · rename_i b hb
    obtain ⟨t, ty, hk⟩ := isi_ok rel1 x1 hb
    exact ⟨v, .ty T.nm, t, _, b, rfl, .ty _, by rw [hK]; exact ty, by rw [hK]; exact hk, h1 _ H1 o1 rel1 t1 At.bl⟩
  · exact h1.elim
end
end FL
end
section
set_option Elab.async false
set_option linter.all false
set_option maxRecDepth 100000
set_option maxHeartbeats 2000000
namespace FL
open PySem PySem.Spec PyProof.Rows L2
section
variable {X : Cx} {c : C} {o : Own} {σ : L2.St} {H Hs : Hp} {st : S}
theorem gs_step {i : Nat} {ks : List Nat} {ts : List Rs → S → Option S} {vs : List V} {Q : L2.St → Hp → Prop} : tgsOf c (i :: ks) (gsName i ts) vs σ H Q → ∃ v us, vs = v :: us ∧ tgsOf c ks ts us (σ.set i (some v)) H Q := fun ⟨os, Hs, o, st, rs, st', rel, t, h0, x, e, k⟩ => by
  unfold gsName at e
  cases rs with
  | nil => cases e
  | cons r rs =>
    obtain ⟨v, us, rfl, x1, x2, x3⟩ := x
    refine ⟨v, us, rfl, ?_⟩
    cases hv : rs.any isVar with
    | true => simp only [hv, if_true] at e; cases e
    | false =>
      simp only [hv, Bool.false_eq_true, if_false] at e
      cases z : gN i r st with
      | none => rw [z] at e; cases e
      | some st1 =>
        rw [z] at e
        refine gN_go (Q := fun σ' H' => tgsOf c ks ts us σ' H' Q) rel t h0 x1 z fun σ' o' r' t' ho hc => ?_
        refine ⟨os, Hs, o', st1, rs, st', r', t', h0, x2.after hv (fun j m a g1 g2 g3 => ho a g3 fun m' em ev => ?_), e, fun σ2 H2 o2 r2 t2 tp hc2 => k σ2 H2 o2 r2 t2 tp (hc.trans hc2)⟩
        exact x3 m' em j m g1 (by rw [g2, ev])
theorem gs_end {vs : List V} {Q : L2.St → Hp → Prop} : tgsOf c [] gsNil vs σ H Q → vs = [] ∧ Q σ H := fun ⟨os, Hs, o, st, rs, st', rel, t, h0, x, e, k⟩ => by
  cases rs with
  | cons _ _ => cases e
  | nil =>
    cases e
    exact ⟨x, k σ H o rel t (TP.refl _ _) (Chg.refl _ _)⟩
theorem par3_of {i j l : Nat} {fa : S → Rz (List Rs)} {D : Ends} : tsOf c (fPar (gsName i (gsName j (gsName l gsNil))) fa) D σ H → tPar3 i j l (taOf c fa) D σ H := fun ⟨o, st, rel, h⟩ => by
  refine ta_bind (E := fun z => tsK c o H z D) rel (Tr.refl o H) tsK.e tsK.n h fun xs st1 vs H1 o1 rel1 t1 _ x1 h1 => ?_
  cases z : gsName i (gsName j (gsName l gsNil)) xs st1 with
  | none => simp only [z] at h1; exact h1.elim
  | some st2 =>
    simp only [z] at h1
    have g0 : tgsOf c [i, j, l] (gsName i (gsName j (gsName l gsNil))) vs σ H1 D.nx := ⟨o, H, o1, st1, xs, st2, rel1, t1, fun a n => (rel.fresh0 n).2, x1, z, fun σ' H' o' r' t' _ _ => h1 σ' H' o' r' t'⟩
    obtain ⟨u, us, rfl, g1⟩ := gs_step g0
    obtain ⟨v, vs, rfl, g2⟩ := gs_step g1
    obtain ⟨w, ws, rfl, g3⟩ := gs_step g2
    obtain ⟨rfl, g4⟩ := gs_end g3
    exact ⟨u, v, w, rfl, g4⟩
theorem ds_par3 (i j l : Nat) {x y z : Str} {a b e : Expr} {px py pz pt pos : Pos} {kt k2 : Nat} {pt2 : Pos} {fa : S → Rz (List Rs)} (hc : X.calm = true) (hN : X.N.Nodup) (ha : DA X c [a, b, e] fa) (hi : X.N[i]? = some x := by rfl) (hj : X.N[j]? = some y := by rfl) (hl : X.N[l]? = some z := by rfl) (hij : i ≠ j := by decide) (hil : i ≠ l := by decide) (hjl : j ≠ l := by decide)
    (hx : X.env.scope.names.lookup x = some .local := by rfl) (hy : X.env.scope.names.lookup y = some .local := by rfl) (hz : X.env.scope.names.lookup z = some .local := by rfl) (hw : swappedStores [.Tuple [.Name x px, .Name y py, .Name z pz] kt pt] (.Tuple [a, b, e] k2 pt2) X.env = pure (some [x, y, z]) := by rfl)
    (hs : swapsWithSole [.Tuple [.Name x px, .Name y py, .Name z pz] kt pt] (.Tuple [a, b, e] k2 pt2) pos.line X.env = pure false := by rfl) : DS X c (.Assign [.Tuple [.Name x px, .Name y py, .Name z pz] kt pt] (.Tuple [a, b, e] k2 pt2) pos) (fPar (gsName i (gsName j (gsName l gsNil))) fa) :=
  PS.mono (ps_par3 hc hN hi hj hl hij hil hjl hx hy hz ha hw hs) fun D σ H h => par3_of h
end
end FL
end
section
set_option Elab.async false
set_option linter.all false
set_option maxRecDepth 100000
set_option maxHeartbeats 2000000
namespace FL
open PySem PySem.Spec PyProof.Rows L2
/-! ### glue: the rules as a program prints them -/
abbrev OX (X : Cx) (c : C) (m : Value → Value → Sem Value) (g : S → Rs → Rs → Option Rs) : Prop := ∃ r, OpR X m r ∧ OpS c r g
abbrev gMul := gOr gMulI gRepL
section
variable {X : Cx} {c : C}
theorem o_add (hK : X.K = c.b.K) : OX X c (binaryOp .Add) gAdd := ops_add hK
theorem o_sub : OX X c (binaryOp .Sub) gSub := ⟨_, op_sub, ops_sub⟩
theorem o_mul : OX X c (binaryOp .Mult) gMul := ⟨_, OpR.or op_mul op_rep, ops_mulI.or ops_repL⟩
theorem o_mod : OX X c (binaryOp .Mod) gMod := ⟨_, op_mod, ops_mod⟩
theorem o_fdiv : OX X c (binaryOp .FloorDiv) gFdiv := ⟨_, op_fdivW, ops_fdiv⟩
theorem o_pow : OX X c (binaryOp .Pow) gPow := ⟨_, op_pow, ops_pow⟩
theorem o_lt : OX X c (compareOp .Lt) gLt := ⟨_, op_lt, ops_lt⟩
theorem o_le : OX X c (compareOp .LtE) gLe := ⟨_, op_le, ops_le⟩
theorem o_gt : OX X c (compareOp .Gt) gGt := ⟨_, op_gt, ops_gt⟩
theorem o_ge : OX X c (compareOp .GtE) gGe := ⟨_, op_ge, ops_ge⟩
theorem o_eq (hK : X.K = c.b.K) (hu : X.A.units + 100 < cLine) : OX X c (compareOp .Eq) (gEqN false) := ⟨_, op_eqP hu, by rw [hK]; exact ops_eqN⟩
theorem o_ne (hK : X.K = c.b.K) (hu : X.A.units + 100 < cLine) : OX X c (compareOp .NotEq) (gEqN true) := ⟨_, op_neP hu, by rw [hK]; exact ops_eqN⟩
theorem o_in (hK : X.K = c.b.K) (hu : X.A.units + 100 < cLine) : OX X c (compareOp .In) (gInN false) := ⟨_, op_inP hu, by rw [hK]; exact ops_inN⟩
theorem o_notin (hK : X.K = c.b.K) (hu : X.A.units + 100 < cLine) : OX X c (compareOp .NotIn) (gInN true) := ⟨_, op_notInP hu, by rw [hK]; exact ops_inN⟩
theorem o_is : OX X c (compareOp .Is) (gIsN false) := ⟨_, op_isN, ops_is⟩
theorem o_isnot : OX X c (compareOp .IsNot) (gIsN true) := ⟨_, op_notN, ops_isnot⟩
theorem i_add : OX X c (inplaceOp .Add) gAddI := ⟨_, iop_add, ops_addI⟩
theorem i_sub : OX X c (inplaceOp .Sub) gSub := ⟨_, iop_sub, ops_sub⟩
theorem i_mul : OX X c (inplaceOp .Mult) gMulI := ⟨_, iop_mul, ops_mulI⟩
theorem i_fdiv : OX X c (inplaceOp .FloorDiv) gFdiv := ⟨_, iop_fdivW, ops_fdiv⟩
theorem d_bin {op : Operator} {a e : Expr} {pos : Pos} {g : S → Rs → Rs → Option Rs} {fa fb : S → Rz Rs} (ho : OX X c (binaryOp op) g) (ha : DE X c a fa) (hb : DE X c e fb) : DE X c (.BinOp a op e pos) (fBin g fa fb) :=
  let ⟨_, h1, h2⟩ := ho; de_op h1 h2 ha hb
theorem d_cmp {op : CmpOp} {a e : Expr} {pos : Pos} {g : S → Rs → Rs → Option Rs} {fa fb : S → Rz Rs} (ho : OX X c (compareOp op) g) (ha : DE X c a fa) (hb : DE X c e fb) (hm : behindInMarks op e = false := by first | rfl | exact nobehind _ (by decide) (by decide)) : DE X c (.Compare a [op] [e] pos) (fBin g fa fb) :=
  let ⟨_, h1, h2⟩ := ho; de_cmp h1 h2 ha hb hm
theorem t_cmp {op : CmpOp} {a e : Expr} {pos : Pos} {g : S → Rs → Rs → Option Rs} {fa fb : S → Rz Rs} (ho : OX X c (compareOp op) g) (ha : DE X c a fa) (hb : DE X c e fb) (hm : behindInMarks op e = false := by first | rfl | exact nobehind _ (by decide) (by decide)) : DT X c (.Compare a [op] [e] pos) (fTest (fBin g fa fb)) :=
  let ⟨_, h1, h2⟩ := ho; dt_cmp h1 h2 ha hb hm
theorem d_chain {op op' : CmpOp} {a e e2 : Expr} {pos : Pos} {g g' : S → Rs → Rs → Option Rs} {fa fb fc : S → Rz Rs} (ho : OX X c (compareOp op) g) (ho' : OX X c (compareOp op') g') (ha : DE X c a fa) (hb : DE X c e fb) (hc : DE X c e2 fc) (hm : lastMarks [op, op'] [e, e2] = false := by rfl) : DE X c (.Compare a [op, op'] [e, e2] pos) (fChain g g' fa fb fc) :=
  let ⟨_, h1, h2⟩ := ho; let ⟨_, h3, h4⟩ := ho'; de_chain h1 h3 h2 h4 ha hb hc hm
theorem t_chain {op op' : CmpOp} {a e e2 : Expr} {pos : Pos} {g g' : S → Rs → Rs → Option Rs} {fa fb fc : S → Rz Rs} (ho : OX X c (compareOp op) g) (ho' : OX X c (compareOp op') g') (ha : DE X c a fa) (hb : DE X c e fb) (hc : DE X c e2 fc) (hm : lastMarks [op, op'] [e, e2] = false := by rfl) : DT X c (.Compare a [op, op'] [e, e2] pos) (fTest (fChain g g' fa fb fc)) :=
  let ⟨_, h1, h2⟩ := ho; let ⟨_, h3, h4⟩ := ho'; dt_chain h1 h3 h2 h4 ha hb hc hm
theorem d_aug (i : Nat) {x : Str} {e : Expr} {op : Operator} {g : S → Rs → Rs → Option Rs} {f : S → Rz Rs} {pos' pos : Pos} (hN : X.N.Nodup) (ho : OX X c (inplaceOp op) g) (he : DE X c e f) (hi : X.N[i]? = some x := by rfl) (hx : Loc X.env.scope x := by first | exact Or.inl rfl | exact Or.inr rfl)
    (hf : X.fn x = true ∨ X.env.scope.names.lookup x = some .local := by first | exact .inl rfl | exact .inr rfl | assumption) : DS X c (.AugAssign (.Name x pos') op e pos) (fAug i g f) := let ⟨_, h1, h2⟩ := ho; ds_aug i hN h1 h2 he hi hx hf
theorem d_daug {i : Nat} {o k v : Expr} {op : Operator} {g : S → Rs → Rs → Option Rs} {p1 pos : Pos} {fk fv : S → Rz Rs} (hu : X.A.units + 1 < cLine) (ho : PE X o (tVar i)) (hk : DE X c k fk) (hv : DE X c v fv) (hop : OX X c (inplaceOp op) g)
    (ha : ∀ ov iv new, augStore k ov iv new = (do holding [new, ov, iv] (setItem ov iv new); release [new, ov, iv] []; pure .next) := by intros; rfl) : DS X c (.AugAssign (.Subscript o k p1) op v pos) (fDAug i g fk fv) := let ⟨_, h1, h2⟩ := hop; ds_daug hu ho hk hv h1 h2 ha
/-- -e -/
def fNeg (f : S → Rz Rs) : S → Rz Rs := fun st => (f st).bind fun x st => match x with
  | .d (.int i) => .ok (.d (.int (-i))) st
  | _ => .no
theorem d_neg {a : Expr} {pos : Pos} {f : S → Rz Rs} (ha : DE X c a f) : DE X c (.UnaryOp .USub a pos) (fNeg f) := PE.mono (pe_un un_neg ha) fun σ H Q ⟨o, st, rel, h⟩ => by
  refine te_bind (E := fun z => teK c o σ H z Q) rel (Tr.refl o H) teK.e teK.n h fun x st1 v H1 o1 rel1 t1 _ x1 h1 => ?_
  split at h1
  · rename_i i
    exact ⟨i, At.int_inv x1, h1 _ H1 o1 rel1 t1 At.int⟩
  · exact h1.elim
end
/-! ### a def by its code alone -/
def noX : Out → Out
  | .exc _ _ => .no
  | z => z
def mkF (p n : Nat) (g : S → Rz Fl) (args : List Arg) : Out := if args.length = p then noX (bodyF n g args) else .no
section
variable {P : Program} {w : World} {K : PySem.W.Frag} {mg : Str → Option Value} {base : Heap}
theorem fun_of {x qual : Str} {s : Stmt} {dvs : List V} {kws : List (Str × V)} {f : Addr} {fd : FuncData} (F : FunD K x qual (defArgs s) (defBody s) (defScope s) dvs kws f fd) : True := trivial
theorem fnM {x qual : Str} {params : Arguments} {body : List Stmt} {scope : Scope} {dvs : List V} {kws : List (Str × V)} {f : Addr} {fd : FuncData} {N ps : List Str} {k : Nat} {Hr : Hp} {g : S → Rz Fl} (F : FunD K x qual params body scope dvs kws f fd) (sc : FnScope N ps scope) (p n : Nat) (hp : ps.length = p) (hn : N.length = n)
    (der : ∀ (cdv : Value) (A : Around) (outer : List Env) (s0 : Shared) (H : Hp) (E : XK) (o : Addr → Option Nat) (vs : List V), Room k (A.deeper (envOfC qual scope s0.heap.objs.size f cdv)) →
      DSs (cxOf CX0 P w K mg base N qual scope f cdv A outer s0 H E).nox (cOf K Hr H mg o vs (fun _ _ _ _ => False)) body g) : FnOk P w K mg base CX0 (k + 1) f fd ps (spF K Hr mg (mkF p n g)) := by
  have hne : ∀ args, mkF p n g args ≠ .no → args.length = ps.length := fun args h => by
    unfold mkF at h
    split at h
    · rename_i e; rw [e, hp]
    · exact absurd rfl h
  refine F.ok sc (fun vs H Q E h => ?_) (fun cdv A outer s0 H vs Q E hr h => ?_)
  · obtain ⟨args, o, pre, q⟩ := h
    rw [pre.len]
    refine hne args fun z => ?_
    rw [z] at q
    exact q
  · obtain ⟨args, o, pre, q⟩ := h
    refine ⟨_, PSs.nox (der cdv A outer s0 H E o vs hr), own0 o args vs, start0 n args, start_rel hn pre, ?_⟩
    have h0 : mkF p n g args ≠ .no := fun z => by rw [z] at q; exact q
    unfold mkF at q h0
    split at q
    · rename_i hl
      rw [if_pos hl] at h0
      unfold bodyF at q h0
      cases z : g (start0 n args) with
      | no => rw [z] at h0; exact absurd rfl h0
      | ex ee st =>
        rw [z] at h0
        dsimp only at h0
        split at h0
        · exact absurd rfl h0
        · exact absurd rfl h0
      | ok fl st =>
        rw [z] at q h0
        cases fl with
        | bk => exact absurd rfl h0
        | ct => exact absurd rfl h0
        | nx =>
          dsimp only at q h0
          by_cases hio : ioOk args st.γ = true
          · rw [if_pos hio] at q
            exact fun σ' H' o' rel t => q .non H' (end_post (n := n) pre rel t (ioOk_inv hio)) At.non
          · rw [if_neg hio] at h0; exact absurd rfl h0
        | rt r =>
          dsimp only at q h0
          by_cases hio : ioOk args st.γ = true
          · rw [if_pos hio] at q h0
            cases zr : st.res r with
            | none => rw [zr] at h0; exact absurd rfl h0
            | some r' =>
              rw [zr] at q
              dsimp only at q
              exact fun v σ' H' o' rel t xr => q v H' (end_post (n := n) pre rel t (ioOk_inv hio)) (end_ret (n := n) (args := args) rel xr zr)
          · rw [if_neg hio] at h0; exact absurd rfl h0
    · exact q.elim
theorem fn_no {k : Nat} {f : Addr} {fd : FuncData} {ps : List Str} {CX : CXT} {Hr : Hp} : FnOk P w K mg base CX k f fd ps (spF K Hr mg fun _ => .no) :=
  ⟨fun vs H Q E h => let ⟨_, _, _, q⟩ := h; q.elim, fun A outer s H args us vs Q E _ _ _ _ h => let ⟨_, _, _, q⟩ := h; q.elim⟩
/-- the law's def: the root heap is the heap at its call -/
def spL (K : PySem.W.Frag) (mg : Str → Option Value) (F : List Arg → Out) : Sp := fun vs H Q E => spF K H mg F vs H Q E
theorem fn_all {k : Nat} {f : Addr} {fd : FuncData} {ps : List Str} {CX : CXT} {F : List Arg → Out} (h : ∀ Hr, FnOk P w K mg base CX k f fd ps (spF K Hr mg F)) : FnOk P w K mg base CX k f fd ps (spL K mg F) :=
  ⟨fun vs H Q E q => (h H).len vs H Q E q, fun A outer s H args us vs Q E hr he hb hv q => (h H).run A outer s H args us vs Q E hr he hb hv q⟩
theorem spL_law {F : List Arg → Out} {ns : List Int} {fin : List Arg} (e : F [.d (.list (ns.map .int))] = .ret (.d (.bool true)) fin) {H : Hp} {a : Addr} (h : SqL K H a (ns.map V.int)) : spL K mg F [.ref a] H (fun v _ => v = .bl true) fun _ _ _ => False := by
  refine ⟨[.d (.list (ns.map .int))], fun _ => none, ⟨rfl, fun p x v e1 e2 => ?_, (fun b p e => by cases e), fun c u e => ⟨e, rfl⟩⟩, ?_⟩
  · cases p with
    | zero =>
      cases e1
      cases e2
      exact .lst (.inl h) (AtL.ints ns)
    | succ p => simp at e1
  · rw [e]
    exact fun v H' _ r => At.bool_inv r
end
/-! ### constants of the module -/
/-- u stands for d among what K holds -/
def datB (K : PySem.W.Frag) : Nat → D → Value → Bool
  | 0, _, _ => false
  | n + 1, .int i, .int j _ => decide (i = j)
  | n + 1, .str x, .str y _ => decide (x = y)
  | n + 1, .none, .none => true
  | n + 1, .bool b, .bool c => b == c
  | n + 1, .tuple ds, .ref a => match K.lookup a with
    | some ⟨.type c, none, .seq its _, _⟩ => decide (c = "tuple") && (decide (its.size ≤ sizeLine) && (decide (its.toList.length = ds.length) && ((ds.zip its.toList).all fun z => datB K n z.1 z.2)))
    | _ => false
  | _, _, _ => false
theorem datB_all {K : PySem.W.Frag} {Hr H : Hp} {n : Nat} (ih : ∀ d u, datB K n d u = true → ∃ v, RelV v u ∧ At K Hr H d v) : ∀ {ds : List D} {us : List Value}, us.length = ds.length → ((ds.zip us).all fun z => datB K n z.1 z.2) = true → ∃ vs, Vals vs us ∧ AtL K Hr H ds vs
  | [], [], _, _ => ⟨[], .nil, .nil⟩
  | [], _ :: _, h, _ => by simp at h
  | _ :: _, [], h, _ => by simp at h
  | d :: ds, u :: us, h, e => by
    simp only [List.zip_cons_cons, List.all_cons, Bool.and_eq_true] at e
    obtain ⟨v, r, q⟩ := ih d u e.1
    obtain ⟨vs, r2, q2⟩ := datB_all ih (by simpa using h) e.2
    exact ⟨v :: vs, .cons r r2, .cons q q2⟩
theorem datB_at {K : PySem.W.Frag} {Hr H : Hp} : ∀ (n : Nat) (d : D) (u : Value), datB K n d u = true → ∃ v, RelV v u ∧ At K Hr H d v
  | 0, _, _, h => by cases h
  | n + 1, d, u, h => by
    unfold datB at h
    split at h
    · rename_i h'; exact absurd h' (by simp)
    · rename_i i j t _
      exact ⟨.int i, ⟨t, by rw [of_decide_eq_true h]⟩, .int⟩
    · rename_i x y t _
      exact ⟨.str x, ⟨t, by rw [of_decide_eq_true h]⟩, .str⟩
    · exact ⟨.non, rfl, .non⟩
    · rename_i b c _
      have : b = c := eq_of_beq h
      exact ⟨.bl b, by rw [this]; rfl, .bl⟩
    · rename_i n' ds a hn
      have hn' : n = n' := by omega
      subst hn'
      split at h
      · rename_i c its m sl e
        simp only [Bool.and_eq_true] at h
        obtain ⟨h1, h2, h3, h4⟩ := h
        obtain ⟨vs, r, q⟩ := datB_all (fun d u => datB_at n d u) (of_decide_eq_true h3) h4
        exact ⟨.ref a, rfl, .tup (.inr ⟨_, its, m, e, congrArg Value.type (of_decide_eq_true h1), rfl, of_decide_eq_true h2, r, rfl⟩) q⟩
      · cases h
    · cases h
def gloD (K : PySem.W.Frag) (x : Str) (d : D) : Bool := match PySem.W.nsIn K mainGlobals x with
  | some (some u) => datB K 4 d u
  | _ => false
theorem d_glo {X : Cx} {c : C} {x : Str} {d : D} {pos : Pos} {h : Heap} (hX : X.K.In h) (hG : h.Ns mainGlobals X.mg) (hK : X.K = c.b.K) (hg : Gl X x) (hd : gloD c.b.K x d = true) (hdb : (x == ("__debug__" : Str)) = false := by decide) : DE X c (.Name x pos) (fC d) := by
  unfold gloD at hd
  split at hd
  · rename_i u e
    obtain ⟨v, r, _⟩ := datB_at (Hr := c.b.Hr) (H := fun _ => none) 4 d u hd
    exact de_glob hg (PySem.W.mg_of hX hG (by rw [hK]; exact e)) r (fun H _ => by
      obtain ⟨v', r', q⟩ := datB_at (Hr := c.b.Hr) (H := H) 4 d u hd
      rw [r.inj r']
      exact q) hdb
  · cases hd
/-! ### the head's hook, with the module's constants -/
abbrev AlX : Type := He.AlD × Bool
def obsX (fa : List He.Fa) (fn : List He.DefD) (cs : List (Str × D)) (K : PySem.W.Frag) : AlX := (He.obsD fa fn K, cs.all fun z => gloD K z.1 z.2)
def SaysX (fa : List He.Fa) (fn : List He.DefD) (cs : List (Str × D)) (K : PySem.W.Frag) : Prop := obsX fa fn cs K = (He.valD fn, true)
def obsXG (n : Nat) (fa : List He.Fa) (fn : List He.DefD) (cs : List (Str × D)) (g : Addr → Option Obj) : AlX := obsX fa fn cs (He.frG g (He.asD g n))
def hookX (n : Nat) (fa : List He.Fa) (fn : List He.DefD) (cs : List (Str × D)) : PySem.W.Hook where
  α := AlX
  obs := fun s => obsXG n fa fn cs s.heap.get?
  val := fun _ => (He.valD fn, true)
  says := fun _ h => ∃ K : PySem.W.Frag, K.In h ∧ SaysX fa fn cs K
  of := fun _ _ e => ⟨_, He.frG_in, e⟩
  keeps := fun _ _ _ ⟨K, hK, c⟩ k => ⟨K, PySem.W.Frag.In.keeps hK k, c⟩
theorem obsXG_eq {n : Nat} {fa : List He.Fa} {fn : List He.DefD} {cs : List (Str × D)} {g : Addr → Option Obj} {s : Shared} (h : ∀ a, g a = s.heap.get? a) : obsXG n fa fn cs g = (hookX n fa fn cs).obs s := by
  have e : g = s.heap.get? := funext h
  rw [e] <;> rfl
section
variable {fa : List He.Fa} {fn : List He.DefD} {cs : List (Str × D)} {K : PySem.W.Frag}
theorem SaysX.d (c : SaysX fa fn cs K) : He.SaysD fa fn K := congrArg (fun z : AlX => z.1) c
theorem SaysX.con (c : SaysX fa fn cs K) (i : Nat) {z : Str × D} (h : cs[i]? = some z := by rfl) : gloD K z.1 z.2 = true := by
  have c1 : (cs.all fun z => gloD K z.1 z.2) = true := congrArg (fun z : AlX => z.2) c
  exact List.all_eq_true.mp c1 z (List.mem_of_getElem? h)
end
end FL
end
section
set_option Elab.async false
set_option linter.all false
set_option maxRecDepth 100000
set_option maxHeartbeats 2000000
namespace FL
open PySem PySem.Spec PyProof.Rows L2
/-! ### a, (b, c), .. = x, y, ..: through a tuple -/
def fParT (n : Nat) (ts : List Rs → S → Option S) (fa : S → Rz (List Rs)) : S → Rz Fl := fun st => (fa st).bind fun rs st => if rs.length = n ∧ n ≤ sizeLine then (match ts rs st with
  | some st' => .ok .nx st'
  | none => .no) else .no
theorem ds_parT {X : Cx} {c : C} {tgs es : List Expr} {kt k2 n : Nat} {pt pt2 pos : Pos} {ks : List Nat} {ts : List Rs → S → Option S} {fa : S → Rz (List Rs)} (hK : X.K = c.b.K) (hc : X.calm = true) (ha : DA X c es fa) (hg : DGs X c tgs ks ts)
    (hn : (assignEach tgs X.env).length = n := by rfl) (hst : (assignEach tgs X.env).findIdx? (·.1) = none := by rfl)
    (hs : swapsWithSole [.Tuple tgs kt pt] (.Tuple es k2 pt2) pos.line X.env = pure false := by rfl) (hw : swappedStores [.Tuple tgs kt pt] (.Tuple es k2 pt2) X.env = pure none := by rfl)
    (h1 : (assignEach [.Tuple tgs kt pt] X.env).map (·.2) = [assign (.Tuple tgs kt pt) X.env] := by rfl) : DS X c (.Assign [.Tuple tgs kt pt] (.Tuple es k2 pt2) pos) (fParT n ts fa) :=
  PS.mono (ps_asg (pe_tupF ha) (pg_tup hc hg hn hst) hs hw h1) fun D σ H ⟨o, st, rel, h⟩ => by
    refine ta_bind (E := fun z => tsK c o H z D) rel (Tr.refl o H) tsK.e tsK.n h fun rs st1 vs H1 o1 rel1 t1 _ x1 h1 => ?_
    split at h1
    · rename_i hl
      cases z : ts rs st1 with
      | none => simp only [z] at h1; exact h1.elim
      | some st2 =>
        simp only [z] at h1
        have lv : vs.length = n := by rw [x1.len]; exact hl.1
        refine ⟨by rw [lv]; exact hl.2, fun p ob nn nd => ⟨p, vs, rfl, .inl (.inr ⟨ob, upd_same⟩), lv, ?_⟩⟩
        have T : Tr o1 H1 o1 (upd H1 p (.frz ob (.tup vs))) := Tr.laid nn
        exact ⟨o, H, o1, st1, rs, st2, rel1.laid nn, t1.trans T, fun a n => (rel.fresh0 n).2, x1.step rel1 T, z, fun σ' H' o' r' t' _ _ => h1 σ' H' o' r' t'⟩
    · exact h1.elim
end FL
end
section
set_option Elab.async false
set_option linter.all false
set_option maxRecDepth 100000
set_option maxHeartbeats 2000000
namespace FL
open PySem PySem.Spec PyProof.Rows L2
/-! ### the built-ins as a program prints them -/
abbrev BX (X : Cx) (c : C) (u : Value) (g : S → List Rs → Option Rs) : Prop := ∃ r, CallR X u r ∧ CallS c r g
abbrev gLenX := gOrC gLen (gOrC gLenS gLenD)
abbrev gMinX := gOrC gMin2 gMin1
abbrev gSorted := gOrC gSortedI gSortDI
section
variable {X : Cx} {c : C}
theorem b_len (hK : X.K = c.b.K) : BX X c (.builtin "len") gLenX := ⟨_, CallR.or call_len_seq (CallR.or call_len_str call_lenD), by rw [hK]; exact cs_len.or (cs_lenS.or cs_lenD)⟩
theorem b_sum (hK : X.K = c.b.K) (hc : X.calm = true) : BX X c (.builtin "sum") gSum := ⟨_, cr_sum hc, by rw [hK]; exact cs_sum⟩
theorem b_min (hK : X.K = c.b.K) (hc : X.calm = true) : BX X c (.builtin "min") gMinX := ⟨_, CallR.or (call_min2 hc) (cr_min hc), by rw [hK]; exact cs_min2.or cs_min1⟩
theorem b_max (hc : X.calm = true) : BX X c (.builtin "max") gMax2 := ⟨_, call_max2 hc, cs_max2⟩
theorem b_abs : BX X c (.builtin "abs") gAbs := ⟨_, call_abs, cs_abs⟩
theorem b_int : BX X c (.type "int") gInt := ⟨_, call_int1, cs_int⟩
theorem b_str : BX X c (.type "str") gStr := ⟨_, call_str_int, cs_str⟩
theorem b_tuple (hK : X.K = c.b.K) : BX X c (.type "tuple") gTuple := ⟨_, cr_tupleF, by rw [hK]; exact cs_tuple⟩
theorem b_list (hK : X.K = c.b.K) : BX X c (.type "list") gList := ⟨_, call_list_of, by rw [hK]; exact cs_list⟩
theorem b_dict (hK : X.K = c.b.K) (hc : X.calm = true) : BX X c (.type "dict") gDict := ⟨_, call_dictQ hc, by rw [hK]; exact cs_dict⟩
theorem b_sorted (hK : X.K = c.b.K) (hc : X.calm = true) : BX X c (.builtin "sorted") gSorted := ⟨_, CallR.or cr_sortedI (cr_sortDI hc), by rw [hK]; exact cs_sortedI.or cs_sortDI⟩
theorem d_callB {x : Str} {id : String} {e : Expr} {es : List Expr} {p pos : Pos} {g : S → List Rs → Option Rs} {fa : S → Rz (List Rs)} (hc : BX X c (.builtin id) g) (hm : X.mg x = none) (hv : bootBuiltins x = some (.builtin id)) (ha : DA X c (e :: es) fa) (hg : Gl X x := by rfl)
    (hn : x ≠ "__name__" := by decide) (hdb : (x == ("__debug__" : Str)) = false := by decide) (he : starEach (e :: es) X.env = (false, eval e X.env) :: starEach es X.env := by rfl) (hpl : (backTo pos (starEach es X.env)).any (·.1) = false := by rfl) : DE X c (.Call (.Name x p) (e :: es) [] pos) (fCall g fa) :=
  let ⟨_, h1, h2⟩ := hc; de_callB h1 h2 hg hm hv ha hn hdb he hpl
theorem d_callT {x : Str} {T : String} {e : Expr} {es : List Expr} {p pos : Pos} {g : S → List Rs → Option Rs} {fa : S → Rz (List Rs)} (hc : BX X c (.type T) g) (hm : X.mg x = none) (hv : bootBuiltins x = some (.type T)) (ha : DA X c (e :: es) fa) (hg : Gl X x := by rfl)
    (hn : x ≠ "__name__" := by decide) (hdb : (x == ("__debug__" : Str)) = false := by decide) (he : starEach (e :: es) X.env = (false, eval e X.env) :: starEach es X.env := by rfl) (hpl : (backTo pos (starEach es X.env)).any (·.1) = false := by rfl) : DE X c (.Call (.Name x p) (e :: es) [] pos) (fCall g fa) :=
  let ⟨_, h1, h2⟩ := hc; de_callTy h1 h2 hg hm hv ha hn hdb he hpl
theorem bt_len : bootBuiltins "len" = some (.builtin "len") := by decide +kernel
theorem bt_sum : bootBuiltins "sum" = some (.builtin "sum") := by decide +kernel
theorem bt_min : bootBuiltins "min" = some (.builtin "min") := by decide +kernel
theorem bt_max : bootBuiltins "max" = some (.builtin "max") := by decide +kernel
theorem bt_abs : bootBuiltins "abs" = some (.builtin "abs") := by decide +kernel
theorem bt_sorted : bootBuiltins "sorted" = some (.builtin "sorted") := by decide +kernel
theorem bt_isi : bootBuiltins "isinstance" = some (.builtin "isinstance") := by decide +kernel
theorem bt_int : bootBuiltins "int" = some (.type "int") := by decide +kernel
theorem bt_str : bootBuiltins "str" = some (.type "str") := by decide +kernel
theorem bt_bool : bootBuiltins "bool" = some (.type "bool") := by decide +kernel
theorem bt_tuple : bootBuiltins "tuple" = some (.type "tuple") := by decide +kernel
theorem bt_list : bootBuiltins "list" = some (.type "list") := by decide +kernel
theorem bt_dict : bootBuiltins "dict" = some (.type "dict") := by decide +kernel
/-- (..), [..] -/
theorem d_tup {es : List Expr} {x1 : Nat} {pos : Pos} {fa : S → Rz (List Rs)} (ha : DA X c es fa) : DE X c (.Tuple es x1 pos) (fCall gTup fa) := de_tup (es := es) (x1 := x1) (pos := pos) (pe_tupF ha)
theorem d_lst {es : List Expr} {pos : Pos} {fa : S → Rz (List Rs)} (ha : DA X c es fa) : DE X c (.List es pos) (fCall gLst fa) := de_lst (pe_lst ha)
/-- e[i], e[lo:hi] of sequences and texts -/
abbrev gIxX := gOr gIx gIxS
theorem d_ix {a e : Expr} {pos : Pos} {fa fb : S → Rz Rs} (hK : X.K = c.b.K) (ha : DE X c a fa) (hb : DE X c e fb) (hp : PlainIx e := by exact fun _ _ => rfl) : DE X c (.Subscript a e pos) (fBin gIxX fa fb) :=
  de_ix ((ix_list.or ix_tup).or ix_str) (by rw [hK]; exact ops_ix.or ops_ixS) ha hb hp
theorem d_slice {e : Expr} {lo hi : Option Expr} {pos p2 : Pos} {fe : S → Rz Rs} {fl fh : S → Rz (Option Int)} (hK : X.K = c.b.K) (he : DE X c e fe) (hl : DO X c lo fl) (hh : DO X c hi fh) : DE X c (.Subscript e (.Slice lo hi none p2) pos) (fSl gSl fe fl fh) :=
  de_slice (SlR.or sl_tupF (SlR.or sl_list sl_str)) (by rw [hK]; exact sls) he hl hh
/-- x.append(e) and so on -/
theorem d_append {i : Nat} {x : Str} {e : Expr} {p apos cpos : Pos} {fa : S → Rz (List Rs)} (hK : X.K = c.b.K) (ho : PE X (.Name x p) (tVar i)) (ha : DA X c [e] fa)
    (hbase : attributeBase (.Name x p) "append" X.env (eval (.Name x p) X.env) = eval (.Name x p) X.env := by rfl) (hfew : ((backTo cpos (starEach [e] X.env)).all (fun x => !x.1) && (backToKw cpos (keywordEach [] X.env)).all (fun x => x.1.isSome) && decide ([e].length + ([] : List Keyword).length + (if ([] : List Keyword).isEmpty then 0 else 1) < 30)) = true := by rfl)
    (hline : (apos.endLine == cpos.line) = true := by rfl) (hst : starEach [e] X.env = (false, eval e X.env) :: starEach [] X.env := by rfl) (hplain : (backTo cpos (starEach [] X.env)).any (·.1) = false := by rfl) :
    DE X c (.Call (.Attribute (.Name x p) "append" apos) [e] [] cpos) (fMut "list" gAppend i fa) :=
  de_mut hK PySem.F.plainAttrs_list PySem.F.slot_list_append PySem.F.type_list_append mt_append ms_append ho ha hbase hfew hline hst hplain
theorem d_pop {i : Nat} {x : Str} {p apos cpos : Pos} (hK : X.K = c.b.K) (ho : PE X (.Name x p) (tVar i))
    (hbase : attributeBase (.Name x p) "pop" X.env (eval (.Name x p) X.env) = eval (.Name x p) X.env := by rfl) (hline : (apos.endLine == cpos.line) = true := by rfl) :
    DE X c (.Call (.Attribute (.Name x p) "pop" apos) [] [] cpos) (fMut "list" gPop i fNil) :=
  de_mut0 hK PySem.F.plainAttrs_list PySem.F.slot_list_pop PySem.F.type_list_pop mt_pop ms_pop ho hbase hline
theorem d_popAt {i : Nat} {x : Str} {e : Expr} {p apos cpos : Pos} {fa : S → Rz (List Rs)} (hK : X.K = c.b.K) (ho : PE X (.Name x p) (tVar i)) (ha : DA X c [e] fa)
    (hbase : attributeBase (.Name x p) "pop" X.env (eval (.Name x p) X.env) = eval (.Name x p) X.env := by rfl) (hfew : ((backTo cpos (starEach [e] X.env)).all (fun x => !x.1) && (backToKw cpos (keywordEach [] X.env)).all (fun x => x.1.isSome) && decide ([e].length + ([] : List Keyword).length + (if ([] : List Keyword).isEmpty then 0 else 1) < 30)) = true := by rfl)
    (hline : (apos.endLine == cpos.line) = true := by rfl) (hst : starEach [e] X.env = (false, eval e X.env) :: starEach [] X.env := by rfl) (hplain : (backTo cpos (starEach [] X.env)).any (·.1) = false := by rfl) :
    DE X c (.Call (.Attribute (.Name x p) "pop" apos) [e] [] cpos) (fMut "list" gPopAt i fa) :=
  de_mut hK PySem.F.plainAttrs_list PySem.F.slot_list_pop PySem.F.type_list_pop mt_popAt ms_popAt ho ha hbase hfew hline hst hplain
end
end FL
end
section
set_option Elab.async false
set_option linter.all false
set_option maxRecDepth 100000
set_option maxHeartbeats 4000000
namespace FL
open PySem PySem.Spec PyProof.Rows L2
/-! ### tuple * int -/
theorem tuple_mul_same (l : Addr) (items : Array Value) (n : Nat) (dd : Option Addr) (sl : Array (Option Value)) (x : Int) (u : Tok) (c0 : (decide (x < -(2 ^ 63)) || decide (x ≥ 2 ^ 63)) = false) (c1 : (items.isEmpty || x == 1) = true) :
    Meets (Builtin.«tuple.__mul__» ⟨[.ref l, .int x u], []⟩) (fun _ R s => s.heap.get? l = some { cls := .type "tuple", dict := dd, data := .seq items n, slots := sl } ∧ R (.ok (.ret (.ref l))) s) :=
  .of_wp fun prog w A R s h => by
    obtain ⟨hp, g, d, tk, os⟩ := s
    obtain ⟨hl, h⟩ := h
    have f1 := AutoSeq1.idx_int
    wp_walk using wpAny_loadPart' hl
    repeat (first
      | (refine wpAny_ite_false (decide_eq_false (by rw [c0]; exact Bool.false_ne_true)) ?_; wp_walk using wpAny_loadPart' hl)
      | (refine wpAny_ite_true (decide_eq_true (by rw [c1])) ?_; wp_walk using wpAny_loadPart' hl))
    exact ⟨_, rfl, h⟩
theorem tuple_mul_none (l : Addr) (items : Array Value) (n : Nat) (dd : Option Addr) (sl : Array (Option Value)) (x : Int) (u : Tok) (c0 : (decide (x < -(2 ^ 63)) || decide (x ≥ 2 ^ 63)) = false) (c1 : (items.isEmpty || x == 1) = false) (c2 : (decide (x ≤ 0) || items.isEmpty) = true) :
    Meets (Builtin.«tuple.__mul__» ⟨[.ref l, .int x u], []⟩) (fun _ R s => s.heap.get? l = some { cls := .type "tuple", dict := dd, data := .seq items n, slots := sl } ∧
      R (.ok (.ret (Value.ref s.heap.objs.size))) { s with heap := s.heap.push { cls := Value.type "tuple", data := Data.seq #[] }, toks := s.toks }) :=
  .of_wp fun prog w A R s h => by
    obtain ⟨hp, g, d, tk, os⟩ := s
    obtain ⟨hl, h⟩ := h
    have f1 := AutoSeq1.idx_int
    wp_walk using wpAny_loadPart' hl
    repeat (first
      | (refine wpAny_ite_false (decide_eq_false (by rw [c0]; exact Bool.false_ne_true)) ?_; wp_walk using wpAny_loadPart' hl)
      | (refine wpAny_ite_false (decide_eq_false (by rw [c1]; exact Bool.false_ne_true)) ?_; wp_walk using wpAny_loadPart' hl)
      | (refine wpAny_ite_true (decide_eq_true (by rw [c2])) ?_; wp_walk using wpAny_loadPart' hl))
    exact ⟨_, rfl, h⟩
def rRepF (K : PySem.W.Frag) : R2 := fun x y H Q => ∃ l k xs, x = .ref l ∧ y = .int k ∧ SqT K H l xs ∧ -(2 ^ 63) ≤ k ∧ k < 2 ^ 63 ∧ xs.length * k.toNat ≤ 1000000 ∧ ((xs = [] ∨ k = 1) → Q (.ref l) H) ∧
  (xs ≠ [] → k ≠ 1 → ∀ (p : Addr) (o : Obj), H p = none → o.dict = none → Q (.ref p) (upd H p (.frz o (.tup (List.replicate k.toNat xs).flatten))))
theorem op_repF {X : Cx} : OpR X (binaryOp .Mult) (rRepF X.K) := by
  intro pins s σ H x y v u Q I rx ry h
  obtain ⟨l, k, xs, rfl, rfl, hT, h1, h2, hz, q0, q⟩ := h
  cases rx
  obtain ⟨t, rfl⟩ := ry
  obtain ⟨its, r, ⟨⟨cls, dd, data, sl⟩, ho, hc, n, hd⟩, hs⟩ := I.tuple hT
  simp only at hc hd
  subst hc hd
  have hle : its.length = xs.length := r.length.symm
  have c0 : (decide (k < -(2 ^ 63)) || decide (k ≥ 2 ^ 63)) = false := by
    rw [decide_eq_false (by omega), decide_eq_false (by omega)] <;> rfl
  refine wpAny_binaryOp_repeat_ref (T := "tuple") (U := "int") (by decide) ⟨_, ho, rfl⟩ (fun s' => typeIs_int s' k t) noFill_tuple_mul F.fills_int_mul F.slot_int_rmul repeat_tuple F.slot_int_index.lookup
    (call_meets F.slot_int_rmul (typeIs_int s k t) F.entry_int_rmul (F.args_int_rmul_2 _ _) (int_rmul_tuple k t l its.toArray n dd sl)
      ⟨ho, rfl, ⟨_, ho, rfl⟩, ?_⟩)
  by_cases hne : xs = [] ∨ k = 1
  · have c1 : (its.toArray.isEmpty || k == 1) = true := by
      rcases hne with e | e
      · subst e
        have : its = [] := List.eq_nil_of_length_eq_zero (by simpa using hle)
        subst this
        rfl
      · subst e
        simp
    refine call_meets F.slot_tuple_mul ⟨_, ho, rfl⟩ F.entry_tuple_mul (F.args_tuple_mul_2 _ _) (tuple_mul_same l its.toArray n dd sl k t c0 c1) ⟨ho, ?_⟩
    exact ⟨.ref l, H, I, rfl, q0 hne⟩
  · have hx : xs ≠ [] := fun e => hne (.inl e)
    have hk1 : k ≠ 1 := fun e => hne (.inr e)
    have hn : its ≠ [] := fun e => hx (by
      rw [e] at hle
      exact List.eq_nil_of_length_eq_zero hle.symm)
    have hi : its.toArray.isEmpty = false := by
      cases its with
      | nil => exact absurd rfl hn
      | cons a b => rfl
    have c1 : (its.toArray.isEmpty || k == 1) = false := by
      rw [hi, Bool.false_or]
      exact beq_eq_false_iff_ne.mpr hk1
    by_cases hk0 : k ≤ 0
    · have c2 : (decide (k ≤ 0) || its.toArray.isEmpty) = true := by rw [decide_eq_true hk0]; rfl
      refine call_meets F.slot_tuple_mul ⟨_, ho, rfl⟩ F.entry_tuple_mul (F.args_tuple_mul_2 _ _) (tuple_mul_none l its.toArray n dd sl k t c0 c1 c2) ⟨ho, ?_⟩
      have e0 : k.toNat = 0 := by omega
      have qq := q hx hk1
      rw [e0] at qq
      refine ⟨.ref s.heap.objs.size, _, I.laid (t' := s.toks) (o := .frz (tupO []) (.tup [])) (fun b ob q => Heap.get?_push_of_some _ q) (Nat.le_refl _) ?_, rfl, qq _ _ (I.hok.fresh (Nat.le_refl _)) rfl⟩
      exact tupO_ok (Heap.get?_push_size _ rfl) rfl .nil (Nat.zero_le _)
    · have hsz0 : its.toArray.size = xs.length := by rw [List.size_toArray, hle]
      have hm : ((its.toArray.size : Nat) : Int) * k ≤ 1000000 := by
        rw [hsz0]
        have e : k = (k.toNat : Int) := by omega
        rw [e, ← Int.natCast_mul]
        omega
      have flen : (List.replicate k.toNat its).flatten.length ≤ sizeLine := by
        rw [PyProof.Rows.lm_len_rep_flat, hle, sizeLine_eq, Nat.mul_comm]
        omega
      have c2 : (decide (k ≤ 0) || its.toArray.isEmpty) = false := by
        rw [hi, Bool.or_false]
        exact decide_eq_false hk0
      have c4 : Builtin.Tuple.tupleTooMany (((its.toArray.size : Nat) : Int) * k) = false := by
        unfold Builtin.Tuple.tupleTooMany
        rw [sizeLine_eq]
        exact decide_eq_false (by omega)
      refine call_meets F.slot_tuple_mul ⟨_, ho, rfl⟩ F.entry_tuple_mul (F.args_tuple_mul_2 _ _) (tuple_mulW l its.toArray n dd sl k t c0 c1 c2 (by omega) c4 (by rw [size_rep, List.size_toArray]; exact flen)) ⟨ho, ?_⟩
      rw [size_rep]
      refine ⟨.ref s.heap.objs.size, _, I.laid (t' := s.toks) (o := .frz (tupO (List.replicate k.toNat its).flatten) (.tup (List.replicate k.toNat xs).flatten)) (fun b ob q => Heap.get?_push_of_some _ q) (Nat.le_refl _) ?_, rfl, q hx hk1 _ _ (I.hok.fresh (Nat.le_refl _)) rfl⟩
      exact tupO_ok (Heap.get?_push_size _ rfl) rfl (r.rep k.toNat) (by rw [PyProof.Rows.lm_len_rep_flat, ← hle, ← PyProof.Rows.lm_len_rep_flat]; exact flen)
def gRepT : S → Rs → Rs → Option Rs := fun _ x y => match x, y with
  | .d (.tuple xs), .d (.int k) => if -(2 ^ 63) ≤ k ∧ k < 2 ^ 63 ∧ xs.length * k.toNat ≤ 1000000 then some (.d (.tuple (List.replicate k.toNat xs).flatten)) else none
  | _, _ => none
theorem ops_repT {c : C} : OpS c (rRepF c.b.K) gRepT := fun o st σ H Hs x y z v u Q rel hs x1 x2 e k => by
  unfold gRepT at e
  split at e
  · rename_i xs n
    split at e
    · rename_i hc
      obtain ⟨a, vs, rfl, q, r⟩ := At.tup_invT x1
      have hv := At.int_inv x2
      subst hv
      have e' : Rs.d (.tuple (List.replicate n.toNat xs).flatten) = z := Option.some.inj e
      subst e'
      have hl : vs.length = xs.length := r.len
      refine ⟨a, n, vs, rfl, rfl, q.sq, hc.1, hc.2.1, by rw [hl]; exact hc.2.2, fun hh => ?_, fun _ _ => give_tup rel (r.rep n.toNat) k⟩
      refine give_d rel ?_ k
      have : (List.replicate n.toNat xs).flatten = xs := by
        rcases hh with e | e
        · have : xs = [] := List.eq_nil_of_length_eq_zero (by rw [← hl, e]; rfl)
          subst this
          simp
        · subst e
          simp
      rw [this]
      exact x1
    · exact nomatch e
  · exact nomatch e
abbrev gMulT := gOr gMulI (gOr gRepL gRepT)
theorem o_mulT {X : Cx} {c : C} (hK : X.K = c.b.K) : OX X c (binaryOp .Mult) gMulT := ⟨_, OpR.or op_mul (OpR.or op_rep op_repF), by rw [hK]; exact ops_mulI.or (ops_repL.or ops_repT)⟩
end FL
end
section
set_option Elab.async false
set_option linter.all false
set_option maxRecDepth 100000
set_option maxHeartbeats 4000000
namespace FL
open PySem PySem.Spec PyProof.Rows L2
/-! ### t[::-1] -/
section
variable {prog : Program} {w : World} {A : Around} {E : Value → Shared → Prop} {s : Shared}
theorem adjust_rev (n : Nat) : Builtin.Slice.sliceAdjust none none (-1) (n : Int) = ((n : Int) - 1, -1) := by
  unfold Builtin.Slice.sliceAdjust
  simp
theorem places_rev (n : Nat) : Builtin.Slice.slicePlaces ((n : Int) - 1) (-1) (-1) = n := by
  unfold Builtin.Slice.slicePlaces
  simp
  split <;> omega
theorem sliceApplied_rev {sl : Addr} {vs : Value} {n : Nat} {Q : Int × Int × Nat → Shared → Prop} (hs : s.heap.IsSliceOf sl .none .none vs) (ps : IsPart vs (some (-1))) (h : Q ((n : Int) - 1, -1, n) s) : wpAny (model prog w) A (Builtin.Slice.sliceApplied (.ref sl) (pure (n : Int))) Q E s := by
  obtain ⟨os, hos, hcs, hds⟩ := id hs
  unfold Builtin.Slice.sliceApplied Builtin.Slice.sliceFields
  refine wpAny_bind (wpAny_bind (wpAny_field hos hds (x := .none) rfl (wpAny_bind (wpAny_field hos hds (x := .none) rfl (wpAny_bind (wpAny_field hos hds (x := vs) rfl (wpAny_pure ?_)))))))
  refine wpAny_bind (HT.slicePart_ ps ?_)
  show wpAny _ _ (if ((-1 : Int) == 0) = true then _ else _) _ _ s
  rw [if_neg (by decide)]
  refine wpAny_bind (HT.slicePart_ .none (wpAny_bind (HT.slicePart_ .none (wpAny_bind (wpAny_pure ?_)))))
  show wpAny _ _ (match Builtin.Slice.sliceAdjust none none (-1) (n : Int) with | (lo, hi) => pure (lo, (-1 : Int), Builtin.Slice.slicePlaces lo hi (-1))) _ _ s
  rw [adjust_rev n]
  show wpAny _ _ (pure ((n : Int) - 1, (-1 : Int), Builtin.Slice.slicePlaces ((n : Int) - 1) (-1) (-1))) _ _ s
  rw [places_rev]
  exact wpAny_pure h
theorem fm_congr {α β : Type} {f g : α → Option β} : ∀ {l : List α}, (∀ a ∈ l, f a = g a) → l.filterMap f = l.filterMap g
  | [], _ => rfl
  | a :: l, h => by rw [List.filterMap_cons, List.filterMap_cons, h a (List.mem_cons_self ..), fm_congr fun b hb => h b (List.mem_cons_of_mem _ hb)]
theorem pick_rev (xs : List Value) : ((List.range xs.length).filterMap fun (m : Nat) => xs.toArray[((xs.length : Int) - 1 + (m : Int) * (-1)).toNat]?) = xs.reverse := by
  apply List.ext_getElem?
  intro i
  have : (List.range xs.length).filterMap (fun (m : Nat) => xs.toArray[((xs.length : Int) - 1 + (m : Int) * (-1)).toNat]?) = (List.range xs.length).map fun m => xs.reverse.getD m .none := by
    rw [← List.filterMap_eq_map]
    apply fm_congr
    intro m hm
    have hm' : m < xs.length := List.mem_range.mp hm
    have e : ((xs.length : Int) - 1 + (m : Int) * (-1)).toNat = xs.length - 1 - m := by omega
    rw [e, List.getElem?_toArray, List.getElem?_eq_getElem (by omega)]
    simp only [Function.comp, List.getD_eq_getElem?_getD, List.getElem?_reverse hm']
    rw [List.getElem?_eq_getElem (by omega)]
    rfl
  rw [this, List.getElem?_map]
  by_cases hi : i < xs.length
  · rw [List.getElem?_range hi]
    simp only [Option.map_some, List.getD_eq_getElem?_getD]
    rw [List.getElem?_eq_getElem (by simpa using hi)]
    rfl
  · rw [List.getElem?_eq_none (by simpa using hi), List.getElem?_eq_none (by simpa using hi)]
    rfl
theorem getItem_tuple_rev {t sl : Addr} {its : List Value} {vs : Value} {Q : Value → Shared → Prop} (ht : IsTup s.heap t its.toArray) (hs : s.heap.IsSliceOf sl .none .none vs) (ps : IsPart vs (some (-1)))
    (h : Q (.ref s.heap.objs.size) { s with heap := s.heap.push { cls := .type "tuple", data := .seq its.reverse.toArray } })
    (hsz : its.length ≤ sizeLine) : wpAny (model prog w) A (getItem (.ref t) (.ref sl)) Q E s := by
  have htake : sizeOk (.seq its.reverse.toArray) := by
    show its.reverse.toArray.size ≤ sizeLine
    rw [List.size_toArray, List.length_reverse]
    exact hsz
  obtain ⟨os, hos, hcs, hds⟩ := id hs
  have hTs : s.TypeIs (.ref sl) "slice" := ⟨os, hos, hcs⟩
  unfold getItem
  try with_reducible refine wpAny_holding ?_
  first | refine wpAny_bind (wpAny_pure ?_) | skip
  refine wpAny_bind (wpAny_sequenceKey ht.typeIs (by decide) ?_)
  refine wpAny_bind (wpAny_callSpecial?_slot (name := Str.ofString "__getitem__") ht.typeIs PyProof.Rows.slot_tuple_getitem
    (wpAny_call_entry PyProof.Rows.slot_tuple_getitem ht.typeIs entry_tuple_getitem ?_ (args_tuple_getitem _ _)))
  show wpAny _ _ (Builtin.Tuple.tupleItemsOf (.ref t) >>= _) _ _ s
  refine wpAny_bind (tupleItemsOf_ ht ?_)
  refine wpAny_bind (wpAny_typeOf hTs ?_)
  rw [if_pos (by decide)]
  refine wpAny_bind (sliceApplied_rev (n := its.toArray.size) hs ps ?_)
  have hno : ¬ (((its.toArray.size : Int) - 1 == 0 && (-1 : Int) == 1 && its.toArray.size == its.toArray.size) = true) := by
    intro q
    rw [Bool.and_eq_true, Bool.and_eq_true] at q
    exact absurd q.1.2 (by decide)
  show wpAny _ _ (if (((its.toArray.size : Int) - 1 == 0 && (-1 : Int) == 1 && its.toArray.size == its.toArray.size) = true) then _ else _) _ _ s
  rw [if_neg hno]
  have hp : ((List.range its.toArray.size).filterMap fun (k : Nat) => its.toArray[((its.toArray.size : Int) - 1 + (k : Int) * (-1)).toNat]?) = its.reverse := by
    rw [List.size_toArray]
    exact pick_rev its
  rw [hp]
  first
    | exact wpAny_bind (m := Builtin.Tuple.tupleExact _) (wpAny_newObj_type (wpAny_pure ⟨_, rfl, wpAny_pure h⟩) htake)
    | exact wpAny_bind (m := Builtin.Tuple.tupleExact _) (wpAny_newObj_type (wpAny_bind (wpAny_pure (wpAny_pure ⟨_, rfl, wpAny_pure h⟩))) htake)
    | exact wpAny_bind (wpAny_bind (m := Builtin.Tuple.tupleExact _) (wpAny_newObj_type (wpAny_pure (wpAny_pure ⟨_, rfl, wpAny_pure h⟩)) htake))
    | exact wpAny_bind (wpAny_bind (m := Builtin.Tuple.tupleExact _) (wpAny_newObj_type (wpAny_pure ⟨_, rfl, wpAny_pure h⟩) htake))
end
def tRevLT (K : PySem.W.Frag) (te : TE) : TE := fun σ H Q => te σ H fun x H1 => ∃ a xs, x = .ref a ∧ ((SqL K H1 a xs ∧ ∀ p, H1 p = none → Q (.ref p) (upd H1 p (.lst xs.reverse))) ∨
  (SqT K H1 a xs ∧ ∀ (p : Addr) (o : Obj), H1 p = none → o.dict = none → Q (.ref p) (upd H1 p (.frz o (.tup xs.reverse)))))
section
variable {X : Cx}
theorem pe_revLT {e : Expr} {te : TE} {k : Nat} {p1 p2 p3 pos : Pos} (he : PE X e te) : PE X (.Subscript e (.Slice none none (some (.UnaryOp .USub (.Constant (.int 1) k p1) p2)) p3) pos) (tRevLT X.K te) := by
  refine ⟨fun pins s σ H Q I h => ?_⟩
  refine Subscript_ (thn (he.run pins s σ H _ I h) fun v s1 ⟨x, H1, I1, r1, q1⟩ => ?_)
  obtain ⟨a, xs, ex, q⟩ := q1
  subst ex
  cases r1
  have hst : PO X (some (.UnaryOp .USub (.Constant (.int 1) k p1) p2)) (tPart (tUn (rU fun i => .int (-i)) (tC (.int 1)))) := po_some (pe_un un_neg pe_int)
  refine wpAny_Slice (thn (po_none.run pins s1 σ H1 (fun o H2 => o = none ∧ H2 = H1) I1 ⟨rfl, rfl⟩) fun vl s2 ⟨l, H2, I2, pl, el, e2⟩ => ?_)
  subst el e2
  refine thn (po_none.run pins s2 σ H2 (fun o H3 => o = none ∧ H3 = H2) I2 ⟨rfl, rfl⟩) fun vu s3 ⟨u, H3, I3, pu, eu, e3⟩ => ?_
  subst eu e3
  refine thn (hst.run pins s3 σ H3 (fun o H4 => o = some (-1) ∧ H4 = H3) I3 ⟨1, rfl, -1, rfl, rfl, rfl⟩) fun vs s4 ⟨o, H4, I4, ps, eo, e4⟩ => ?_
  subst eo e4
  have I5 : Inv X pins σ H4 { s4 with heap := s4.heap.push { cls := .type "slice", data := .fields #[vl, vu, vs] } } := I4.kept (t' := s4.toks) fun b ob q => Heap.get?_push_of_some _ q
  show wpAny (model X.prog X.w) X.A (subscriptTail e (.Slice none none (some (.UnaryOp .USub (.Constant (.int 1) k p1) p2)) p3) (.ref a) (.ref s4.heap.objs.size)) (EP X pins σ Q) X.xe { s4 with heap := s4.heap.push { cls := .type "slice", data := .fields #[vl, vu, vs] } }
  rcases q with ⟨hx, q⟩ | ⟨hx, q⟩
  · obtain ⟨its, r, ht, hz⟩ := I5.list hx
    have hlen := r.length
    refine tail_any (ops := [.ref a, .ref s4.heap.objs.size]) ht.isList.typeIs (PySem.slot_list_getitem.lookup) ?_ (by with_unfolding_all rfl)
    refine wpAny_getItem_list_slice ht.isList (Heap.IsSliceOf.new _ vl vu vs) pl pu ps (by decide) ?_ (by rw [List.size_toArray]; omega)
    rw [PySem.W.krv_pick]
    refine ⟨.ref _, _, I5.laid (t' := s4.toks) (o := .lst xs.reverse) (fun b ob q => Heap.get?_push_of_some _ q) (Nat.le_refl _) ?_, rfl, q _ (I5.hok.fresh (Nat.le_refl _))⟩
    exact ⟨by rw [List.length_reverse]; exact hz, _, 0, r.reverse, Heap.get?_push_size _ rfl⟩
  · obtain ⟨its, r, ht, hz⟩ := I5.tuple hx
    have hlen := r.length
    have evl : vl = .none := by cases pl; rfl
    have evu : vu = .none := by cases pu; rfl
    subst evl evu
    refine tail_any (ops := [.ref a, .ref s4.heap.objs.size]) ht.typeIs (PyProof.Rows.slot_tuple_getitem.lookup) ?_ (by with_unfolding_all rfl)
    refine getItem_tuple_rev ht (Heap.IsSliceOf.new _ .none .none vs) ps ?_ (by omega)
    refine ⟨.ref _, _, I5.laid (t' := s4.toks) (o := .frz (tupO its.reverse) (.tup xs.reverse)) (fun b ob q => Heap.get?_push_of_some _ q) (Nat.le_refl _) ?_, rfl, q _ _ (I5.hok.fresh (Nat.le_refl _)) rfl⟩
    exact tupO_ok (Heap.get?_push_size _ rfl) rfl r.reverse (by rw [List.length_reverse]; omega)
end
def fRev (f : S → Rz Rs) : S → Rz Rs := fun st => (f st).bind fun x st => match x with
  | .d (.tuple xs) => .ok (.d (.tuple xs.reverse)) st
  | x => match st.lst x with
    | some xs => .ok (.own (.lst xs.reverse)) st
    | none => .no
theorem de_rev {X : Cx} {c : C} {e : Expr} {k : Nat} {p1 p2 p3 pos : Pos} {f : S → Rz Rs} (hK : X.K = c.b.K) (he : DE X c e f) : DE X c (.Subscript e (.Slice none none (some (.UnaryOp .USub (.Constant (.int 1) k p1) p2)) p3) pos) (fRev f) :=
  PE.mono (pe_revLT he) fun σ H Q ⟨o, st, rel, h⟩ => by
    rw [hK]
    refine te_bind (E := fun z => teK c o σ H z Q) rel (Tr.refl o H) teK.e teK.n h fun x st1 v H1 o1 rel1 t1 _ x1 h1 => ?_
    have lists : ∀ {xs : List D}, st1.lst x = some xs → teK c o σ H (.ok (.own (.lst xs.reverse)) st1) Q → ∃ a xs, v = .ref a ∧ ((SqL c.b.K H1 a xs ∧ ∀ p, H1 p = none → Q (.ref p) (upd H1 p (.lst xs.reverse))) ∨
        (SqT c.b.K H1 a xs ∧ ∀ (p : Addr) (o : Obj), H1 p = none → o.dict = none → Q (.ref p) (upd H1 p (.frz o (.tup xs.reverse))))) := fun {xs} e h2 => by
      obtain ⟨a, vs, rfl, hs, r⟩ := rel1.lst x1 e
      exact ⟨a, vs, rfl, .inl ⟨hs, give_lst rel1 t1.trk r.reverse fun w H' r' t' xr => h2 w H' o1 r' (t1.trans t') xr⟩⟩
    split at h1
    · obtain ⟨a, vs, rfl, hs, r⟩ := At.tup_inv x1
      exact ⟨a, vs, rfl, .inr ⟨hs, give_tup rel1 r.reverse fun w H' r' t' xr => h1 w H' o1 r' (t1.trans t') xr⟩⟩
    · split at h1
      · rename_i xs e
        exact lists e h1
      · exact h1.elim
end FL
end
section
set_option Elab.async false
set_option linter.all false
set_option maxRecDepth 100000
set_option maxHeartbeats 4000000
namespace FL
open PySem PySem.Spec PyProof.Rows L2
/-! ### sorted(set(xs)), xs a list of ints -/
abbrev sob (w : World) : Obj := { cls := .type "set", dict := none, data := .set #[] 0 (.fresh 0 0 (!w.params.followText "set-order")) }
section
variable {P : Program} {w : World} {A : Around} {E : Value → Shared → Prop} {s : Shared}
abbrev mid (s : Shared) (w : World) : Shared := { s with heap := s.heap.push (sob w) }
theorem set_of_ints {l : Addr} {its : Array Value} (ks : List Int) {Q : Value → Shared → Prop} (hA : A.handled = none) (hL : s.heap.IsList l its) (hI : IntsAre its.toList ks) (room : ks.length + 1 < scanBound)
    (fin : ∀ (h2 : Heap) (t2 c2 : Nat), SetR w h2 s.heap.objs.size (fun j => decide (j ∈ ks)) c2 → c2 ≤ ks.length → (∀ b o, s.heap.get? b = some o → h2.get? b = some o) → Q (.ref s.heap.objs.size) { s with heap := h2, toks := t2 }) :
    wpAny (model P w) A (call (.type "set") [.ref l]) Q E s := by
  have size : its.size = ks.length := by have q := IntsAre.length hI; rw [Array.length_toList] at q; exact q
  have cm := F.called_set.mro
  obtain ⟨c0, r0, hmro⟩ := cm
  have k1 := F.called_set.made
  have k2 := F.called_set.sub
  refine wpAny_call (codeAny_of_tree (show wpAny _ _ (callAny (.type "set") _) _ _ _ from wpAny_pure ⟨Code.quiet_builtin _ (by decide +kernel), codeAny_builtin F.entry_type_call ?_⟩))
  rw [Around.under_plain (weight_type_call_type "set" [.ref l] []) rfl]
  have k3 := F.called_set.notType
  have k4 := F.called_set.canCreate
  have k5 := F.typeCall_set_1 (.ref l)
  repeat (any_goals (first | assumption | wp_step))
  refine codeAny_mono (code_set_led1 (.ref l) (E := E) (Q₁ := fun ob s1 => ob = .ref s.heap.objs.size ∧ s1 = mid s w) ⟨rfl, rfl⟩) fun res s1 hres => ?_
  cases res with
  | error e => exact hres
  | ok flow =>
    cases flow with
    | next => exact hres.elim
    | brk => exact hres.elim
    | cont => exact hres.elim
    | ret ob =>
      obtain ⟨rfl, rfl⟩ := hres
      have at0 : (s.heap.push (sob w)).get? s.heap.objs.size = some (sob w) := Heap.get?_push_size _ rfl
      have ty : Shared.TypeIs (mid s w) (.ref s.heap.objs.size) "set" := ⟨_, at0, rfl⟩
      have k6 := F.called_set.init.lookup
      have k7 := F.called_set.init.bind (.ref s.heap.objs.size)
      repeat (any_goals (first | assumption | wp_step))
      have goal2 : ∀ (r2 : Result) (s2 : Shared), wants (fun r s2 => r = .none ∧ ∃ (h2 : Heap) (t2 c2 : Nat), s2 = { s with heap := h2, toks := t2 } ∧ SetR w h2 s.heap.objs.size (fun j => decide (j ∈ ks)) c2 ∧ c2 ≤ ks.length ∧ ∀ b o, s.heap.get? b = some o → h2.get? b = some o) E r2 s2 → wants (fun r s2 => r = .none ∧ ∃ (h2 : Heap) (t2 c2 : Nat), s2 = { s with heap := h2, toks := t2 } ∧ SetR w h2 s.heap.objs.size (fun j => decide (j ∈ ks)) c2 ∧ c2 ≤ ks.length ∧ ∀ b o, s.heap.get? b = some o → h2.get? b = some o) E r2 s2 := fun _ _ h => h
      refine codeAny_mono (codeAny_call_builtin (R := wants (fun r s2 => r = .none ∧ ∃ (h2 : Heap) (t2 c2 : Nat), s2 = { s with heap := h2, toks := t2 } ∧ SetR w h2 s.heap.objs.size (fun j => decide (j ∈ ks)) c2 ∧ c2 ≤ ks.length ∧ ∀ b o, s.heap.get? b = some o → h2.get? b = some o) E) F.called_set.init.plain F.entry_set_init (check_set_init_1 ty ?_)) fun r2 s2 hr2 => ?_
      · obtain ⟨⟨ocl, odi, oda, osl⟩, ho, e1, nn, e2⟩ := hL
        simp only at e1 e2
        subst e1 e2
        have ho2 := Heap.get?_push_of_some (sob w) ho
        have k8 := F.sub_list_set
        have k9 := F.sub_list_frozenset
        have k0 : (Value.type "list" == Value.type "dict") = false := by decide
        have isl : (s.heap.push (sob w)).IsList l its := ⟨_, ho2, rfl, nn, rfl⟩
        unfold Builtin.«set.__init__» noKeywords Builtin.Frozenset.updateFrom
        generalize hIter : pyIter = IT
        wp_walk
        subst hIter
        refine wpAny_pyIter_list isl (wpAny_bind (wpAny_runValue ?_))
        have below : l < s.heap.objs.size := Heap.lt_size ho
        have hA3 : A.in1.in1.in1.handled = none := by simp [hA]
        have neq : l ≠ (s.heap.push (sob w)).objs.size := by rw [Heap.size_push]; exact fun e => absurd below (by rw [e]; exact Nat.not_lt.mpr (Nat.le_succ _))
        have apart : s.heap.objs.size ∉ [(s.heap.push (sob w)).objs.size, l] := by
          rw [Heap.size_push]
          intro hm
          rcases List.mem_cons.mp hm with e | hm
          · exact absurd e (Nat.ne_of_lt (Nat.lt_succ_self _))
          · have e : s.heap.objs.size = l := by simpa using hm
            exact absurd below (by rw [e]; exact Nat.lt_irrefl _)
        have each : ∀ (i : Nat) (v : Value), its[i]? = some v → ∃ k t, ks[i]? = some k ∧ v = .int k t := fun i v hv => by
          have hi : i < ks.length := by rw [← size]; exact (Array.getElem?_eq_some_iff.mp hv).1
          obtain ⟨t, e⟩ := PyProof.Rows.IntsAre.int_at hI i v (by rw [Array.getElem?_toList]; exact hv)
          exact ⟨ks[i], t, List.getElem?_eq_getElem hi, by rw [e, List.getD_eq_getElem?_getD, List.getElem?_eq_getElem hi] <;> rfl⟩
        refine set_update_ints ((Walks.list hA3 _ l neq its).toS) s.heap.objs.size apart ks size room each (its.size - 0) 0 _ (by omega) (Nat.zero_le _) ⟨⟨_, Heap.get?_push_size _ rfl, rfl, rfl⟩, (isl.push _)⟩ ⟨0, Nat.le_refl 0, setR_new_at (Heap.get?_push_of_some _ at0)⟩ fun s3 c3 mv le R3 => ?_
        obtain ⟨h3, g3, d3, t3, o3⟩ := s3
        have u1 : g3 = s.gens := mv.gens
        have u2 : d3 = s.drawn := mv.drawn
        have u3 : o3 = s.os := mv.os
        subst u1 u2 u3
        show wpAny _ _ _ _ _ _
        refine wpAny_pure ?_
        show wpAny _ _ (ret Value.none) _ _ _
        refine wpAny_pure ⟨rfl, h3, t3, c3, rfl, R3, by omega, fun b o e => mv.heap b o ?_ (Heap.get?_push_of_some _ (Heap.get?_push_of_some _ e))⟩
        have hb := Heap.lt_size e
        intro hm
        rcases List.mem_cons.mp hm with e | hm
        · exact absurd hb (by rw [e]; exact Nat.lt_irrefl _)
        · have e : b = (s.heap.push (sob w)).objs.size := by simpa using hm
          rw [Heap.size_push] at e
          exact absurd hb (by rw [e]; exact Nat.not_lt.mpr (Nat.le_succ _))
      · cases r2 with
        | error e => exact hr2
        | ok flow2 =>
          cases flow2 with
          | next => exact hr2.elim
          | brk => exact hr2.elim
          | cont => exact hr2.elim
          | ret r =>
            obtain ⟨rfl, h2, t2, c2, rfl, R2, le2, kp⟩ := hr2
            repeat (any_goals (first | assumption | wp_step))
            exact fin _ _ _ R2 le2 kp
end
def rSetOfI (K : PySem.W.Frag) (w : World) : List V → Hp → VK → Prop := fun xs H Q => ∃ (l : Addr) (ns : List Int), xs = [.ref l] ∧ SqL K H l (ns.map V.int) ∧ ns.length < 64 ∧ ∀ (p : Addr) (c : Nat), H p = none → c ≤ ns.length → Q (.ref p) (upd H p (SetO w p (fun j => decide (j ∈ ns)) c))
theorem cr_setOfI {X : Cx} (hc : X.calm = true) : CallR X (.type "set") (rSetOfI X.K X.w) := by
  intro pins s σ H vs us Q I r h
  obtain ⟨l, ns, rfl, hs, h64, q⟩ := h
  rw [Vals.ref1 r]
  obtain ⟨its, rv, pl, hz⟩ := I.list hs
  have hl : its.toArray.size = ns.length := by rw [List.size_toArray, ← rv.length, List.length_map]
  refine set_of_ints (ks := ns) (I.ok.hd hc) pl.isList (by simpa using rv.ints) (by unfold scanBound; omega) fun h2 t2 c2 R le kp => ?_
  have n0 : H s.heap.objs.size = none := I.hok.fresh (Nat.le_refl _)
  exact ⟨.ref s.heap.objs.size, _, I.laid (t' := t2) kp (Nat.le_refl _) (setO_new R), rfl, q _ c2 n0 le⟩
/-- the numbers of a list, each once, rising -/
def addK0 (ks : List Int) (n : Int) : List Int := if n ∈ ks then ks else ks ++ [n]
def sset (ns : List Int) : List Int := isort (ns.foldl addK0 [])
theorem addK0_go : ∀ (ns ks : List Int), ks.Nodup → (ns.foldl addK0 ks).Nodup ∧ ∀ m, m ∈ ns.foldl addK0 ks ↔ m ∈ ks ∨ m ∈ ns
  | [], ks, h => ⟨h, fun m => by simp⟩
  | n :: ns, ks, h => by
    have h1 : (addK0 ks n).Nodup ∧ ∀ m, m ∈ addK0 ks n ↔ m ∈ ks ∨ m = n := by
      unfold addK0
      split
      · rename_i hm
        exact ⟨h, fun m => ⟨.inl, fun h' => h'.elim id fun e => by rw [e]; exact hm⟩⟩
      · rename_i hm
        refine ⟨List.nodup_append.mpr ⟨h, by simp, fun a ha b hb e => ?_⟩, fun m => by simp⟩
        have : b = n := by simpa using hb
        exact hm (by rw [← this, ← e]; exact ha)
    obtain ⟨h3, h4⟩ := addK0_go ns (addK0 ks n) h1.1
    refine ⟨h3, fun m => ?_⟩
    rw [List.foldl_cons, h4, h1.2, List.mem_cons]
    constructor
    · rintro ((h | h) | h)
      · exact .inl h
      · exact .inr (.inl h)
      · exact .inr (.inr h)
    · rintro (h | h | h)
      · exact .inl (.inl h)
      · exact .inl (.inr h)
      · exact .inr h
theorem sset_spec (ns : List Int) : (sset ns).Pairwise (· < ·) ∧ ∀ m, m ∈ sset ns ↔ m ∈ ns := by
  obtain ⟨h1, h2⟩ := addK0_go ns [] .nil
  have p := isort_perm (ns.foldl addK0 [])
  have nd : (sset ns).Nodup := p.nodup_iff.mpr h1
  refine ⟨(isort_le _).imp₂ (fun a b h k => ?_) nd, fun m => ?_⟩
  · have : a ≠ b := k
    omega
  · unfold sset
    rw [p.mem_iff, h2]
    simp
theorem rise_eq : ∀ {a b : List Int}, a.Pairwise (· < ·) → b.Pairwise (· < ·) → (∀ m, m ∈ a ↔ m ∈ b) → a = b
  | [], [], _, _, _ => rfl
  | [], y :: b, _, _, h => absurd ((h y).mpr (List.mem_cons_self ..)) (by simp)
  | x :: a, [], _, _, h => absurd ((h x).mp (List.mem_cons_self ..)) (by simp)
  | x :: a, y :: b, ha, hb, h => by
    obtain ⟨a1, a2⟩ := List.pairwise_cons.mp ha
    obtain ⟨b1, b2⟩ := List.pairwise_cons.mp hb
    have hx := (h x).mp (List.mem_cons_self ..)
    have hy := (h y).mpr (List.mem_cons_self ..)
    have e : x = y := by
      rcases List.mem_cons.mp hx with e | hx
      · exact e
      · rcases List.mem_cons.mp hy with e | hy
        · exact e.symm
        · have := b1 x hx
          have := a1 y hy
          omega
    subst e
    rw [rise_eq a2 b2 fun m => ?_]
    constructor
    · intro hm
      rcases List.mem_cons.mp ((h m).mp (List.mem_cons_of_mem _ hm)) with e | hm'
      · have := a1 m hm
        omega
      · exact hm'
    · intro hm
      rcases List.mem_cons.mp ((h m).mpr (List.mem_cons_of_mem _ hm)) with e | hm'
      · have := b1 m hm
        omega
      · exact hm'
def fSortSet (f : S → Rz Rs) : S → Rz Rs := fun st => (f st).bind fun x st => match st.lst x with
  | some ds => match ints? ds with
    | some ns => if ns.length < 64 then .ok (.own (.lst ((sset ns).map .int))) st else .no
    | none => .no
  | none => .no
end FL
end
section
set_option Elab.async false
set_option linter.all false
set_option maxRecDepth 100000
set_option maxHeartbeats 4000000
namespace FL
open PySem PySem.Spec PyProof.Rows L2
section
variable {X : Cx} {c : C}
theorem bt_set : bootBuiltins "set" = some (.type "set") := by decide +kernel
theorem de_sortSet {e : Expr} {p p2 q pos : Pos} {f : S → Rz Rs} (hK : X.K = c.b.K) (hc : X.calm = true) (hg : Gl X "sorted") (hm : X.mg "sorted" = none) (hg2 : Gl X "set") (hm2 : X.mg "set" = none) (he : DE X c e f)
    (h1 : starEach [e] X.env = (false, eval e X.env) :: starEach [] X.env := by rfl) (h2 : starEach [.Call (.Name "set" p2) [e] [] q] X.env = (false, eval (.Call (.Name "set" p2) [e] [] q) X.env) :: starEach [] X.env := by rfl)
    (h3 : (backTo q (starEach [] X.env)).any (·.1) = false := by rfl) (h4 : (backTo pos (starEach [] X.env)).any (·.1) = false := by rfl) (hv : bootBuiltins "sorted" = some (.builtin "sorted") := by rfl) :
    DE X c (.Call (.Name "sorted" p) [.Call (.Name "set" p2) [e] [] q] [] pos) (fSortSet f) :=
  PE.mono (pe_callB (cr_sortedSet hc) hg hm hv (pa_cons (pe_callTy (cr_setOfI hc) hg2 hm2 bt_set (pa_cons he pa_nil h1) (by decide) (by decide) h1 h3) pa_nil h2) (by decide) (by decide) h2 h4) fun σ H Q ⟨o, st, rel, h⟩ => by
    show teOf c f σ H _
    refine te_bind (E := fun z => teK c o σ H z Q) rel (Tr.refl o H) teK.e teK.n h fun x st1 v H1 o1 rel1 t1 _ x1 h1 => ?_
    cases hs : st1.lst x with
    | none => simp only [hs] at h1; exact h1.elim
    | some ds =>
      simp only [hs] at h1
      cases hi : ints? ds with
      | none => simp only [hi] at h1; exact h1.elim
      | some ns =>
        simp only [hi] at h1
        split at h1
        · rename_i h64
          obtain ⟨a, vs, rfl, hq, r⟩ := rel1.lst x1 hs
          have ev := ints_at r hi
          subst ev
          refine ⟨a, ns, rfl, by rw [hK]; exact hq, h64, fun p1 k n1 hk => ?_⟩
          refine ⟨p1, fun j => decide (j ∈ ns), k, rfl, upd_same .., by omega, fun ms p2 hp hmem hlen n2 => ?_⟩
          have em : ms = sset ns := rise_eq hp (sset_spec ns).1 fun m => by rw [hmem, (sset_spec ns).2]; simp
          subst em
          have nn : H1 p2 = none := by
            by_cases e : p2 = p1
            · subst e; exact n1
            · rw [upd_ne e] at n2; exact n2
          have relA : SRel c.b o1 st1 σ (upd H1 p1 (SetO X.w p1 (fun j => decide (j ∈ ns)) k)) := rel1.laid n1
          have tA : Tr o1 H1 o1 (upd H1 p1 (SetO X.w p1 (fun j => decide (j ∈ ns)) k)) := Tr.laid n1
          exact give_lst (Hs := H) relA (t1.trans tA).trk (AtL.ints (sset ns)) (fun w H' r' t' xr => h1 w H' o1 r' ((t1.trans tA).trans t') xr) p2 n2
        · exact h1.elim
/-! ### f(x, k = y), f(x) with a default -/
theorem kb_all {K : PySem.W.Frag} {x qual : Str} {params : Arguments} {body : List Stmt} {scope : Scope} {kws : List (Str × V)} {f : Addr} {fd : FuncData} {ps : List Str} (F : FunD K x qual params body scope [] kws f fd) (n : Nat) (ks : List Str)
    (h : ∀ (kV doc pm : Value) (an : Option Addr) (cdv ct : Value) (us ws : List Value), us.length = n → ws.length = ks.length → bindArgs (PySem.W.fnOf x qual params body scope .none kV doc pm an cdv ct) ⟨us, ks.zip ws⟩ = pure (ps.zip (us ++ ws))) :
    KBn K fd ps n ks (fun us ws => us ++ ws) (fun vs zs => vs ++ zs) := by
  obtain ⟨oc, od, dV, kV, doc, pm, an, cdv, ct, osl, rfl, lk, hcd, hD, hK⟩ := F.ex
  rcases hD with ⟨_, rfl⟩ | ⟨e, _⟩
  · exact ⟨fun s us ws X l1 l2 => .of_eq (h kV doc pm an cdv ct us ws l1 l2), fun r1 r2 => r1.append r2⟩
  · exact absurd rfl e
/-- behind the arguments -/
theorem callF_run {o o1 : Own} {σ : L2.St} {H H1 : Hp} {st st1 : S} {rs : List Rs} {vs : List V} {ms : List Md} {F : List Arg → Out} {Q : VK} (rel : SRel c.b o st σ H) (rel1 : SRel c.b o1 st1 σ H1) (t1 : Tr o H o1 H1) (x1 : XReps c.b H o1 H1 σ rs vs)
    (h1 : teK c o σ H (match mkArgs st1 ms rs with
      | none => .no
      | some args => if apartB (rs.map st1.tgt) = true then (match F args with
        | .ret r fin => match back st1 ms rs fin with
          | some st' => .ok r st'
          | none => .no
        | .exc e fin => match back st1 ms rs fin with
          | some st' => .ex e st'
          | none => .no
        | .no => .no) else .no) Q) : spF c.b.K c.b.Hr c.mg F vs H1 Q (WE c.W σ) := by
  cases em : mkArgs st1 ms rs with
  | none => simp only [em] at h1; exact h1.elim
  | some args =>
    simp only [em] at h1
    by_cases ap : apartB (rs.map st1.tgt) = true
    · rw [if_pos ap] at h1
      refine ⟨args, ownC ms vs, call_pre rel rel1 x1 em ap, ?_⟩
      cases z : F args with
      | no => rw [z] at h1; exact h1.elim
      | ret r fin =>
        rw [z] at h1
        dsimp only at h1
        cases eb : back st1 ms rs fin with
        | none => rw [eb] at h1; exact h1.elim
        | some st' =>
          rw [eb] at h1
          intro v H' po ret
          obtain ⟨r2, t2, tp⟩ := call_post rel rel1 t1 x1 em ap po eb
          refine h1 v H' o1 r2 t2 ?_
          cases r with
          | d y => exact ret
          | own m =>
            obtain ⟨a, rfl, q, n⟩ := ret
            refine ⟨a, rfl, q, (rel1.fresh0 n).1, ?_⟩
            cases zz : H a with
            | none => rfl
            | some u => exact absurd n (t1.trk a (by rw [zz]; exact fun z => nomatch z))
          | var _ => exact ret.elim
      | exc ee fin =>
        rw [z] at h1
        dsimp only at h1
        cases eb : back st1 ms rs fin with
        | none => rw [eb] at h1; exact h1.elim
        | some st' =>
          rw [eb] at h1
          intro cls d H' po er
          obtain ⟨r2, t2, tp⟩ := call_post rel rel1 t1 x1 em ap po eb
          exact h1 cls d H' o1 r2 t2 er
    · rw [if_neg ap] at h1
      exact h1.elim
theorem da_two {fa fb : S → Rz Rs} {σ : L2.St} {H : Hp} {R : List V → Hp → Prop} : taOf c (fCons fa (fCons fb fNil)) σ H R → teOf c fa σ H fun v H1 => teOf c fb σ H1 fun u H2 => R [v, u] H2 := fun ⟨o, st, rel, h⟩ => by
  refine te_bind (E := fun z => taK c o σ H z R) rel (Tr.refl o H) taK.e taK.n h fun x st1 v H1 o1 rel1 t1 _ x1 h1 => ?_
  refine te_bind (E := fun z => taK c o σ H z R) rel1 t1 taK.e taK.n (show taK c o σ H ((fb st1).bind fun y st2 => .ok [x, y] st2) R from by
    have e : ((fCons fb fNil st1).bind fun xs st => Rz.ok (x :: xs) st) = ((fb st1).bind fun y st2 => .ok [x, y] st2) := by
      unfold fCons fNil
      cases fb st1 <;> rfl
    rw [← e]; exact h1) fun y st2 u H2 o2 rel2 t2 t12 x2 h2 => ?_
  refine h2 [v, u] H2 o2 rel2 t12 ⟨v, [u], rfl, x1.step rel1 t2, ⟨u, [], rfl, x2.start t1.trk, rfl, fun m em j m' ej => by simp at ej⟩, fun m em j m' ej ev => ?_⟩
  subst em
  obtain ⟨a, ea, q, _, _⟩ := x1
  cases j with
  | zero =>
    have ej' : y = .own m' := by simpa using ej
    subst ej'
    obtain ⟨b, eb, _, _, nb⟩ := x2
    have ev' : u = v := by simpa using ev
    rw [eb, ea] at ev'
    cases ev'
    exact absurd nb (Mut.some q.mu)
  | succ j => simp at ej
theorem te_call2 {F : List Arg → Out} {ms : List Md} {fa fb : S → Rz Rs} {σ : L2.St} {H : Hp} {Q : VK} : teOf c (fCallF F ms (fCons fa (fCons fb fNil))) σ H Q → teOf c fa σ H fun v H1 => teOf c fb σ H1 fun u H2 => spF c.b.K c.b.Hr c.mg F [v, u] H2 Q (WE c.W σ) := fun ⟨o, st, rel, h⟩ => by
  refine da_two (c := c) (R := fun vs H2 => spF c.b.K c.b.Hr c.mg F vs H2 Q (WE c.W σ)) ?_
  refine ta_bind (E := fun z => teK c o σ H z Q) rel (Tr.refl o H) teK.e teK.n h fun rs st1 vs H1 o1 rel1 t1 _ x1 h1 => callF_run rel rel1 t1 x1 h1
end
end FL
end
section
set_option Elab.async false
set_option linter.all false
set_option maxRecDepth 100000
set_option maxHeartbeats 4000000
namespace FL
open PySem PySem.Spec PyProof.Rows L2
section
variable {X : Cx} {c : C}
theorem spF_E {K : PySem.W.Frag} {Hr : Hp} {mg : Str → Option Value} {F : List Arg → Out} {vs : List V} {H : Hp} {Q : VK} {E E' : XK} (m : ∀ cls d H, E cls d H → E' cls d H) : spF K Hr mg F vs H Q E → spF K Hr mg F vs H Q E' := fun ⟨args, o, pre, h⟩ => by
  refine ⟨args, o, pre, ?_⟩
  cases z : F args with
  | no => rw [z] at h; exact h
  | ret r fin => rw [z] at h; exact h
  | exc e fin => rw [z] at h; exact fun cls d H' po er => m cls d H' (h cls d H' po er)
/-- f(e, k = e2) -/
theorem de_callK1 {x nm : Str} {f : Addr} {fd : FuncData} {ps : List Str} {k : Nat} {F : List Arg → Out} {e e2 : Expr} {p pos kpos : Pos} {fa fb : S → Rz Rs} (ms : List Md) (G : FnOk X.prog X.w X.K X.mg X.base CX0 k f fd ps (spF c.b.K c.b.Hr c.mg F)) (hr : Room k X.A) (hm : X.mg x = some (.ref f)) (hk : PySem.W.keepIn X.K (.ref f) = true)
    (hb : KBn X.K fd ps 1 [nm] (fun us ws => us ++ ws) (fun vs zs => vs ++ zs)) (ha : DE X c e fa) (hb2 : DE X c e2 fb) (hg : Gl X x := by rfl) (hdb : (x == ("__debug__" : Str)) = false := by decide)
    (hall : (backToKw pos (keywordEach [⟨some nm, e2, kpos⟩] X.env)).all (·.1.isSome) = true := by rfl) (hks : (backToKw pos (keywordEach [⟨some nm, e2, kpos⟩] X.env)).filterMap (·.1) = [nm] := by rfl)
    (he : starEach [e] X.env = (false, eval e X.env) :: starEach [] X.env := by rfl) (hpl : ((backTo pos (starEach [e] X.env)).any (·.1) || (backToKw pos (keywordEach [⟨some nm, e2, kpos⟩] X.env)).any (·.1.isNone)) = false := by rfl) :
    DE X c (.Call (.Name x p) [e] [⟨some nm, e2, kpos⟩] pos) (fCallF F ms (fCons fa (fCons fb fNil))) :=
  PE.mono (pe_callN (E := fun cls d H => ∃ σ, c.W cls d σ H) G hr hg hm hk hb pass0 (pa_cons ha pa_nil he) (pk_cons hb2 pk_nil) hall hks hdb he hpl) fun σ H Q h => by
    have h2 := te_call2 h
    obtain ⟨o, st, rel, h3⟩ := h2
    refine ⟨o, st, rel, ?_⟩
    cases z : fa st with
    | no => rw [z] at h3; exact h3
    | ex ee st' => rw [z] at h3; exact h3
    | ok r st' =>
      rw [z] at h3
      intro v H1 o1 r1 t1 xr
      obtain ⟨o2, st2, rel2, h4⟩ := h3 v H1 o1 r1 t1 xr
      refine ⟨o2, st2, rel2, ?_⟩
      cases z2 : fb st2 with
      | no => rw [z2] at h4; exact h4
      | ex ee st' => rw [z2] at h4; exact h4
      | ok r' st'' =>
        rw [z2] at h4
        intro u H2 o3 r3 t3 xr3
        exact ⟨rfl, rfl, spF_E (fun _ _ _ h => ⟨σ, h⟩) (h4 u H2 o3 r3 t3 xr3)⟩
/-- f(e), the other parameter an int by default -/
theorem de_callD1 {x : Str} {f : Addr} {fd : FuncData} {ps : List Str} {k : Nat} {F : List Arg → Out} {e : Expr} {p pos : Pos} {fa : S → Rz Rs} (i : Int) (ms : List Md) (G : FnOk X.prog X.w X.K X.mg X.base CX0 k f fd ps (spF c.b.K c.b.Hr c.mg F)) (hr : Room k X.A) (hm : X.mg x = some (.ref f)) (hk : PySem.W.keepIn X.K (.ref f) = true)
    (hb : ∃ ds, Vals [V.int i] ds ∧ Binds X.K fd ps ds) (ha : DE X c e fa) (hg : Gl X x := by rfl) (hdb : (x == ("__debug__" : Str)) = false := by decide)
    (he : starEach [e] X.env = (false, eval e X.env) :: starEach [] X.env := by rfl) (hpl : (backTo pos (starEach [] X.env)).any (·.1) = false := by rfl) :
    DE X c (.Call (.Name x p) [e] [] pos) (fCallF F ms (fCons fa (fCons (fC (.int i)) fNil))) := by
  obtain ⟨ds, hd, hb⟩ := hb
  refine PE.mono (pe_callSD (E := fun σ => WE c.W σ) G hr hg hm hk hb hd (fun σ => pass00 σ) (pa_cons ha pa_nil he) hdb he hpl) fun σ H Q h => ?_
  have h2 := te_call2 h
  obtain ⟨o, st, rel, h3⟩ := h2
  refine ⟨o, st, rel, ?_⟩
  cases z : fa st with
  | no => rw [z] at h3; exact h3
  | ex ee st' => rw [z] at h3; exact h3
  | ok r st' =>
    rw [z] at h3
    intro v H1 o1 r1 t1 xr
    obtain ⟨o2, st2, rel2, h4⟩ := h3 v H1 o1 r1 t1 xr
    exact h4 (.int i) H1 o2 rel2 (Tr.refl _ _) At.mk_int
/-! ### xs.count(n), xs.remove(n): lists of ints -/
def gCount : S → Rs → List Rs → Option Rs := fun st x xs => match st.lst x, xs with
  | some ds, [.d (.int k)] => (ints? ds).map fun ns => .d (.int (ns.count k : Nat))
  | _, _ => none
def fCount (fo : S → Rz Rs) (fa : S → Rz (List Rs)) : S → Rz Rs := fun st => (fo st).bind fun x st => if (st.lst x).isSome = true then (fa st).bind fun xs st => match gCount st x xs with
  | some r => .ok r st
  | none => .no else .no
theorem de_count {x : Str} {i : Nat} {e : Expr} {p apos cpos : Pos} {fa : S → Rz (List Rs)} (hK : X.K = c.b.K) (ho : DE X c (.Name x p) (fVar i)) (ha : DA X c [e] fa) (hbase : attributeBase (.Name x p) "count" X.env (eval (.Name x p) X.env) = eval (.Name x p) X.env := by rfl)
    (hfew : ((backTo cpos (starEach [e] X.env)).all (fun x => !x.1) && (backToKw cpos (keywordEach [] X.env)).all (fun x => x.1.isSome) && decide ([e].length + ([] : List Keyword).length + (if ([] : List Keyword).isEmpty then 0 else 1) < 30)) = true := by rfl)
    (hline : (apos.endLine == cpos.line) = true := by rfl) (hst : starEach [e] X.env = (false, eval e X.env) :: starEach [] X.env := by rfl) (hplain : (backTo cpos (starEach [] X.env)).any (·.1) = false := by rfl) :
    DE X c (.Call (.Attribute (.Name x p) "count" apos) [e] [] cpos) (fCount (fVar i) fa) :=
  PE.mono (pe_bm PySem.F.plainAttrs_list PySem.F.slot_list_count PySem.F.type_list_count mt_lcount ho ha hbase hfew hline hst hplain) fun σ H Q ⟨o, st, rel, h⟩ => by
    rw [hK]
    refine te_bind (E := fun z => teK c o σ H z Q) rel (Tr.refl o H) teK.e teK.n h fun x st1 v H1 o1 rel1 t1 _ x1 h1 => ?_
    split at h1
    · rename_i hs
      cases hl : st1.lst x with
      | none => rw [hl] at hs; exact nomatch hs
      | some ds0 =>
        obtain ⟨a0, vs0, rfl, hq0, r0⟩ := rel1.lst x1 hl
        refine ⟨?_, ?_⟩
        · exact .inl ⟨rfl, vs0, hq0⟩
        · refine ta_bind (E := fun z => teK c o σ H z Q) rel1 t1 teK.e teK.n h1 fun xs st2 us H2 o2 rel2 t2 t12 x2 h2 => ?_
          cases hg : gCount st2 x xs with
          | none => simp only [hg] at h2; exact h2.elim
          | some w =>
            simp only [hg] at h2
            unfold gCount at hg
            split at hg
            · rename_i ds k hds
              obtain ⟨ns, hi, ew⟩ := Option.map_eq_some_iff.mp hg
              subst ew
              obtain ⟨a, vs, ea, hq, r⟩ := rel2.lst (x1.step rel1 t2) hds
              have ev := ints_at r hi
              subst ev
              obtain ⟨u, eu, xu⟩ := xreps1 x2
              subst eu
              have eu := At.int_inv xu
              subst eu
              refine ⟨a, ns, k, ea, rfl, hq, ?_⟩
              exact h2 (.int (ns.count k : Nat)) H2 o2 rel2 t12 At.mk_int
            · exact nomatch hg
    · exact h1.elim
end
end FL
end
section
set_option Elab.async false
set_option linter.all false
set_option maxRecDepth 100000
set_option maxHeartbeats 4000000
namespace FL
open PySem PySem.Spec PyProof.Rows L2
/-! ### xs.remove(n) -/
def gRemove : M → List Rs → Option (Rs × M) := fun m xs => match m, xs with
  | .lst ds, [.d (.int k)] => match ints? ds with
    | some ns => if k ∈ ns then some (.d .none, .lst ((ns.erase k).map .int)) else none
    | none => none
  | _, _ => none
theorem erase_at : ∀ {ns : List Int} {k : Int}, k ∈ ns → ∃ j : Nat, ns[j]? = some k ∧ (∀ m : Nat, m < j → ns[m]? ≠ some k) ∧ ns.erase k = ns.eraseIdx j
  | n :: ns, k, h => by
    by_cases e : n = k
    · exact ⟨0, by simp [e], fun m hm => absurd hm (by omega), by simp [e]⟩
    · obtain ⟨j, h1, h2, h3⟩ := erase_at (ns := ns) (k := k) ((List.mem_cons.mp h).resolve_left fun z => e z.symm)
      refine ⟨j + 1, by simpa using h1, fun m hm => ?_, ?_⟩
      · cases m with
        | zero => simpa using e
        | succ m => simpa using h2 m (by omega)
      · rw [List.erase_cons_tail (by simpa using e), h3]
        rfl
theorem ms_remove {c : C} : MutS c rRemI gRemove := fun o st σ H Hs a m m' xs z vs Q rel hs q x e k => by
  unfold gRemove at e
  split at e
  · rename_i ds n
    cases hi : ints? ds with
    | none => rw [hi] at e; exact nomatch e
    | some ns =>
      rw [hi] at e
      simp only at e
      split at e
      · rename_i hm
        obtain ⟨vs0, hH, r⟩ := q
        have ev := ints_at r hi
        subst ev
        obtain ⟨u, rfl, xu⟩ := xreps1 x
        have eu := At.int_inv xu
        subst eu
        have e' : (Rs.d .none, M.lst ((ns.erase n).map .int)) = (z, m') := Option.some.inj e
        injection e' with e1 e2
        subst e1 e2
        obtain ⟨j, h1, h2, h3⟩ := erase_at hm
        refine ⟨a, ns, n, j, rfl, rfl, hH, h1, h2, k .non (.lst ((ns.eraseIdx j).map V.int)) trivial ⟨_, upd_same, ?_⟩ ⟨At.mk_none, _, rfl⟩⟩
        rw [h3]
        exact AtL.ints _
      · exact nomatch e
  · exact nomatch e
section
variable {X : Cx} {c : C}
theorem d_remove {i : Nat} {x : Str} {e : Expr} {p apos cpos : Pos} {fa : S → Rz (List Rs)} (hK : X.K = c.b.K) (ho : PE X (.Name x p) (tVar i)) (ha : DA X c [e] fa)
    (hbase : attributeBase (.Name x p) "remove" X.env (eval (.Name x p) X.env) = eval (.Name x p) X.env := by rfl) (hfew : ((backTo cpos (starEach [e] X.env)).all (fun x => !x.1) && (backToKw cpos (keywordEach [] X.env)).all (fun x => x.1.isSome) && decide ([e].length + ([] : List Keyword).length + (if ([] : List Keyword).isEmpty then 0 else 1) < 30)) = true := by rfl)
    (hline : (apos.endLine == cpos.line) = true := by rfl) (hst : starEach [e] X.env = (false, eval e X.env) :: starEach [] X.env := by rfl) (hplain : (backTo cpos (starEach [] X.env)).any (·.1) = false := by rfl) :
    DE X c (.Call (.Attribute (.Name x p) "remove" apos) [e] [] cpos) (fMut "list" gRemove i fa) :=
  de_mut hK PySem.F.plainAttrs_list PySem.F.slot_list_remove PySem.F.type_list_remove mt_remove ms_remove ho ha hbase hfew hline hst hplain
end
/-! ### sorted(xs), xs a list of data that are alike -/
def dsort (ds : List D) : List D := ds.mergeSort (PySem.W.dataLe false id)
def sortB (ds : List D) : Bool := (ds.all fun d => ds.all fun d' => PySem.W.alike d d') && ((ds.all fun d => match d with | .tuple (_ :: _) => true | _ => false) || (ds.all fun d => match d with | .none => false | .tuple _ => false | _ => true)) && (ds.all fun d => decide (d.depth ≤ 60)) && decide (ds.length ≤ sizeLine)
theorem sortB_inv {ds : List D} (h : sortB ds = true) : PySem.W.AllAlike ds ∧ PySem.W.Sortable ds ∧ (∀ d ∈ ds, d.depth ≤ 60) ∧ ds.length ≤ sizeLine := by
  unfold sortB at h
  simp only [Bool.and_eq_true, decide_eq_true_eq] at h
  obtain ⟨⟨⟨h1, h2⟩, h3⟩, h4⟩ := h
  refine ⟨fun d hd d' hd' => List.all_eq_true.mp (List.all_eq_true.mp h1 d hd) d' hd', ?_, fun d hd => by simpa using List.all_eq_true.mp h3 d hd, h4⟩
  rcases Bool.or_eq_true _ _ |>.mp h2 with h2 | h2
  · refine .inl fun d hd => ?_
    have := List.all_eq_true.mp h2 d hd
    split at this
    · exact ⟨_, _, rfl⟩
    · exact nomatch this
  · refine .inr fun d hd => ?_
    have := List.all_eq_true.mp h2 d hd
    split at this
    · exact nomatch this
    · exact nomatch this
    · rename_i n1 n2
      exact ⟨n1, n2⟩
def rSortD (K : PySem.W.Frag) (Hr : Hp) : List V → Hp → VK → Prop := fun xs H Q => ∃ (l : Addr) (vs : List V) (ds : List D), xs = [.ref l] ∧ SqL K H l vs ∧ AtL K Hr H ds vs ∧ (∀ c u, Hr c = some u → H c = some u) ∧ sortB ds = true ∧
  ∀ (p : Addr) (ws : List V), H p = none → AtL K Hr H (dsort ds) ws → Q (.ref p) (upd H p (.lst ws))
theorem each_at {K : PySem.W.Frag} {Hr H : Hp} : ∀ {ds : List D} {vs : List V} {us : List Value}, AtL K Hr H ds vs → Vals vs us → PySem.W.EachIs (fun (u : Value) (d : D) => ∃ v, RelV v u ∧ At K Hr H d v) us ds
  | [], _, _, h, r => by
    have e := h.nil_inv
    subst e
    cases r
    exact .nil
  | d :: ds, _, _, h, r => by
    obtain ⟨v, vr, rfl, q, t⟩ := h.cons_inv
    cases r with
    | cons r1 r2 => exact .cons ⟨v, r1, q⟩ (each_at t r2)
theorem at_each {K : PySem.W.Frag} {Hr H : Hp} : ∀ {ds : List D} {us : List Value}, PySem.W.EachIs (fun (u : Value) (d : D) => ∃ v, RelV v u ∧ At K Hr H d v) us ds → ∃ vs, Vals vs us ∧ AtL K Hr H ds vs
  | _, _, .nil => ⟨[], .nil, .nil⟩
  | _, _, .cons ⟨v, r, q⟩ t => by
    obtain ⟨vs, rs, qs⟩ := at_each t
    exact ⟨v :: vs, .cons r rs, .cons q qs⟩
theorem cr_sortD {X : Cx} {Hr : Hp} (hu : X.A.units + 70 < cLine) : CallR X (.builtin "sorted") (rSortD X.K Hr) := by
  intro pins s σ H xs us Q I r h
  obtain ⟨l, vs, ds, rfl, hs, ha, root, hB, q⟩ := h
  rw [Vals.ref1 r]
  obtain ⟨its, rv, pl, hz⟩ := I.list hs
  obtain ⟨b1, b2, b3, b4⟩ := sortB_inv hB
  have e := each_at ha rv
  have er : PySem.W.EachIs (fun (u : Value) (d : D) => ∃ as, Reads s.heap u (id d) as) its ds := e.mono fun u d ⟨v, r1, q1⟩ => Dp.reads I d v u (At.dp root d v q1) r1
  refine PySem.W.sorted_data (enc := id) pl.isList e er (by rw [List.map_id]; exact b1) (by rw [List.map_id]; exact b2) b4 (fun d hd => by
    have := b3 d hd
    show X.A.units + 2 + d.depth < cLine
    omega) fun out lo eo => ?_
  obtain ⟨ws, rw_, qw⟩ := at_each eo
  obtain ⟨cc, hc⟩ := PyProof.Rows.sortedAll_at s.heap its (List.toArray out)
  have hd : s.heap.objs.size ≤ s.heap.objs.size + 1 := Nat.le_succ _
  refine ⟨.ref (s.heap.objs.size + 1), upd H (s.heap.objs.size + 1) (.lst ws), I.laid (t' := s.toks) (fun b o q => PyProof.Rows.sortedAll_old q) hd ⟨?_, out, cc, rw_, hc⟩, rfl, q _ ws (I.hok.fresh hd) qw⟩
  rw [rw_.length, lo]
  exact b4
def gSortedD : S → List Rs → Option Rs := fun st xs => match xs with
  | [x] => match st.lst x with
    | some ds => if sortB ds = true then some (.own (.lst (dsort ds))) else none
    | none => none
  | _ => none
theorem cs_sortedD {c : C} : CallS c (rSortD c.b.K c.b.Hr) gSortedD := fun o st σ H Hs xs z vs Q rel hs x e k => by
  unfold gSortedD at e
  split at e
  · rename_i r
    cases hl : st.lst r with
    | none => rw [hl] at e; exact nomatch e
    | some ds =>
      rw [hl] at e
      simp only at e
      split at e
      · rename_i hB
        have e' : Rs.own (.lst (dsort ds)) = z := Option.some.inj e
        subst e'
        obtain ⟨v, rfl, xv⟩ := xreps1 x
        obtain ⟨a, ws, rfl, hq, ha⟩ := rel.lst xv hl
        exact ⟨a, ws, ds, rfl, hq, ha, fun c u h => (rel.root c u h).1, hB, fun p us np q => give_lst rel hs q k p np⟩
      · exact nomatch e
  · exact nomatch e
abbrev gSortedX := gOrC (gOrC gSortedI gSortDI) gSortedD
theorem b_sortedX {X : Cx} {c : C} (hK : X.K = c.b.K) (hc : X.calm = true) (hu : X.A.units + 100 < cLine) : BX X c (.builtin "sorted") gSortedX := ⟨_, CallR.or (CallR.or cr_sortedI (cr_sortDI hc)) (cr_sortD (Hr := c.b.Hr) (by omega)), by rw [hK]; exact (cs_sortedI.or cs_sortDI).or cs_sortedD⟩
end FL
end
section
set_option Elab.async false
set_option linter.all false
set_option maxRecDepth 100000
set_option maxHeartbeats 4000000
namespace FL
open PySem PySem.Spec PyProof.Rows L2
/-! ### min of a tuple of ints -/
def rMinT (K : PySem.W.Frag) : List V → Hp → VK → Prop := fun vs H Q => ∃ (a : Addr) (n : Int) (ns : List Int), vs = [V.ref a] ∧ SqT K H a ((n :: ns).map V.int) ∧ Q (.int (ns.foldl min n)) H
theorem depth_ints : ∀ ns : List Int, PyData.depthAll (ns.map .int) ≤ 1
  | [] => by simp [PyData.depthAll]
  | n :: ns => by
    have := depth_ints ns
    simp only [List.map_cons, PyData.depthAll, PyData.depth]
    omega
theorem cr_minT {X : Cx} (hc : X.calm = true) (hu : X.A.units + 70 < cLine) : CallR X (.builtin "min") (rMinT X.K) := by
  intro pins s σ H xs us Q I r h
  obtain ⟨a, n, ns, rfl, hs, q⟩ := h
  rw [Vals.ref1 r]
  obtain ⟨its, rv, pl, hz⟩ := I.tuple hs
  have hT : s.heap.IsTuple a its.toArray := pl
  have hi := rv.ints
  refine PySem.W.min_tuple_data (x := .int n) (xs := ns.map .int) (as := []) (I.ok.hd hc) hT (by simpa using hi.reads s.heap) (PySem.W.alikeAll_datum (α := Int) (n :: ns)) (by
    have := depth_ints (n :: ns)
    show _ + 1 + PyData.depthAll ((n :: ns).map .int) < cLine
    omega) fun i v h' tk bs _ rr hk => ?_
  rw [PySem.W.minD_ints] at rr
  cases rr
  exact ⟨.int _, H, I.kept (t' := tk) hk, ⟨_, rfl⟩, q⟩
def gMin1T : S → List Rs → Option Rs := fun st xs => match xs with
  | [.d (.tuple ds)] => match ints? ds with
    | some (n :: ns) => some (.d (.int (ns.foldl min n)))
    | _ => none
  | _ => none
theorem cs_minT {c : C} : CallS c (rMinT c.b.K) gMin1T := fun o st σ H Hs xs z vs Q rel hs x e k => by
  unfold gMin1T at e
  split at e
  · rename_i ds
    split at e
    · rename_i n ns hi
      have e' : Rs.d (.int (ns.foldl min n)) = z := Option.some.inj e
      subst e'
      obtain ⟨v, rfl, xv⟩ := xreps1 x
      obtain ⟨a, ws, rfl, hq, ha⟩ := At.tup_inv xv
      have ev := ints_at ha hi
      subst ev
      exact ⟨a, n, ns, rfl, hq, give_d rel .int k⟩
    · exact nomatch e
  · exact nomatch e
abbrev gMinT := gOrC gMinX gMin1T
theorem b_minT {X : Cx} {c : C} (hK : X.K = c.b.K) (hc : X.calm = true) (hu : X.A.units + 100 < cLine) : BX X c (.builtin "min") gMinT := ⟨_, CallR.or (CallR.or (call_min2 hc) (cr_min hc)) (cr_minT hc (by omega)), by rw [hK]; exact (cs_min2.or cs_min1).or cs_minT⟩
end FL
end
section
set_option Elab.async false
set_option linter.all false
set_option maxRecDepth 100000
set_option maxHeartbeats 4000000
namespace FL
open PySem PySem.Spec PyProof.Rows L2
/-! ### a comprehension over d.items() -/
section
variable {X : Cx} {c : C}
theorem lc_go1 {ks : List Nat} {t : Rs → S → Option S} {ft : S → Rz Bool} {fe : S → Rz Rs} {fi : S → Rz (List D)} {wi : TI} {g : TG} {tt : TT} {te : TE} (hg : ∀ {v σ H Q}, tgOf (noW c) ks t v σ H Q → g v σ H Q) (ht : ∀ {σ H Q}, ttOf (noW c) ft σ H Q → tt σ H Q) (he : ∀ {σ H Q}, teOf (noW c) fe σ H Q → te σ H Q)
    {σ : L2.St} {H : Hp} {Q : VK} {o : Own} {st : S} (rel : SRel c.b o st σ H) (hi : ∀ R, tiK c o σ H (fi st) R → wi σ H R) (h : teK c o σ H (fLc ks t ft fe fi st) Q) : tLc wi g tt te ks σ H Q := by
  refine hi _ ?_
  unfold fLc at h
  cases z : fi st with
  | no => rw [z] at h; exact h
  | ex e st1 => rw [z] at h; exact h
  | ok xs st1 =>
    rw [z] at h
    intro J H1 o1 G rel1 t1 w g1 Dl nD
    have h' : teK c o σ H (if ks.all (dataOnly st1.δ) = true then (match lcLoop ks t ft fe xs [] (wipeS ks st1) with
      | .ok acc st2 => .ok (.own (.lst acc)) (restS ks st1 st2)
      | _ => .no) else .no) Q := h
    clear h
    by_cases hd : ks.all (dataOnly st1.δ) = true
    · rw [if_pos hd] at h'
      obtain ⟨oD, hD0⟩ := rel1.fresh0 nD
      have nD0 : H Dl = none := by
        cases q : H Dl with
        | none => rfl
        | some u => exact absurd nD (t1.trk Dl (by rw [q]; exact fun z => nomatch z))
      -- the state ahead of turn i
      refine ⟨fun i m H2 => m = xs.length - i ∧ i ≤ xs.length ∧ ∃ o2 st2 acc vs, SRel c.b o2 st2 (wipe σ ks) H2 ∧ Tr o H o2 H2 ∧ TP c.b.K H1 H2 ∧ G o2 H2 ∧ o2 Dl = none ∧ H2 Dl = some (.lst vs) ∧ AtL c.b.K c.b.Hr H2 acc vs ∧
        teK c o σ H (match lcLoop ks t ft fe (xs.drop i) acc st2 with | .ok acc st2 => .ok (.own (.lst acc)) (restS ks st1 st2) | _ => .no) Q, ⟨xs.length, by simp, Nat.zero_le _, o1, wipeS ks st1, [], [], (rel1.laid nD).wipe ks, t1.trans (Tr.laid nD), tp_upd nD, w.stay rel1 g1 (Tr.laid nD), oD, upd_same, .nil, by simpa using h'⟩, ?_⟩
      rintro i m H2 ⟨rfl, hle, o2, st2, acc, vs, rel2, t2, tp2, g2, n2, hD, ha, hl⟩
      by_cases hlt : i < xs.length
      · refine .inr ⟨w.go rel2 g2 hlt, fun H3 => ∃ o2 st2 acc vs, SRel c.b o2 st2 (wipe σ ks) H3 ∧ Tr o H o2 H3 ∧ TP c.b.K H1 H3 ∧ G o2 H3 ∧ o2 Dl = none ∧ H3 Dl = some (.lst vs) ∧ AtL c.b.K c.b.Hr H3 acc vs ∧
          teK c o σ H (match lcLoop ks t ft fe (xs.drop (i + 1)) acc st2 with | .ok acc st2 => .ok (.own (.lst acc)) (restS ks st1 st2) | _ => .no) Q, fun H3 n => ⟨xs.length - (i + 1), by omega, rfl, hlt, n⟩, fun x H3 y => ?_⟩
        obtain ⟨rel3, t3, at3⟩ := w.yld rel2 g2 y
        have ex : xs[i]? = some xs[i] := List.getElem?_eq_getElem hlt
        have xa := at3 _ ex
        rw [List.drop_eq_getElem_cons hlt] at hl
        unfold lcLoop at hl
        cases zt : t (.d xs[i]) st2 with
        | none => simp only [zt] at hl; exact hl.elim
        | some st3 =>
          simp only [zt] at hl
          refine hg ⟨o2, H3, o2, st2, .d xs[i], st3, rel3, Tr.refl o2 H3, fun a n => (rel3.fresh0 n).2, xa, zt, fun σ4 H4 o4 rel4 t4 tp4 ch4 => ?_⟩
          have ew : wipe σ4 ks = wipe σ ks := wipe_chg ch4
          refine ⟨ew, ?_⟩
          have g4 := w.stay rel3 (w.stay rel2 g2 t3) t4
          have t24 := t3.trans t4
          have tp24 : TP c.b.K H2 H4 := rel2.tups t24
          refine ht ⟨o4, st3, rel4, ?_⟩
          cases zf : ft st3 with
          | no => simp only [zf] at hl; exact hl.elim
          | ex e st4 => simp only [zf] at hl; exact hl.elim
          | ok k st4 =>
            simp only [zf] at hl
            intro H5 o5 rel5 t5
            have g5 := w.stay rel4 g4 t5
            have t25 := t24.trans t5
            obtain ⟨hD5, on5⟩ := t25.keep Dl _ hD (.inl n2)
            have tp25 : TP c.b.K H2 H5 := rel2.tups t25
            cases k with
            | false =>
              refine iteF ⟨o5, wipeS ks st4, acc, vs, ?_, t2.trans t25, tp2.trans tp25, g5, on5.trans n2, hD5, ha.mono tp25 _ _, hl⟩
              have := rel5.wipe ks
              rw [ew] at this
              exact this
            | true =>
              refine iteT (he ⟨o5, st4, rel5, ?_⟩)
              cases zx : fe st4 with
              | no => simp only [zx] at hl; exact hl.elim
              | ex e st5 => simp only [zx] at hl; exact hl.elim
              | ok r st5 =>
                cases r with
                | own _ => simp only [zx] at hl; exact hl.elim
                | var _ => simp only [zx] at hl; exact hl.elim
                | d y =>
                  simp only [zx] at hl
                  intro v6 H6 o6 rel6 t6 x6
                  have t26 := t25.trans t6
                  obtain ⟨hD6, on6⟩ := t26.keep Dl _ hD (.inl n2)
                  have tp26 : TP c.b.K H2 H6 := rel2.tups t26
                  by_cases hz : acc.length < sizeLine
                  · rw [if_pos hz] at hl
                    have mu : Mut (H6 Dl) := by rw [hD6]; trivial
                    have kt := fun u => tp_write (K := c.b.K) (u := u) mu
                    refine ⟨vs, hD6, by rw [ha.len]; exact hz, o6, wipeS ks st5, acc ++ [y], vs ++ [v6], ?_, (t2.trans t26).tmp nD0, (tp2.trans tp26).trans (kt _), ?_, on6.trans n2, upd_same, ?_, hl⟩
                    · have := (rel6.tmp (u := .lst (vs ++ [v6])) (on6.trans n2) hD0 mu trivial).wipe ks
                      rw [ew] at this
                      exact this
                    · exact w.tmp g1 nD (w.stay rel5 g5 t6) mu
                    · exact ((ha.mono tp26 _ _).append (.cons x6 .nil)).mono (kt _) _ _
                  · rw [if_neg hz] at hl; exact hl.elim
      · have e : i = xs.length := by omega
        subst e
        rw [List.drop_length] at hl
        refine .inl ⟨w.stop rel2 g2 (Nat.le_refl _), ?_⟩
        exact hl (.ref Dl) H2 o2 (rel1.rest rel2 tp2 hd) t2 ⟨Dl, rfl, ⟨vs, hD, ha⟩, n2, nD0⟩
    · rw [if_neg hd] at h'; exact h'.elim
end
/-- the pairs of the locked dict, each a new tuple that is known -/
def ItiF (d : Addr) (o : Obj) (kvs : List (Key × V)) : It :=
  ⟨fun i H => H d = some (.frz o (.dK kvs)) ∧ i < kvs.length, fun i H x H' => ∃ T ob k v, kvs[i]? = some (k, v) ∧ x = .ref T ∧ H T = none ∧ ob.dict = none ∧ H' = upd H T (.frz ob (.tup [kV k, v])), fun i H => H d = some (.frz o (.dK kvs)) ∧ kvs.length ≤ i⟩
theorem turn_itemsF {P : Program} {w : World} {K : PySem.W.Frag} {d : Addr} {o : Obj} {es : Array DictEntry} {ep : Nat} {kvs : List (Key × V)} {elts : List Expr} {kk : Nat} {tpos : Pos} (it : Addr) (hod : o.data = .dict es ep) :
    Turn P w K (.Tuple elts kk tpos) (ItiF d o kvs) [it] it (fun i h => ∃ ok ov, IsItemIter h it d i kvs.length ep ok ov) where
  mem := by simp
  obj := fun i h st b hb => by
    have e : b = it := by simpa using hb
    subst e
    obtain ⟨ok, ov, e⟩ := st
    exact ⟨_, e, fun v z => nomatch z⟩
  keep := fun i h h' st k => let ⟨ok, ov, e⟩ := st; ⟨ok, ov, k it (by simp) _ e⟩
  item := by
    intro X hP hw hK hc i pins s σ H E I hf st hg
    subst hP hw hK
    obtain ⟨hd, hi⟩ := hg
    obtain ⟨hs, hgd, hx, es', ep', vs, hdt, hsz, kv, hm⟩ := I.frzK hd
    obtain ⟨rfl, rfl⟩ := dict_ep hod hdt
    obtain ⟨⟨k, v⟩, hkv⟩ : ∃ p, kvs[i]? = some p := ⟨kvs[i], List.getElem?_eq_getElem hi⟩
    obtain ⟨u, hu, ru⟩ := kv_get kv hkv
    have hl : kvs.length = vs.length := Paired.length kv
    obtain ⟨ok, ov, he⟩ := st
    rw [hl] at he
    have hlt : it < s.heap.objs.size := Heap.lt_size he
    refine wpAny_pyNext_items_item he hm hu fun key h' hkey ho hT hz hk => ?_
    refine ⟨_, rfl, wpAny_letOwnedTupleGo_items (s := { s with heap := h' }) ho fun h'' he' sb => ?_⟩
    have hT2 : h''.get? s.heap.objs.size = some { cls := .type "tuple", data := .seq #[key, u] } := (sb.2 _ (Nat.ne_of_gt hlt)).trans hT
    have new : ObjOk X.prog X.w (upd H s.heap.objs.size (.frz (tupO [key, u]) (.tup [kV k, v]))) h'' s.heap.objs.size (.frz (tupO [key, u]) (.tup [kV k, v])) :=
      tupO_ok hT2 rfl (.cons (relV_key (show keyIs k key = true from hkey)) (.cons ru .nil)) (by show 2 ≤ sizeLine; decide)
    have I1 : Inv X pins σ (upd H s.heap.objs.size (.frz (tupO [key, u]) (.tup [kV k, v]))) { s with heap := h'' } :=
      I.turnedNew (t' := s.toks) (ch := [it]) (fun b ob hb e => (sb.2 b (by simpa using hb)).trans (hk b ob (by simpa using hb) e)) hf (Nat.le_refl _) new
    refine ⟨.ref s.heap.objs.size, _, I1, rfl, ⟨_, _, k, v, hkv, rfl, I.hok.fresh (Nat.le_refl _), rfl, rfl⟩, ⟨key, u, ?_⟩, fun b hb => ?_⟩
    · rw [hl]; exact he'
    · have e : b = it := by simpa using hb
      rw [e, upd_ne (Nat.ne_of_lt hlt)]
      exact (hf it (by simp)).1
  done := by
    intro X hP hw hK hc i pins s σ H E I hf st hg
    subst hP hw hK
    obtain ⟨hd, hi⟩ := hg
    obtain ⟨f0, f1, f2, f3, f4, f5⟩ := hf it (by simp)
    obtain ⟨hs, hgd, hx, es', ep', vs, hdt, hsz, kv, hm⟩ := I.frzK hd
    obtain ⟨rfl, rfl⟩ := dict_ep hod hdt
    have hl : kvs.length = vs.length := Paired.length kv
    obtain ⟨ok, ov, he⟩ := st
    rw [hl] at he
    exact wpAny_pyNext_items_end (I.ok.hd hc) he hm (List.getElem?_eq_none (by omega)) fun h' eb => ⟨rfl, I.turned (t' := s.toks) (fun b ob hb e => eb b ob hb e) f0 f1 f3 f4 f5⟩
  self := fun A i s Q E st h => let ⟨_, _, e⟩ := st; PySem.W.kcp_self e h
def iItemsF (td : TE) : TI := fun σ H R => td σ H fun x H1 => ∃ d o kvs, x = .ref d ∧ H1 d = some (.frz o (.dK kvs)) ∧ R (ItiF d o kvs) H1
theorem pi_itemsF {X : Cx} {e : Expr} {td : TE} {apos cpos tpos : Pos} {elts : List Expr} {kk : Nat} (he : PE X e td) (hbase : attributeBase e "items" X.env (eval e X.env) = eval e X.env := by rfl) (hline : (apos.endLine == cpos.line) = true := by rfl) :
    PI X (.Tuple elts kk tpos) (.Call (.Attribute e "items" apos) [] [] cpos) (iItemsF td) := by
  refine ⟨fun pins s σ H R I h => ?_⟩
  refine wpAny_Call_method (T := "dict") (id := "dict.items") hbase rfl hline F.plainAttrs_dict F.slot_dict_items F.type_dict_items (thn (he.run pins s σ H _ I h) fun u s1 ⟨x, H1, I1, rx, d, o, kvs, ex, hd, q⟩ => ?_)
  subst ex
  obtain rfl : u = Value.ref d := rx
  obtain ⟨hs, hgd, hx, es, ep, vs, hdt, hsz, kv, hm⟩ := I1.frzK hd
  have hl : kvs.length = vs.length := Paired.length kv
  refine ⟨hm.dictOf.typeIs, hm.dictOf.mapOf.noDict, ?_⟩
  have I2 : Inv X pins σ H1 { s1 with heap := s1.heap.push { cls := .type "dict_items", data := .fields #[.ref d] } } := I1.kept (t' := s1.toks) fun b ob q => Heap.get?_push_of_some _ q
  have fin : wpAny (model X.prog X.w) X.A (pyIter (.ref s1.heap.objs.size)) (PIE X pins σ (.Tuple elts kk tpos) R) X.xe { s1 with heap := s1.heap.push { cls := .type "dict_items", data := .fields #[.ref d] } } := by
    refine wpAny_pyIter_items (d := d) (knd := mixKind X.prog X.w) ⟨_, Heap.get?_push_size _ rfl, rfl, rfl⟩ (hm.push _) (pi_one (tk := s1.toks) I2 _ (turn_itemsF _ hdt) ⟨.none, .none, ?_⟩ q)
    rw [hl]
    exact Heap.get?_push_size _ rfl
  show wpAny _ _ (callWith cpos (.builtin "dict.items") [.ref d] [] []) _ X.xe s1
  exact method_meetsIn F.slot_dict_items F.entry_dict_items rfl (PySem.evalArgs_none ⟨rfl, hm.dictOf.typeIs, F.args_dict_items_1 _, _, meets_dict_items (mixKind X.prog X.w) d hs, ⟨vs, hm.dictOf⟩, fin⟩)
/-! ### a slot's dict hidden, and shown again -/
def ownX (o : Own) (a : Addr) : Own := fun c => if c = a then none else o c
theorem ownX_same {o : Own} {a : Addr} : ownX o a a = none := by unfold ownX; rw [if_pos rfl]
theorem ownX_ne {o : Own} {a c : Addr} (h : c ≠ a) : ownX o a c = o c := by unfold ownX; rw [if_neg h]
def kD : Key → D
  | .inl i => .int i
  | .inr x => .str x
theorem kD_at {K : PySem.W.Frag} {Hr H : Hp} : ∀ k : Key, At K Hr H (kD k) (kV k)
  | .inl _ => .int
  | .inr _ => .str
def itemsD (kvs : List (Key × D)) : List D := kvs.map fun z => .tuple [kD z.1, z.2]
theorem sqt_frz {K : PySem.W.Frag} {H : Hp} {a : Addr} {od : Obj} {ws : List (Key × V)} (e : H a = some (.dK ws)) : ∀ b vs, TqT K H b vs → TqT K (upd H a (.frz od (.dK ws))) b vs := fun b vs q => by
  rcases q with ⟨ob, q, dd⟩ | q
  · refine .inl ⟨ob, ?_, dd⟩
    rw [upd_ne (fun z => by rw [z, e] at q; cases q)]
    exact q
  · exact .inr q
theorem tp_frz {K : PySem.W.Frag} {H : Hp} {a : Addr} {od : Obj} {ws : List (Key × V)} (e : H a = some (.dK ws)) : TP K H (upd H a (.frz od (.dK ws))) := ⟨fun b vs q => sqt_frz e b vs q, fun c vs o q => by
  rw [upd_ne (fun z => by rw [z, e] at q; cases q)]
  exact q⟩
theorem sqt_thaw {K : PySem.W.Frag} {H : Hp} {a : Addr} {od : Obj} {u : HO} {ws : List (Key × V)} (e : H a = some (.frz od (.dK ws))) : ∀ b vs, TqT K H b vs → TqT K (upd H a u) b vs := fun b vs q => by
  rcases q with ⟨ob, q, dd⟩ | q
  · refine .inl ⟨ob, ?_, dd⟩
    rw [upd_ne (fun z => by rw [z, e] at q; cases q)]
    exact q
  · exact .inr q
theorem tp_thaw {K : PySem.W.Frag} {H : Hp} {a : Addr} {od : Obj} {u : HO} {ws : List (Key × V)} (e : H a = some (.frz od (.dK ws))) : TP K H (upd H a u) := ⟨fun b vs q => sqt_thaw e b vs q, fun c vs o q => by
  rw [upd_ne (fun z => by rw [z, e] at q; cases q)]
  exact q⟩
section
variable {b : B} {o o' : Own} {st st' : S} {σ : L2.St} {H H' : Hp} {i : Nat} {a : Addr} {od : Obj} {ws : List (Key × V)}
theorem SRel.hide (h : SRel b o st σ H) (n : o a = some (.slot i)) (e : H a = some (.dK ws)) : SRel b (ownX o a) { st with δ := st.δ.set i none } σ (upd H a (.frz od (.dK ws))) := by
  have kt := tp_frz (K := b.K) (od := od) e
  have n0 : b.H0 a = none := h.sfresh a i n
  refine ⟨by simp [h.len], fun k r e1 => ?_, fun j m e1 => ?_, fun x w e1 => ?_, fun x u e1 f => ?_, fun x k e1 => ?_, fun x j e1 => ?_, fun x f => ?_, fun x u e1 => ?_, h.rootH⟩
  · rcases get_set e1 with ⟨_, e2⟩ | ⟨hk, e2⟩
    · cases e2
    · obtain ⟨v, e3, q⟩ := h.slot k r e2
      refine ⟨v, e3, ?_⟩
      cases r with
      | d x => exact At.mono kt x v q
      | own m =>
        obtain ⟨x, e4, q2, n2⟩ := q
        have hx : x ≠ a := fun z => by rw [z, n] at n2; cases n2; exact hk rfl
        exact ⟨x, e4, q2.mono kt (upd_ne hx), by rw [ownX_ne hx]; exact n2⟩
      | ro m =>
        obtain ⟨x, e4, q2, n2⟩ := q
        have hx : x ≠ a := fun z => by rw [z, n] at n2; cases n2
        exact ⟨x, e4, q2.mono kt (upd_ne hx), by rw [ownX_ne hx]; exact n2⟩
      | io j => exact q
  · obtain ⟨x, e2, q2, n2⟩ := h.arg j m e1
    have hx : x ≠ a := fun z => by rw [z, n] at n2; cases n2
    exact ⟨x, e2, q2.mono kt (upd_ne hx), by rw [ownX_ne hx]; exact n2⟩
  · by_cases hx : x = a
    · rw [hx, ownX_same] at e1; cases e1
    · rw [ownX_ne hx] at e1
      rw [upd_ne hx]
      exact h.mu x w e1
  · rw [upd_ne (fun z => by rw [z, n0] at e1; cases e1)]
    exact h.keep x u e1 f
  · by_cases hx : x = a
    · rw [hx, ownX_same] at e1; cases e1
    · rw [ownX_ne hx] at e1; exact h.sfresh x k e1
  · by_cases hx : x = a
    · rw [hx, ownX_same] at e1; cases e1
    · rw [ownX_ne hx] at e1; exact h.afp x j e1
  · by_cases hx : x = a
    · rw [hx, upd_same]; exact fun z => nomatch z
    · rw [upd_ne hx]; exact h.fp x f
  · obtain ⟨h1, h2⟩ := h.root x u e1
    have hx : x ≠ a := fun z => by rw [z, n] at h2; cases h2
    exact ⟨by rw [upd_ne hx]; exact h1, by rw [ownX_ne hx]; exact h2⟩
theorem SRel.unhide {kvs : List (Key × D)} (h : SRel b o st σ H) (es : σ[i]? = some (some (.ref a))) (hi : i < st.δ.length) (n : o a = none) (n0 : b.H0 a = none) (e : H a = some (.frz od (.dK ws))) (hk : ws.map (·.1) = kvs.map (·.1)) (hv : AtL b.K b.Hr H (kvs.map (·.2)) (ws.map (·.2))) :
    SRel b (own1 o a (.slot i)) { st with δ := st.δ.set i (some (.own (.dicK kvs))) } σ (upd H a (.dK ws)) := by
  have kt := tp_thaw (K := b.K) (u := .dK ws) e
  have ne : ∀ x w, o x = some w → x ≠ a := fun x w e z => by rw [z, n] at e; cases e
  refine ⟨by simp [h.len], fun k r e1 => ?_, fun j m e1 => ?_, fun x w e1 => ?_, fun x u e1 f => ?_, fun x k e1 => ?_, fun x j e1 => ?_, fun x f => ?_, fun x u e1 => ?_, h.rootH⟩
  · rcases get_set e1 with ⟨rfl, e2⟩ | ⟨hk', e2⟩
    · cases e2
      exact ⟨.ref a, es, a, rfl, ⟨ws, upd_same, hk, hv.mono kt _ _⟩, own1_same⟩
    · obtain ⟨v, e3, q⟩ := h.slot k r e2
      refine ⟨v, e3, ?_⟩
      cases r with
      | d x => exact At.mono kt x v q
      | own m =>
        obtain ⟨x, e4, q2, n2⟩ := q
        exact ⟨x, e4, q2.mono kt (upd_ne (ne _ _ n2)), by rw [own1_ne (ne _ _ n2)]; exact n2⟩
      | ro m =>
        obtain ⟨x, e4, q2, n2⟩ := q
        exact ⟨x, e4, q2.mono kt (upd_ne (ne _ _ n2)), by rw [own1_ne (ne _ _ n2)]; exact n2⟩
      | io j => exact q
  · obtain ⟨x, e2, q2, n2⟩ := h.arg j m e1
    exact ⟨x, e2, q2.mono kt (upd_ne (ne _ _ n2)), by rw [own1_ne (ne _ _ n2)]; exact n2⟩
  · by_cases hx : x = a
    · rw [hx, upd_same]; trivial
    · rw [own1_ne hx] at e1
      rw [upd_ne hx]
      exact h.mu x w e1
  · rw [upd_ne (fun z => by rw [z, n0] at e1; cases e1)]
    exact h.keep x u e1 f
  · by_cases hx : x = a
    · rw [hx]; exact n0
    · rw [own1_ne hx] at e1; exact h.sfresh x k e1
  · by_cases hx : x = a
    · rw [hx, own1_same] at e1; cases e1
    · rw [own1_ne hx] at e1; exact h.afp x j e1
  · by_cases hx : x = a
    · rw [hx, upd_same]; exact fun z => nomatch z
    · rw [upd_ne hx]; exact h.fp x f
  · obtain ⟨h1, h2⟩ := h.root x u e1
    have hx : x ≠ a := fun z => by
      have := h.rootH x u e1
      rw [z, n0] at this
      cases this
    exact ⟨by rw [upd_ne hx]; exact h1, by rw [own1_ne hx]; exact h2⟩
theorem Tr.hide (n : o a = some (.slot i)) : Tr o H (ownX o a) (upd H a (.frz od (.dK ws))) := by
  refine ⟨fun x u e s => ?_, fun x e => ?_, fun x w e e1 => ?_⟩
  · have hx : x ≠ a := fun z => by
      rw [z, n] at s
      rcases s with s | s <;> cases s
    exact ⟨by rw [upd_ne hx]; exact e, ownX_ne hx⟩
  · by_cases hx : x = a
    · rw [hx, upd_same]; exact fun z => nomatch z
    · rw [upd_ne hx]; exact e
  · by_cases hx : x = a
    · rw [hx, ownX_same] at e1; cases e1
    · rw [ownX_ne hx] at e1; exact .inl e1
theorem Tr.unhide (n : o a = some (.slot i)) (t : Tr (ownX o a) (upd H a (.frz od (.dK ws))) o' H') : Tr o H (own1 o' a (.slot i)) (upd H' a (.dK ws)) := by
  have t' : Tr o H o' H' := (Tr.hide n).trans t
  refine ⟨fun x u e s => ?_, fun x e => ?_, fun x w e e1 => ?_⟩
  · have hx : x ≠ a := fun z => by
      rw [z, n] at s
      rcases s with s | s <;> cases s
    obtain ⟨h1, h2⟩ := t'.keep x u e s
    exact ⟨by rw [upd_ne hx]; exact h1, by rw [own1_ne hx]; exact h2⟩
  · by_cases hx : x = a
    · rw [hx, upd_same]; exact fun z => nomatch z
    · rw [upd_ne hx]; exact t'.trk x e
  · by_cases hx : x = a
    · rw [hx, own1_same] at e1
      cases e1
      exact .inl (by rw [hx]; exact n)
    · rw [own1_ne hx] at e1
      exact t'.own x w e e1
end
theorem walks_items {c : C} (a : Addr) (od : Obj) (ws : List (Key × V)) (kvs : List (Key × D)) (hk : ws.map (·.1) = kvs.map (·.1)) : Walks c (ItiF a od ws) (itemsD kvs) (fun o H => H a = some (.frz od (.dK ws)) ∧ Stb (o a) ∧ AtL c.b.K c.b.Hr H (kvs.map (·.2)) (ws.map (·.2))) where
  stay := fun rel ⟨h1, h3, h2⟩ t => let ⟨k1, k2⟩ := t.keep a _ h1 h3; ⟨k1, by rw [k2]; exact h3, h2.mono (rel.tups t) _ _⟩
  go := fun {o st σ H i} rel ⟨h1, _, h2⟩ hi => by
    have := congrArg List.length hk
    simp at this
    unfold itemsD at hi
    rw [List.length_map] at hi
    exact ⟨h1, by omega⟩
  yld := fun {o st σ H i v H'} rel ⟨h1, _, h2⟩ y => by
    obtain ⟨T, ob, k, w, e1, rfl, n, nd, rfl⟩ := y
    refine ⟨rel.laid n, Tr.laid n, fun d e => ?_⟩
    unfold itemsD at e
    rw [List.getElem?_map] at e
    cases z : kvs[i]? with
    | none => rw [z] at e; cases e
    | some p =>
      rw [z] at e
      have e' : PyData.tuple [kD p.1, p.2] = d := Option.some.inj e
      subst e'
      have ek : k = p.1 := by
        have h3 : (ws.map (·.1))[i]? = some k := by rw [List.getElem?_map, e1]; rfl
        rw [hk, List.getElem?_map, z] at h3
        exact (Option.some.inj h3).symm
      subst ek
      have h4 : (kvs.map (·.2))[i]? = some p.2 := by rw [List.getElem?_map, z]; rfl
      obtain ⟨v', e2, q⟩ := h2.get h4
      rw [List.getElem?_map, e1] at e2
      have e3 : w = v' := Option.some.inj e2
      subst e3
      exact .tup (.inl ⟨ob, upd_same, nd⟩) (.cons (kD_at _) (.cons (At.mono (tp_upd n) _ _ q) .nil))
  stop := fun {o st σ H i} rel ⟨h1, _, h2⟩ hi => by
    have := congrArg List.length hk
    simp at this
    unfold itemsD at hi
    rw [List.length_map] at hi
    exact ⟨h1, by omega⟩
  tmp := fun ⟨g1, _, _⟩ n ⟨h1, h3, h2⟩ mu => ⟨by rw [upd_ne (ne_of_none g1 n)]; exact h1, h3, h2.mono (tp_write mu) _ _⟩
def fLcIt (i : Nat) (ks : List Nat) (t : Rs → S → Option S) (ft : S → Rz Bool) (fe : S → Rz Rs) : S → Rz Rs := fun st => match st.δ[i]? with
  | some (some (.own (.dicK kvs))) => match fLc ks t ft fe (fun s => .ok (itemsD kvs) s) { st with δ := st.δ.set i none } with
    | .ok (.own (.lst acc)) st' => if i < st'.δ.length then .ok (.own (.lst acc)) { st' with δ := st'.δ.set i (some (.own (.dicK kvs))) } else .no
    | _ => .no
  | _ => .no
section
variable {X : Cx} {c : C}
theorem lcIt_go {i : Nat} {ks : List Nat} {t : Rs → S → Option S} {ft : S → Rz Bool} {fe : S → Rz Rs} {g : TG} {tt : TT} {te : TE} (hg : ∀ {v σ H Q}, tgOf (noW c) ks t v σ H Q → g v σ H Q) (ht : ∀ {σ H Q}, ttOf (noW c) ft σ H Q → tt σ H Q) (he : ∀ {σ H Q}, teOf (noW c) fe σ H Q → te σ H Q)
    {σ : L2.St} {H : Hp} {Q : VK} : teOf c (fLcIt i ks t ft fe) σ H Q → tLockE (tLc (iItemsF (tVar i)) g tt te ks) σ H Q := fun ⟨o, st, rel, h⟩ => by
  unfold fLcIt at h
  split at h
  · rename_i kvs hd
    obtain ⟨v, es, a, rfl, ⟨ws, hH, hk, hv⟩, n⟩ := rel.slot i _ hd
    have n0 := rel.sfresh a i n
    refine ⟨a, .dK ws, hH, trivial, fun od => ?_⟩
    have rel1 := rel.hide (od := od) n hH
    have kt := tp_frz (K := c.b.K) (od := od) hH
    have hv1 := hv.mono kt _ _
    refine lc_go1 (fi := fun s => .ok (itemsD kvs) s) hg ht he rel1 (fun R hR => ⟨.ref a, es, a, od, ws, rfl, upd_same, hR (ItiF a od ws) _ (ownX o a) _ rel1 (Tr.refl _ _) (walks_items a od ws kvs hk) ⟨upd_same, .inl ownX_same, hv1⟩⟩) ?_
    cases z : fLc ks t ft fe (fun s => .ok (itemsD kvs) s) { st with δ := st.δ.set i none } with
    | no => rw [z] at h; exact h.elim
    | ex e st1 => rw [z] at h; exact h.elim
    | ok r st1 =>
      rw [z] at h
      split at h
      · rename_i acc st2 ez
        injection ez with ez1 ez2
        subst ez1 ez2
        split at h
        · rename_i hi
          intro v H' o' rel' t' x'
          obtain ⟨hd', no'⟩ := t'.keep a _ upd_same (.inl ownX_same)
          have na : o' a = none := no'.trans ownX_same
          have tp : TP c.b.K (upd H a (.frz od (.dK ws))) H' := rel1.tups t'
          have hv2 := hv1.mono tp _ _
          refine ⟨hd', h v (upd H' a (.dK ws)) (own1 o' a (.slot i)) (rel'.unhide es hi na n0 hd' hk hv2) (Tr.unhide n t') ?_⟩
          obtain ⟨p, rfl, ⟨us, hp, ha⟩, np, hs⟩ := x'
          have hpa : p ≠ a := fun e => by rw [e, upd_same] at hs; cases hs
          exact ⟨p, rfl, ⟨us, by rw [upd_ne hpa]; exact hp, ha.mono (tp_thaw hd') _ _⟩, by rw [own1_ne hpa]; exact np, by rw [upd_ne hpa] at hs; exact hs⟩
        · exact h.elim
      · exact h.elim
  · exact h.elim
theorem de_lcIt (i : Nat) {x : Str} {elt : Expr} {elts : List Expr} {kk : Nat} {tpos : Pos} {ifs : List Expr} {scope : Scope} {own : List (Str × Nat)} {p apos cpos pos : Pos} {t : Rs → S → Option S} {ft : S → Rz Bool} {fe : S → Rz Rs} (hc : X.calm = true) (hN : X.N.Nodup) (hv : PE X (.Name x p) (tVar i)) (ok : BlkOk X.N X.env.scope scope own)
    (hg : ∀ (s : Shared) (H : Hp) (C : Addr) (cl : List (Str × Addr)) (fp : List Addr), DG (X.blk s H scope (compEnvC scope cl C X.env) fp) (noW c) (.Tuple elts kk tpos) (own.map (·.2)) t) (ht : ∀ (s : Shared) (H : Hp) (C : Addr) (cl : List (Str × Addr)) (fp : List Addr), DTs (X.blk s H scope (compEnvC scope cl C X.env) fp) (noW c) ifs ft)
    (he : ∀ (s : Shared) (H : Hp) (C : Addr) (cl : List (Str × Addr)) (fp : List Addr), DE (X.blk s H scope (compEnvC scope cl C X.env) fp) (noW c) elt fe)
    (hs : ∀ y, foldedSetIterable (.Call (.Attribute (.Name x p) "items" apos) [] [] cpos) X.env y = pure y := by intro _; rfl) (hbase : attributeBase (.Name x p) "items" X.env (eval (.Name x p) X.env) = eval (.Name x p) X.env := by rfl) (hline : (apos.endLine == cpos.line) = true := by rfl) :
    DE X c (.ListComp elt [⟨.Tuple elts kk tpos, .Call (.Attribute (.Name x p) "items" apos) [] [] cpos, ifs, 0⟩] scope pos) (fLcIt i (own.map (·.2)) t ft fe) :=
  PE.mono (pe_lock (pe_lc hc hN (pi_itemsF hv hbase hline) ok hg ht he hs)) fun σ H Q h => lcIt_go (fun h => h) (fun h => h) (fun h => h) h
end
end FL
end
section
set_option Elab.async false
set_option linter.all false
set_option maxRecDepth 100000
namespace FL
open PySem PySem.Spec PyProof.Rows L2
/-! ### what holds behind a piece -/
def W {α : Type} (z : Rz α) (Q : α → S → Prop) : Prop := ∃ a st, z = .ok a st ∧ Q a st
section
variable {α β : Type}
theorem W_ok (a : α) (st : S) (Q : α → S → Prop) : W (Rz.ok a st) Q = Q a st := propext ⟨fun ⟨_, _, e, h⟩ => by injection e with e1 e2; subst e1 e2; exact h, fun h => ⟨a, st, rfl, h⟩⟩
theorem W_no (Q : α → S → Prop) : W (Rz.no : Rz α) Q = False := propext ⟨fun ⟨_, _, e, _⟩ => (nomatch e), fun h => False.elim h⟩
theorem W_exn (e : Ex) (st : S) (Q : α → S → Prop) : W (Rz.ex e st : Rz α) Q = False := propext ⟨fun ⟨_, _, e, _⟩ => (nomatch e), fun h => False.elim h⟩
theorem b_ok {α β : Type} (a : α) (st : S) (k : α → S → Rz β) : (Rz.ok a st).bind k = k a st := Eq.trans rfl rfl
theorem b_no {α β : Type} (k : α → S → Rz β) : (Rz.no : Rz α).bind k = .no := Eq.trans rfl rfl
theorem W_bind (x : Rz α) (k : α → S → Rz β) (Q : β → S → Prop) : W (x.bind k) Q = W x (fun a st => W (k a st) Q) := by
  cases x with
  | ok a st => rw [b_ok, W_ok]
  | ex e st => rw [W_exn]; exact W_exn e st Q
  | no => rw [b_no, W_no, W_no]
theorem W_ite (p : Prop) [Decidable p] (x y : Rz α) (Q : α → S → Prop) : W (if p then x else y) Q = if p then W x Q else W y Q := by split <;> rfl
theorem bind_ite (p : Prop) [Decidable p] (x y : Rz α) (k : α → S → Rz β) : (if p then x else y).bind k = if p then x.bind k else y.bind k := by split <;> rfl
theorem W_mono {z : Rz α} {Q Q' : α → S → Prop} (h : W z Q) (m : ∀ a st, Q a st → Q' a st) : W z Q' := let ⟨a, st, e, q⟩ := h; ⟨a, st, e, m a st q⟩
theorem W_inv {z : Rz α} {Q : α → S → Prop} (h : W z Q) : ∃ a st, z = .ok a st ∧ Q a st := h
theorem W_of {z : Rz α} {Q : α → S → Prop} {a : α} {st : S} (e : z = .ok a st) (h : Q a st) : W z Q := ⟨a, st, e, h⟩
end
theorem ex_eq (E : List D) : ∃ L : List D, L = E := ⟨E, rfl⟩
/-- what follows a statement -/
def thenQ (g : S → Rz Fl) (Q : Fl → S → Prop) : Fl → S → Prop
  | .nx, st => W (g st) Q
  | fl, st => Q fl st
theorem thenQ_nx (g : S → Rz Fl) (Q : Fl → S → Prop) (st : S) : thenQ g Q .nx st = W (g st) Q := Eq.trans rfl rfl
theorem thenQ_rt (g : S → Rz Fl) (Q : Fl → S → Prop) (r : Rs) (st : S) : thenQ g Q (.rt r) st = Q (.rt r) st := Eq.trans rfl rfl
theorem thenQ_bk (g : S → Rz Fl) (Q : Fl → S → Prop) (st : S) : thenQ g Q .bk st = Q .bk st := Eq.trans rfl rfl
theorem thenQ_ct (g : S → Rz Fl) (Q : Fl → S → Prop) (st : S) : thenQ g Q .ct st = Q .ct st := Eq.trans rfl rfl
theorem W_seq (f g : S → Rz Fl) (st : S) (Q : Fl → S → Prop) : W (fSeq f g st) Q = W (f st) (thenQ g Q) := by
  unfold fSeq
  cases f st with
  | ok a st1 => cases a <;> simp only [W_ok] <;> rfl
  | ex e st1 => simp only [W_exn]
  | no => simp only [W_no]
/-- a point between two statements -/
def cutQ (N : S → Prop) (Q : Fl → S → Prop) : Fl → S → Prop
  | .nx, st => N st
  | fl, st => Q fl st
theorem cutQ_nx (N : S → Prop) (Q : Fl → S → Prop) (st : S) : cutQ N Q .nx st = N st := Eq.trans rfl rfl
theorem cutQ_rt (N : S → Prop) (Q : Fl → S → Prop) (r : Rs) (st : S) : cutQ N Q (.rt r) st = Q (.rt r) st := Eq.trans rfl rfl
theorem cutQ_bk (N : S → Prop) (Q : Fl → S → Prop) (st : S) : cutQ N Q .bk st = Q .bk st := Eq.trans rfl rfl
theorem cutQ_ct (N : S → Prop) (Q : Fl → S → Prop) (st : S) : cutQ N Q .ct st = Q .ct st := Eq.trans rfl rfl
theorem W_cut {f g : S → Rz Fl} {st : S} {Q : Fl → S → Prop} (P : S → Prop) (h1 : ∀ N : S → Prop, (∀ st, P st → N st) → W (f st) (cutQ N Q)) (h2 : ∀ st, P st → W (g st) Q) : W (fSeq f g st) Q := by
  rw [W_seq]
  refine W_mono (h1 P fun _ h => h) fun fl st h => ?_
  cases fl with
  | nx => exact h2 st h
  | rt r => exact h
  | bk => exact h
  | ct => exact h
theorem fIfS_eq (ft : S → Rz Bool) (f g : S → Rz Fl) (st : S) : fIfS ft f g st = (ft st).bind fun k st => if k = true then f st else g st := by
  unfold fIfS
  cases ft st with
  | ok a st1 => cases a <;> rfl
  | ex e st1 => rfl
  | no => rfl
theorem fIf_eq (ft : S → Rz Bool) (f g : S → Rz Rs) (st : S) : fIf ft f g st = (ft st).bind fun k st => if k = true then f st else g st := by
  unfold fIf
  cases ft st with
  | ok a st1 => cases a <;> rfl
  | ex e st1 => rfl
  | no => rfl
theorem fAnd_eq (fa fb : S → Rz Bool) (st : S) : fAnd fa fb st = (fa st).bind fun k st => if k = true then fb st else .ok false st := by
  unfold fAnd
  cases fa st with
  | ok a st1 => cases a <;> rfl
  | ex e st1 => rfl
  | no => rfl
theorem fOr_eq (fa fb : S → Rz Bool) (st : S) : fOr fa fb st = (fa st).bind fun k st => if k = true then .ok true st else fb st := by
  unfold fOr
  cases fa st with
  | ok a st1 => cases a <;> rfl
  | ex e st1 => rfl
  | no => rfl
/-- and, or of bools as values -/
def andK (r : Rs) (x : Rz Rs) (st : S) : Rz Rs := match r with
  | .d (.bool b) => if b = true then x else .ok (.d (.bool false)) st
  | _ => .no
def orK (r : Rs) (x : Rz Rs) (st : S) : Rz Rs := match r with
  | .d (.bool b) => if b = true then .ok (.d (.bool true)) st else x
  | _ => .no
theorem andK_b (b : Bool) (x : Rz Rs) (st : S) : andK (.d (.bool b)) x st = if b = true then x else .ok (.d (.bool false)) st := Eq.trans rfl rfl
theorem orK_b (b : Bool) (x : Rz Rs) (st : S) : orK (.d (.bool b)) x st = if b = true then .ok (.d (.bool true)) st else x := Eq.trans rfl rfl
theorem fAndV_eq (fa fb : S → Rz Rs) (st : S) : fAndV fa fb st = (fa st).bind fun r st => andK r (fb st) st := by
  unfold fAndV
  cases fa st with
  | ok a st1 =>
    cases a with
    | d x =>
      cases x with
      | bool b => cases b <;> rfl
      | _ => rfl
    | _ => rfl
  | ex e st1 => rfl
  | no => rfl
theorem fOrV_eq (fa fb : S → Rz Rs) (st : S) : fOrV fa fb st = (fa st).bind fun r st => orK r (fb st) st := by
  unfold fOrV
  cases fa st with
  | ok a st1 =>
    cases a with
    | d x =>
      cases x with
      | bool b => cases b <;> rfl
      | _ => rfl
    | _ => rfl
  | ex e st1 => rfl
  | no => rfl
theorem ite_okT (p : Prop) [Decidable p] (b : Bool) (st : S) : (if p then Rz.ok true st else Rz.ok b st) = Rz.ok (decide p || b) st := by by_cases h : p <;> simp [h]
theorem ite_okF (p : Prop) [Decidable p] (b : Bool) (st : S) : (if p then Rz.ok b st else Rz.ok false st) = Rz.ok (decide p && b) st := by by_cases h : p <;> simp [h]
theorem ite_okTd (p : Prop) [Decidable p] (b : Bool) (st : S) : (if p then Rz.ok (Rs.d (.bool true)) st else Rz.ok (Rs.d (.bool b)) st) = Rz.ok (Rs.d (.bool (decide p || b))) st := by by_cases h : p <;> simp [h]
theorem ite_okFd (p : Prop) [Decidable p] (b : Bool) (st : S) : (if p then Rz.ok (Rs.d (.bool b)) st else Rz.ok (Rs.d (.bool false)) st) = Rz.ok (Rs.d (.bool (decide p && b))) st := by by_cases h : p <;> simp [h]
/-! ### the pieces, told so that the kernel need not look into what is called -/
theorem u_fAsg (t : Rs → S → Option S) (f : S → Rz Rs) (st : S) : fAsg t f st = ((f st).bind fun r st => match t r st with
  | some st' => .ok .nx st'
  | none => .no) := Eq.trans rfl rfl
theorem u_fCall (g : S → List Rs → Option Rs) (fa : S → Rz (List Rs)) (st : S) : fCall g fa st = ((fa st).bind fun xs st => match g st xs with
  | some r => .ok r st
  | none => .no) := Eq.trans rfl rfl
theorem u_fCons (fa : S → Rz Rs) (ft : S → Rz (List Rs)) (st : S) : fCons fa ft st = ((fa st).bind fun x st => (ft st).bind fun xs st => .ok (x :: xs) st) := Eq.trans rfl rfl
theorem u_fNil (st : S) : fNil  st = (.ok [] st) := Eq.trans rfl rfl
theorem u_fVar (i : Nat) (st : S) : fVar i st = (match st.δ[i]? with
  | some (some (.d x)) => .ok (.d x) st
  | some (some _) => .ok (.var i) st
  | _ => .no) := Eq.trans rfl rfl
theorem u_fAug (i : Nat) (g : S → Rs → Rs → Option Rs) (f : S → Rz Rs) (st : S) : fAug i g f st = (match st.δ[i]? with
  | some (some (.d x)) => (f st).bind fun y st => match g st (.d x) y with
    | some (.d z) => if i < st.δ.length then .ok .nx { st with δ := st.δ.set i (some (.d z)) } else .no
    | _ => .no
  | _ => .no) := Eq.trans rfl rfl
theorem u_fExpr (f : S → Rz Rs) (st : S) : fExpr f st = ((f st).bind fun _ st => .ok .nx st) := Eq.trans rfl rfl
theorem u_fExtend (i : Nat) (f : S → Rz Rs) (st : S) : fExtend i f st = (match st.get i with
  | some (.lst _) => (f st).bind fun x st => match st.get i, st.mlst x with
    | some (.lst ds), some es => if fExtend.isSelf i x = true then .no else if ds.length + es.length ≤ sizeLine then .ok (.d .none) (st.put i (.lst (ds ++ es))) else .no
    | _, _ => .no
  | _ => .no) := Eq.trans rfl rfl
theorem u_fBin (g : S → Rs → Rs → Option Rs) (fa fb : S → Rz Rs) (st : S) : fBin g fa fb st = ((fa st).bind fun x st => (fb st).bind fun y st => match g st x y with
  | some r => .ok r st
  | none => .no) := Eq.trans rfl rfl
theorem u_fC (x : D) (st : S) : fC x st = (.ok (.d x) st) := Eq.trans rfl rfl
theorem u_fRet (f : S → Rz Rs) (st : S) : fRet f st = ((f st).bind fun r st => .ok (.rt r) st) := Eq.trans rfl rfl
theorem u_fRetN (st : S) : fRetN  st = (.ok (.rt (.d .none)) st) := Eq.trans rfl rfl
theorem u_fNext (st : S) : fNext  st = (.ok .nx st) := Eq.trans rfl rfl
theorem u_fTest (f : S → Rz Rs) (st : S) : fTest f st = ((f st).bind fun r st => match r with
  | .d (.bool b) => .ok b st
  | _ => .no) := Eq.trans rfl rfl
theorem u_fNot (fa : S → Rz Bool) (st : S) : fNot fa st = ((fa st).bind fun k st => .ok (!k) st) := Eq.trans rfl rfl
theorem u_fChain (g g' : S → Rs → Rs → Option Rs) (fa fb fc : S → Rz Rs) (st : S) : fChain g g' fa fb fc st = ((fa st).bind fun x st => (fb st).bind fun y st => match g st x y with
  | some (.d (.bool true)) => (fc st).bind fun z st => match g' st y z with
    | some r => .ok r st
    | none => .no
  | some (.d (.bool false)) => .ok (.d (.bool false)) st
  | _ => .no) := Eq.trans rfl rfl
theorem u_fNeg (f : S → Rz Rs) (st : S) : fNeg f st = ((f st).bind fun x st => match x with
  | .d (.int i) => .ok (.d (.int (-i))) st
  | _ => .no) := Eq.trans rfl rfl
theorem u_fPar (ts : List Rs → S → Option S) (fa : S → Rz (List Rs)) (st : S) : fPar ts fa st = ((fa st).bind fun rs st => match ts rs st with
  | some st' => .ok .nx st'
  | none => .no) := Eq.trans rfl rfl
theorem u_fParT (n : Nat) (ts : List Rs → S → Option S) (fa : S → Rz (List Rs)) (st : S) : fParT n ts fa st = ((fa st).bind fun rs st => if rs.length = n ∧ n ≤ sizeLine then (match ts rs st with
  | some st' => .ok .nx st'
  | none => .no) else .no) := Eq.trans rfl rfl
theorem u_fMut (T : String) (g : M → List Rs → Option (Rs × M)) (i : Nat) (fa : S → Rz (List Rs)) (st : S) : fMut T g i fa st = (match st.get i with
  | none => .no
  | some m0 => if tyM T m0 = true then (fa st).bind fun xs st => match st.get i with
    | none => .no
    | some m => match g m xs with
      | some (r, m') => .ok r (st.put i m')
      | none => .no
    else .no) := Eq.trans rfl rfl
theorem u_fSetIx (i : Nat) (fk fv : S → Rz Rs) (st : S) : fSetIx i fk fv st = ((fv st).bind fun v st => match st.get i with
  | none => .no
  | some _ => (fk st).bind fun k st => match st.get i, k, v with
    | some (.lst ds), .d (.int n), .d x => match ixN ds.length n with
      | some j => .ok .nx (st.put i (.lst (ds.set j x)))
      | none => .no
    | _, _, _ => .no) := Eq.trans rfl rfl
theorem u_fDPut (i : Nat) (fk fv : S → Rz Rs) (st : S) : fDPut i fk fv st = ((fv st).bind fun v st => match st.get i with
  | none => .no
  | some _ => (fk st).bind fun k st => match st.get i, k, v with
    | some m, .d k, .d x => match mPutK m k x with
      | some m' => .ok .nx (st.put i m')
      | none => .no
    | _, _, _ => .no) := Eq.trans rfl rfl
theorem u_fDGet (fo fk : S → Rz Rs) (st : S) : fDGet fo fk st = ((fo st).bind fun x st => (fk st).bind fun k st => match st.der x, k with
  | some m, .d k => match mGetK m k with
    | some (some v) => .ok (.d v) st
    | _ => .no
  | _, _ => .no) := Eq.trans rfl rfl
theorem u_fDGet2 (fo fk fx : S → Rz Rs) (st : S) : fDGet2 fo fk fx st = ((fo st).bind fun x st => match st.der x with
  | some m0 => if isDK m0 = true then (fk st).bind fun k st => (fx st).bind fun y st => match st.der x, k, y with
    | some m, .d k, .d y => match mGetK m k with
      | some r => .ok (.d (r.getD y)) st
      | none => .no
    | _, _, _ => .no
    else .no
  | none => .no) := Eq.trans rfl rfl
theorem u_fDAug (i : Nat) (g : S → Rs → Rs → Option Rs) (fk fv : S → Rz Rs) (st : S) : fDAug i g fk fv st = (match st.get i with
  | none => .no
  | some _ => (fk st).bind fun k st => match st.get i, k with
    | some m, .d k => match mGetK m k with
      | some (some x) => (fv st).bind fun y st => match g st (.d x) y with
        | some (.d z) => match st.get i with
          | some m => match mPutK m k z with
            | some m' => .ok .nx (st.put i m')
            | none => .no
          | none => .no
        | _ => .no
      | _ => .no
    | _, _ => .no) := Eq.trans rfl rfl
theorem u_fDNew (st : S) : fDNew  st = (.ok (.own (.dicK [])) st) := Eq.trans rfl rfl
theorem u_fSl (g : S → Rs → Option Int → Option Int → Option Rs) (fe : S → Rz Rs) (fl fh : S → Rz (Option Int)) (st : S) : fSl g fe fl fh st = ((fe st).bind fun x st => (fl st).bind fun lo st => (fh st).bind fun hi st => match g st x lo hi with
  | some r => .ok r st
  | none => .no) := Eq.trans rfl rfl
theorem u_fPart (f : S → Rz Rs) (st : S) : fPart f st = ((f st).bind fun r st => match r with
  | .d (.int i) => .ok (some i) st
  | _ => .no) := Eq.trans rfl rfl
theorem u_fNoPart (st : S) : fNoPart  st = (.ok none st) := Eq.trans rfl rfl
theorem u_fOfT (f : S → Rz Bool) (st : S) : fOfT f st = ((f st).bind fun k st => .ok (.d (.bool k)) st) := Eq.trans rfl rfl
theorem u_fNotV (fa : S → Rz Rs) (st : S) : fNotV fa st = ((fa st).bind fun r st => match r with
  | .d (.bool k) => .ok (.d (.bool !k)) st
  | _ => .no) := Eq.trans rfl rfl
theorem u_fIsi (T : Ty5) (f : S → Rz Rs) (st : S) : fIsi T f st = ((f st).bind fun r st => match isiR st r T with
  | some b => .ok (.d (.bool b)) st
  | none => .no) := Eq.trans rfl rfl
theorem u_fSortIt (f : S → Rz Rs) (st : S) : fSortIt f st = ((f st).bind fun x st => match st.der x with
  | some (.dicK kvs) => match intPairs kvs with
    | some ps => .ok (.own (.lst ((psort ps).map encP))) st
    | none => .no
  | _ => .no) := Eq.trans rfl rfl
theorem u_fTrue (st : S) : fTrue  st = (.ok true st) := Eq.trans rfl rfl
theorem u_fBrk (st : S) : fBrk  st = (.ok .bk st) := Eq.trans rfl rfl
theorem u_fCnt (st : S) : fCnt  st = (.ok .ct st) := Eq.trans rfl rfl
theorem u_fEnum (fa : S → Rz (List Rs)) (st : S) : fEnum fa st = ((fa st).bind fun rs st => match rs with
  | [.d (.tuple xs)] => .ok (enumD xs) st
  | _ => .no) := Eq.trans rfl rfl
theorem u_fRev (f : S → Rz Rs) (st : S) : fRev f st = ((f st).bind fun x st => match x with
  | .d (.tuple xs) => .ok (.d (.tuple xs.reverse)) st
  | x => match st.lst x with
    | some xs => .ok (.own (.lst xs.reverse)) st
    | none => .no) := Eq.trans rfl rfl
theorem u_fSortSet (f : S → Rz Rs) (st : S) : fSortSet f st = ((f st).bind fun x st => match st.lst x with
  | some ds => match ints? ds with
    | some ns => if ns.length < 64 then .ok (.own (.lst ((sset ns).map .int))) st else .no
    | none => .no
  | none => .no) := Eq.trans rfl rfl
theorem u_fCount (fo : S → Rz Rs) (fa : S → Rz (List Rs)) (st : S) : fCount fo fa st = ((fo st).bind fun x st => if (st.lst x).isSome = true then (fa st).bind fun xs st => match gCount st x xs with
  | some r => .ok r st
  | none => .no else .no) := Eq.trans rfl rfl
def callE (r : Rs) : Option S → Rz Rs
  | some st => .ok r st
  | none => .no
def callX (e : Ex) : Option S → Rz Rs
  | some st => .ex e st
  | none => .no
def callD (ms : List Md) (rs : List Rs) (st : S) : Out → Rz Rs
  | .ret r fin => callE r (back st ms rs fin)
  | .exc e fin => callX e (back st ms rs fin)
  | .no => .no
def callB (F : List Arg → Out) (ms : List Md) (rs : List Rs) (st : S) : Option (List Arg) → Rz Rs
  | none => .no
  | some args => if apartB (rs.map st.tgt) = true then callD ms rs st (F args) else .no
theorem u_fCallF (F : List Arg → Out) (ms : List Md) (fa : S → Rz (List Rs)) (st : S) : fCallF F ms fa st = (fa st).bind fun rs st => callB F ms rs st (mkArgs st ms rs) := by
  exact Eq.trans rfl rfl
theorem callB_some (F : List Arg → Out) (ms : List Md) (rs : List Rs) (st : S) (args : List Arg) : callB F ms rs st (some args) = if apartB (rs.map st.tgt) = true then callD ms rs st (F args) else .no := Eq.trans rfl rfl
theorem callD_ret (ms : List Md) (rs : List Rs) (st : S) (r : Rs) (fin : List Arg) : callD ms rs st (.ret r fin) = callE r (back st ms rs fin) := Eq.trans rfl rfl
theorem callE_some (r : Rs) (st : S) : callE r (some st) = .ok r st := Eq.trans rfl rfl
/-! ### loops -/
/-- behind a turn -/
def turnQ (N : S → Prop) (Q : Fl → S → Prop) : Fl → S → Prop
  | .nx, st => N st
  | .ct, st => N st
  | .bk, st => Q .nx st
  | .rt r, st => Q (.rt r) st
theorem turnQ_nx (N : S → Prop) (Q : Fl → S → Prop) (st : S) : turnQ N Q .nx st = N st := Eq.trans rfl rfl
theorem turnQ_ct (N : S → Prop) (Q : Fl → S → Prop) (st : S) : turnQ N Q .ct st = N st := Eq.trans rfl rfl
theorem turnQ_bk (N : S → Prop) (Q : Fl → S → Prop) (st : S) : turnQ N Q .bk st = Q .nx st := Eq.trans rfl rfl
theorem turnQ_rt (N : S → Prop) (Q : Fl → S → Prop) (r : Rs) (st : S) : turnQ N Q (.rt r) st = Q (.rt r) st := Eq.trans rfl rfl
theorem W_loop {α : Type} {t : Rs → S → Option S} {body : S → Rz Fl} {Q : Fl → S → Prop} (enc : α → D) (as : List α) (Inv : List α → List α → S → Prop)
    (hend : ∀ st, Inv as [] st → Q .nx st)
    (step : ∀ pre a post st (N : S → Prop), as = pre ++ a :: post → Inv pre (a :: post) st → (∀ st, Inv (pre ++ [a]) post st → N st) → ∃ st1, t (.d (enc a)) st = some st1 ∧ W (body st1) (turnQ N Q)) :
    ∀ (pre post : List α) (st : S), as = pre ++ post → Inv pre post st → W (loop t body (post.map enc) st) Q
  | pre, [], st, e, h => by
    rw [List.append_nil] at e
    subst e
    exact W_of rfl (hend st h)
  | pre, a :: post, st, e, h => by
    obtain ⟨st1, h1, h2⟩ := step pre a post st _ e h (fun _ h => h)
    obtain ⟨fl, st2, h3, h4⟩ := W_inv h2
    have ih := W_loop enc as Inv hend step (pre ++ [a]) post
    show W (loop t body (enc a :: post.map enc) st) Q
    unfold loop
    rw [h1]
    simp only [h3]
    cases fl with
    | nx => exact ih st2 (by rw [e]; simp) h4
    | ct => exact ih st2 (by rw [e]; simp) h4
    | bk => exact W_of rfl h4
    | rt r => exact W_of rfl h4
theorem W_for {α : Type} {t : Rs → S → Option S} {fi : S → Rz (List D)} {body : S → Rz Fl} {st st1 : S} {Q : Fl → S → Prop} (enc : α → D) (as : List α) (Inv : List α → List α → S → Prop)
    (hi : fi st = .ok (as.map enc) st1) (h0 : Inv [] as st1) (hend : ∀ st, Inv as [] st → Q .nx st)
    (step : ∀ pre a post st (N : S → Prop), as = pre ++ a :: post → Inv pre (a :: post) st → (∀ st, Inv (pre ++ [a]) post st → N st) → ∃ st1, t (.d (enc a)) st = some st1 ∧ W (body st1) (turnQ N Q)) : W (fFor t fi body st) Q := by
  unfold fFor
  rw [hi]
  exact W_loop enc as Inv hend step [] as st1 rfl h0
theorem W_loop_cons {t : Rs → S → Option S} {body : S → Rz Fl} {Q : Fl → S → Prop} {x : D} {xs : List D} {st st1 : S} (h1 : t (.d x) st = some st1) (h2 : ∀ N : S → Prop, (∀ st, W (loop t body xs st) Q → N st) → W (body st1) (turnQ N Q)) : W (loop t body (x :: xs) st) Q := by
  obtain ⟨fl, st2, h3, h4⟩ := W_inv (h2 (fun st => W (loop t body xs st) Q) fun _ h => h)
  unfold loop
  rw [h1]
  simp only [h3]
  cases fl with
  | nx => exact h4
  | ct => exact h4
  | bk => exact W_of rfl h4
  | rt r => exact W_of rfl h4
theorem W_loop_nil {t : Rs → S → Option S} {body : S → Rz Fl} {Q : Fl → S → Prop} {st : S} (h : Q .nx st) : W (loop t body [] st) Q := W_of rfl h
theorem W_forL {t : Rs → S → Option S} {fi : S → Rz (List D)} {body : S → Rz Fl} {Q : Fl → S → Prop} {st st1 : S} {xs : List D} (hi : fi st = .ok xs st1) (h : W (loop t body xs st1) Q) : W (fFor t fi body st) Q := by
  unfold fFor
  rw [hi]
  exact h
/-- turns that only keep something -/
theorem W_forI {t : Rs → S → Option S} {fi : S → Rz (List D)} {body : S → Rz Fl} {st st1 : S} {Q : Fl → S → Prop} (xs : List D) (Inv : S → Prop)
    (hi : fi st = .ok xs st1) (h0 : Inv st1) (hend : ∀ st, Inv st → Q .nx st)
    (step : ∀ x st (N : S → Prop), x ∈ xs → Inv st → (∀ st, Inv st → N st) → ∃ st1, t (.d x) st = some st1 ∧ W (body st1) (turnQ N Q)) : W (fFor t fi body st) Q :=
  W_for id xs (fun _ _ => Inv) (by rw [hi]; simp) h0 hend fun pre a post st N e h hN => step a st N (by rw [e]; simp) h hN
theorem W_while {ft : S → Rz Bool} {body : S → Rz Fl} {Q : Fl → S → Prop} (Inv : Nat → S → Prop)
    (step : ∀ k st (N : S → Prop), Inv k st → (∀ j st, k = j + 1 → Inv j st → N st) → W (ft st) fun b st1 => if b = true then (0 < k ∧ W (body st1) (turnQ N Q)) else Q .nx st1) :
    ∀ (k n : Nat) (st : S), Inv k st → k < n → W (whileN ft body n st) Q
  | k, 0, st, h, hk => by omega
  | k, n + 1, st, h, hk => by
    obtain ⟨b, st1, h1, h2⟩ := W_inv (step k st (fun st => ∃ j, k = j + 1 ∧ Inv j st) h (fun j st e h => ⟨j, e, h⟩))
    unfold whileN
    rw [h1]
    show W (match b with | false => _ | true => _) Q
    cases b with
    | false => exact W_of rfl h2
    | true =>
      obtain ⟨_, h3⟩ := h2
      obtain ⟨fl, st2, h4, h5⟩ := W_inv h3
      simp only [h4]
      cases fl with
      | nx =>
        obtain ⟨j, e, h5⟩ := h5
        exact W_while Inv step j n st2 h5 (by omega)
      | ct =>
        obtain ⟨j, e, h5⟩ := h5
        exact W_while Inv step j n st2 h5 (by omega)
      | bk => exact W_of rfl h5
      | rt r => exact W_of rfl h5
/-! ### comprehensions -/
theorem lc_list {α : Type} {ks : List Nat} {t : Rs → S → Option S} {ft : S → Rz Bool} {fe : S → Rz Rs} (enc : α → D) (st0 : S) (f : α → Option D) (as : List α)
    (h : ∀ a ∈ as, ∃ st1, t (.d (enc a)) st0 = some st1 ∧ W (ft st1) fun b st2 => if b = true then W (fe st2) (fun r st3 => ∃ y, r = .d y ∧ f a = some y ∧ wipeS ks st3 = st0) else f a = none ∧ wipeS ks st2 = st0) :
    ∀ acc : List D, acc.length + as.length ≤ sizeLine → lcLoop ks t ft fe (as.map enc) acc st0 = .ok (acc ++ as.filterMap f) st0 := by
  induction as with
  | nil => intro acc _; show Rz.ok acc st0 = _; simp
  | cons a as ih =>
    intro acc hl
    obtain ⟨st1, h1, h2⟩ := h a (List.mem_cons_self ..)
    have ih' := ih fun a m => h a (List.mem_cons_of_mem _ m)
    have hl' : acc.length < sizeLine := by simp at hl; omega
    show lcLoop ks t ft fe (enc a :: as.map enc) acc st0 = _
    obtain ⟨b, st2, h3, h4⟩ := W_inv h2
    unfold lcLoop
    rw [h1]
    cases b with
    | false =>
      obtain ⟨hf, h5⟩ : f a = none ∧ wipeS ks st2 = st0 := h4
      simp only [h3, h5]
      rw [ih' acc (by simp at hl; omega), List.filterMap_cons, hf]
    | true =>
      obtain ⟨r, st3, h5, y, rfl, hf, h6⟩ := W_inv (show W (fe st2) (fun r st3 => ∃ y, r = .d y ∧ f a = some y ∧ wipeS ks st3 = st0) from h4)
      simp only [h3, h5, hl', if_true, h6]
      rw [ih' (acc ++ [y]) (by simp at hl ⊢; omega), List.filterMap_cons, hf]
      simp
theorem fLc_list {α : Type} {ks : List Nat} {t : Rs → S → Option S} {ft : S → Rz Bool} {fe : S → Rz Rs} {fi : S → Rz (List D)} {st st1 : S} (enc : α → D) (f : α → Option D) (as : List α)
    (hi : fi st = .ok (as.map enc) st1) (hd : ks.all (dataOnly st1.δ) = true) (hl : as.length ≤ 16777216)
    (h : ∀ a ∈ as, ∃ st2, t (.d (enc a)) (wipeS ks st1) = some st2 ∧ W (ft st2) fun b st3 => if b = true then W (fe st3) (fun r st4 => ∃ y, r = .d y ∧ f a = some y ∧ wipeS ks st4 = wipeS ks st1) else f a = none ∧ wipeS ks st3 = wipeS ks st1) :
    fLc ks t ft fe fi st = .ok (.own (.lst (as.filterMap f))) (restS ks st1 (wipeS ks st1)) := by
  have e := lc_list (ks := ks) (t := t) (ft := ft) (fe := fe) enc (wipeS ks st1) f as h [] (by rw [sizeLine_eq]; simpa using hl)
  unfold fLc
  rw [hi]
  simp only [Rz.bind, hd, if_true, e, List.nil_append]
/-- comprehensions whose turns change the state -/
theorem W_lc {α : Type} {ks : List Nat} {t : Rs → S → Option S} {ft : S → Rz Bool} {fe : S → Rz Rs} {Q : List D → S → Prop} (enc : α → D) (as : List α) (Inv : List α → List D → S → Prop)
    (hend : ∀ acc st, Inv as acc st → Q acc st)
    (step : ∀ pre a post acc st (N : List D → S → Prop), as = pre ++ a :: post → Inv pre acc st → (∀ acc st, Inv (pre ++ [a]) acc st → N acc st) → ∃ st1, t (.d (enc a)) st = some st1 ∧ W (ft st1) fun b st2 => if b = true then acc.length < sizeLine ∧ W (fe st2) (fun r st3 => ∃ y, r = .d y ∧ N (acc ++ [y]) (wipeS ks st3)) else N acc (wipeS ks st2)) :
    ∀ (pre post : List α) (acc : List D) (st : S), as = pre ++ post → Inv pre acc st → W (lcLoop ks t ft fe (post.map enc) acc st) Q
  | pre, [], acc, st, e, h => by
    rw [List.append_nil] at e
    subst e
    exact W_of rfl (hend acc st h)
  | pre, a :: post, acc, st, e, h => by
    obtain ⟨st1, h1, h2⟩ := step pre a post acc st _ e h (fun _ _ h => h)
    obtain ⟨b, st2, h3, h4⟩ := W_inv h2
    have ih := W_lc enc as Inv hend step (pre ++ [a]) post
    show W (lcLoop ks t ft fe (enc a :: post.map enc) acc st) Q
    unfold lcLoop
    rw [h1]
    simp only [h3]
    cases b with
    | false => exact ih acc _ (by rw [e]; simp) h4
    | true =>
      obtain ⟨hl, h5⟩ := h4
      obtain ⟨r, st3, h6, y, rfl, h7⟩ := W_inv h5
      simp only [h6, hl, if_true]
      exact ih _ _ (by rw [e]; simp) h7
theorem W_fLc {α : Type} {ks : List Nat} {t : Rs → S → Option S} {ft : S → Rz Bool} {fe : S → Rz Rs} {fi : S → Rz (List D)} {st st1 : S} {Q : Rs → S → Prop} (enc : α → D) (as : List α) (Inv : List α → List D → S → Prop)
    (hi : fi st = .ok (as.map enc) st1) (hd : ks.all (dataOnly st1.δ) = true) (h0 : Inv [] [] (wipeS ks st1)) (hend : ∀ acc st, Inv as acc st → Q (.own (.lst acc)) (restS ks st1 st))
    (step : ∀ pre a post acc st (N : List D → S → Prop), as = pre ++ a :: post → Inv pre acc st → (∀ acc st, Inv (pre ++ [a]) acc st → N acc st) → ∃ st1, t (.d (enc a)) st = some st1 ∧ W (ft st1) fun b st2 => if b = true then acc.length < sizeLine ∧ W (fe st2) (fun r st3 => ∃ y, r = .d y ∧ N (acc ++ [y]) (wipeS ks st3)) else N acc (wipeS ks st2)) : W (fLc ks t ft fe fi st) Q := by
  obtain ⟨acc, st2, h1, h2⟩ := W_inv (W_lc (Q := fun acc st => Q (.own (.lst acc)) (restS ks st1 st)) enc as Inv hend step [] as [] _ rfl h0)
  unfold fLc
  rw [hi]
  simp only [Rz.bind, hd, if_true, h1]
  exact W_of rfl h2
/-! ### a def, by what holds behind its body -/
def endOut (args : List Arg) : Fl → S → Out
  | .nx, st => if ioOk args st.γ = true then .ret (.d .none) (finA args st.γ) else .no
  | .rt r, st => if ioOk args st.γ = true then (match st.res r with
    | some r => .ret r (finA args st.γ)
    | none => .no) else .no
  | _, _ => .no
theorem F_of0 {p n : Nat} {g : S → Rz Fl} {args fin : List Arg} {r : Rs} (hl : args.length = p) (h : W (g (start0 n args)) fun fl st => endOut args fl st = .ret r fin) : mkF p n g args = .ret r fin := by
  obtain ⟨fl, st, h1, h2⟩ := W_inv h
  unfold mkF
  rw [if_pos hl]
  unfold bodyF
  rw [h1]
  cases fl with
  | nx => simp only [endOut] at h2 ⊢; split at h2 <;> simp_all [noX]
  | rt r' =>
    simp only [endOut] at h2 ⊢
    split at h2
    · rename_i hc
      rw [if_pos hc]
      cases hr : st.res r' with
      | none => rw [hr] at h2; exact nomatch h2
      | some r2 =>
        rw [hr] at h2
        exact congrArg noX h2
    · exact nomatch h2
  | bk => exact nomatch h2
  | ct => exact nomatch h2
theorem F_of {p n : Nat} {g : S → Rz Fl} {args fin : List Arg} {r : Rs} (hl : args.length = p) (h : ∀ Q : Fl → S → Prop, (∀ fl st, endOut args fl st = .ret r fin → Q fl st) → W (g (start0 n args)) Q) : mkF p n g args = .ret r fin :=
  F_of0 hl (h _ fun _ _ h => h)
theorem F_ex {p n : Nat} {g : S → Rz Fl} {args : List Arg} {P : Rs → List Arg → Prop} (hl : args.length = p) (h : ∀ Q : Fl → S → Prop, (∀ fl st r fin, endOut args fl st = .ret r fin → P r fin → Q fl st) → W (g (start0 n args)) Q) : ∃ r fin, mkF p n g args = .ret r fin ∧ P r fin := by
  obtain ⟨fl, st, h1, r, fin, h2, h3⟩ := W_inv (h (fun fl st => ∃ r fin, endOut args fl st = .ret r fin ∧ P r fin) fun _ _ r fin e p => ⟨r, fin, e, p⟩)
  exact ⟨r, fin, F_of0 hl (W_of h1 h2), h3⟩
end FL
end
section
set_option Elab.async false
set_option linter.all false
set_option maxRecDepth 100000
set_option maxHeartbeats 4000000
namespace FL
open PySem PySem.Spec PyProof.Rows L2
/-! ### raise of an own class that is made with a text -/
def fRaise (x : Str) : S → Rz Fl := fun st => .ex ⟨x, []⟩ st
section
variable {X : Cx} {c : C}
theorem ds_raise {x m : Str} {A : Addr} {j : Nat} {p p2 pos pos' : Pos} (hc : X.calm = true) (tk : Takes X c.W) (hmg : c.mg = X.mg) (gC : X.mg x = some (.ref A))
    (k : PySem.W.excIn X.K A He.veBase "ValueError.__new__" = true ∧ PySem.W.keepIn X.K (.ref A) = true ∧ PySem.W.subIn X.K (.ref A) (.type "BaseException") = some true ∧ PySem.W.typeIn X.K (.ref A) = some (.type "type")) (hg : Gl X x := by rfl) (hdb : (x == ("__debug__" : Str)) = false := by decide) :
    DS X c (.Raise (some (.Call (.Name x p) [.Constant (.str m) j p2] [] pos')) none pos) (fRaise x) :=
  PS.mono (ps_raise hc tk (pmk_own PySem.F.excBase_ValueError k.1 gC k.2.1 (raises_own k.2.2.1 k.2.2.2) hg hdb)) fun D σ H ⟨o, st, rel, h⟩ =>
    h (.ref A) none σ H o rel (Tr.refl o H) ⟨by rw [hmg]; exact gC, .inl ⟨rfl, rfl⟩⟩
/-! ### try: body, except x: suite -/
def fTry (ck : Str → Option Bool) (gb gs : S → Rz Fl) : S → Rz Fl := fun st => match gb st with
  | .ex e st1 => match ck e.cls with
    | some true => (match gs st1 with
      | .ok r st2 => .ok r st2
      | _ => .no)
    | some false => .ex e st1
    | none => .no
  | z => z
def C.w (c : C) (W : WX) : C := { c with W := W }
def noWX : WX := fun _ _ _ _ => False
theorem ds_tryOnly {x : Str} {cv : Value} {body suite : List Stmt} {b₀ : Stmt} {np pos pos' : Pos} {ck : Str → Option Bool} {gb gs : S → Rz Fl} (hs : X.stack = X.env :: X.outer) (hf : X.env.frame = some X.env.locals) (hc : Names X x cv) (tk : Takes X c.W)
    (hck : ∀ y b, ck y = some b → ∃ v, c.mg y = some v ∧ PySem.W.exmOne X.K v cv = some b)
    (hb : ∀ (W : WX) (pn : List (Addr × Obj)) (xe : Value → Shared → Prop), Takes (X.tr pn xe) W → PassesOwn (model X.prog X.w) X.A X.env xe → DSs (X.tr pn xe) (c.w W) body gb)
    (hsu : ∀ (a : Addr) (oe : Obj) (pn : List (Addr × Obj)), DSs (X.suite a ((a, oe) :: pn)) (c.w noWX) (b₀ :: suite) gs) :
    DS X c (.Try body [.ExceptHandler (some (.Name x np)) none (b₀ :: suite) pos'] [] [] pos) (fTry ck gb gs) :=
  PS.mono (ps_try_only (Wout := c.W) (tb := fun W => tsOf (c.w W) gb) (ts := fun _ _ _ => tsOf (c.w noWX) gs) hs hf hc tk (fun W pn xe tk' po => hb W pn xe tk' po) (fun a oe cls d pn _ _ => hsu a oe pn)) fun D σ H ⟨o, st, rel, h⟩ => by
    refine ⟨o, st, rel, ?_⟩
    unfold fTry at h
    cases z : gb st with
    | no => rw [z] at h; exact h
    | ok r st1 =>
      rw [z] at h
      cases r with
      | nx => exact h
      | rt r => exact h
      | bk => exact h
      | ct => exact h
    | ex e st1 =>
      rw [z] at h
      dsimp only at h
      intro cls d σ' H' o' rel' t er
      show wOnly X.K cv (fun _ _ _ => tsOf (c.w noWX) gs) c.W D cls d σ' H'
      cases y : ck e.cls with
      | none => rw [y] at h; exact h.elim
      | some b =>
        rw [y] at h
        obtain ⟨v, g1, g2⟩ := hck _ _ y
        have er' : ERep c.b c.mg H' e cls d := er
        have ev : v = cls := by
          have := er'.1
          rw [g1] at this
          exact Option.some.inj this
        subst ev
        refine ⟨b, g2, fun hb a _ => ?_, fun hb => ?_⟩
        · subst hb
          dsimp only at h
          refine ⟨o', st1, rel', ?_⟩
          cases y2 : gs st1 with
          | no => rw [y2] at h; exact h.elim
          | ex e2 st2 => rw [y2] at h; exact h.elim
          | ok r st2 =>
            rw [y2] at h
            have h' := tsK.on t h
            cases r with
            | nx => exact h'
            | rt r => exact h'
            | bk => exact h'
            | ct => exact h'
        · subst hb
          exact h _ _ σ' H' o' rel' t er'
end
theorem tk0 {X : Cx} : Takes X (fun _ _ _ _ => False) := fun _ _ ⟨_, _, _, _, _, _, _, _, _, _, _, _, _, _, _, _, w⟩ => w.elim
/-- which classes a clause catches -/
def ckL : List (Str × Bool) → Str → Option Bool
  | [] => fun _ => none
  | (x, b) :: r => fun y => if y = x then some b else ckL r y
def CkOk (K : PySem.W.Frag) (mg : Str → Option Value) (cv : Value) (l : List (Str × Bool)) : Prop := ∀ y b, ckL l y = some b → ∃ v, mg y = some v ∧ PySem.W.exmOne K v cv = some b
theorem ck_nil {K : PySem.W.Frag} {mg : Str → Option Value} {cv : Value} : CkOk K mg cv [] := fun _ _ h => by cases h
theorem ck_cons {K : PySem.W.Frag} {mg : Str → Option Value} {cv v : Value} {x : Str} {b : Bool} {l : List (Str × Bool)} (g : mg x = some v) (m : PySem.W.exmOne K v cv = some b) (h : CkOk K mg cv l) : CkOk K mg cv ((x, b) :: l) := fun y b' e => by
  unfold ckL at e
  split at e
  · rename_i h'
    cases e
    subst h'
    exact ⟨v, g, m⟩
  · exact h y b' e
/-! ### a def that lets exceptions out -/
def mkFx (p n : Nat) (g : S → Rz Fl) (args : List Arg) : Out := if args.length = p then bodyF n g args else .no
section
variable {P : Program} {w : World} {K : PySem.W.Frag} {mg : Str → Option Value} {base : Heap}
theorem fnMX {x qual : Str} {params : Arguments} {body : List Stmt} {scope : Scope} {dvs : List V} {kws : List (Str × V)} {f : Addr} {fd : FuncData} {N ps : List Str} {k : Nat} {Hr : Hp} {g : S → Rz Fl} (F : FunD K x qual params body scope dvs kws f fd) (sc : FnScope N ps scope) (p n : Nat) (hp : ps.length = p) (hn : N.length = n)
    (der : ∀ (cdv : Value) (A : Around) (outer : List Env) (s0 : Shared) (H : Hp) (E : XK) (o : Addr → Option Nat) (vs : List V), Room k (A.deeper (envOfC qual scope s0.heap.objs.size f cdv)) →
      Takes (cxOf (L2.CX P w) P w K mg base N qual scope f cdv A outer s0 H E) (fun cls d _ H' => E cls d H') → PassesOwn (model P w) (A.deeper (envOfC qual scope s0.heap.objs.size f cdv)) (envOfC qual scope s0.heap.objs.size f cdv) (cxOf (L2.CX P w) P w K mg base N qual scope f cdv A outer s0 H E).xe →
      DSs (cxOf (L2.CX P w) P w K mg base N qual scope f cdv A outer s0 H E) (cOf K Hr H mg o vs (fun cls d _ H' => E cls d H')) body g) : FnOk P w K mg base (L2.CX P w) (k + 1) f fd ps (spF K Hr mg (mkFx p n g)) := by
  have hne : ∀ args, mkFx p n g args ≠ .no → args.length = ps.length := fun args h => by
    unfold mkFx at h
    split at h
    · rename_i e; rw [e, hp]
    · exact absurd rfl h
  refine F.ok sc (fun vs H Q E h => ?_) (fun cdv A outer s0 H vs Q E hr h => ?_)
  · obtain ⟨args, o, pre, q⟩ := h
    rw [pre.len]
    refine hne args fun z => ?_
    rw [z] at q
    exact q
  · obtain ⟨args, o, pre, q⟩ := h
    refine ⟨_, der cdv A outer s0 H E o vs hr (takes_of rfl rfl rfl rfl) PassesOwn.leaving, own0 o args vs, start0 n args, start_rel hn pre, ?_⟩
    have h0 : mkFx p n g args ≠ .no := fun z => by rw [z] at q; exact q
    unfold mkFx at q h0
    split at q
    · rename_i hl
      rw [if_pos hl] at h0
      unfold bodyF at q h0
      cases z : g (start0 n args) with
      | no => rw [z] at h0; exact absurd rfl h0
      | ex ee st =>
        rw [z] at q h0
        dsimp only at q h0
        by_cases hio : ioOk args st.γ = true
        · rw [if_pos hio] at q
          exact fun cls d σ' H' o' rel t er => q cls d H' (end_post (n := n) pre rel t (ioOk_inv hio)) er
        · rw [if_neg hio] at h0; exact absurd rfl h0
      | ok fl st =>
        rw [z] at q h0
        cases fl with
        | bk => exact absurd rfl h0
        | ct => exact absurd rfl h0
        | nx =>
          dsimp only at q h0
          by_cases hio : ioOk args st.γ = true
          · rw [if_pos hio] at q
            exact fun σ' H' o' rel t => q .non H' (end_post (n := n) pre rel t (ioOk_inv hio)) At.non
          · rw [if_neg hio] at h0; exact absurd rfl h0
        | rt r =>
          dsimp only at q h0
          by_cases hio : ioOk args st.γ = true
          · rw [if_pos hio] at q h0
            cases zr : st.res r with
            | none => rw [zr] at h0; exact absurd rfl h0
            | some r' =>
              rw [zr] at q
              dsimp only at q
              exact fun v σ' H' o' rel t xr => q v H' (end_post (n := n) pre rel t (ioOk_inv hio)) (end_ret (n := n) (args := args) rel xr zr)
          · rw [if_neg hio] at h0; exact absurd rfl h0
    · exact q.elim
end
end FL
end
section
set_option Elab.async false
set_option linter.all false
set_option maxRecDepth 100000
set_option maxHeartbeats 4000000
namespace FL
open PySem PySem.Spec PyProof.Rows L2
/-! ### a list that nobody writes any more: a datum -/
def tFrz (t : TE) : TE := fun σ H Q => t σ H fun v H1 => ∃ a vs, v = .ref a ∧ H1 a = some (.lst vs) ∧ ∀ od, Q v (upd H1 a (.frz od (.lst vs)))
theorem pe_frz {X : Cx} {e : Expr} {t : TE} (h : PE X e t) : PE X e (tFrz t) := by
  refine ⟨fun pins s σ H Q I hw => ?_⟩
  refine thn (h.run pins s σ _ _ I hw) fun v s1 ⟨x, H1, I2, r, a, vs, ev, eh, q⟩ => ?_
  obtain ⟨od, I3⟩ := I2.lock eh trivial
  exact ⟨x, _, I3, r, q od⟩
theorem tp_frzL {K : PySem.W.Frag} {H : Hp} {a : Addr} {od : Obj} {ws : List V} (e : H a = some (.lst ws)) : TP K H (upd H a (.frz od (.lst ws))) := ⟨fun b vs q => by
  rcases q with ⟨ob, q, dd⟩ | q
  · refine .inl ⟨ob, ?_, dd⟩
    rw [upd_ne (fun z => by rw [z, e] at q; cases q)]
    exact q
  · exact .inr q, fun c vs o q => by
  rw [upd_ne (fun z => by rw [z, e] at q; cases q)]
  exact q⟩
section
variable {b : B} {o o' : Own} {st st' : S} {σ : L2.St} {H H' : Hp} {i : Nat} {a : Addr} {od : Obj} {ws : List V}
theorem SRel.frz0 (h : SRel b o st σ H) (n : o a = none) (n0 : b.H0 a = none) (e : H a = some (.lst ws)) : SRel b o st σ (upd H a (.frz od (.lst ws))) := by
  have kt := tp_frzL (K := b.K) (od := od) e
  have ne : ∀ x w, o x = some w → x ≠ a := fun x w e z => by rw [z, n] at e; cases e
  refine ⟨h.len, fun k r e1 => ?_, fun j m e1 => ?_, fun x w e1 => ?_, fun x u e1 f => ?_, h.sfresh, h.afp, fun x f => ?_, fun x u e1 => ?_, h.rootH⟩
  · obtain ⟨v, e3, q⟩ := h.slot k r e1
    refine ⟨v, e3, ?_⟩
    cases r with
    | d x => exact At.mono kt x v q
    | own m =>
      obtain ⟨x, e4, q2, n2⟩ := q
      exact ⟨x, e4, q2.mono kt (upd_ne (ne _ _ n2)), n2⟩
    | ro m =>
      obtain ⟨x, e4, q2, n2⟩ := q
      exact ⟨x, e4, q2.mono kt (upd_ne (ne _ _ n2)), n2⟩
    | io j => exact q
  · obtain ⟨x, e2, q2, n2⟩ := h.arg j m e1
    exact ⟨x, e2, q2.mono kt (upd_ne (ne _ _ n2)), n2⟩
  · rw [upd_ne (ne _ _ e1)]
    exact h.mu x w e1
  · rw [upd_ne (fun z => by rw [z, n0] at e1; cases e1)]
    exact h.keep x u e1 f
  · by_cases hx : x = a
    · rw [hx, upd_same]; exact fun z => nomatch z
    · rw [upd_ne hx]; exact h.fp x f
  · obtain ⟨h1, h2⟩ := h.root x u e1
    have hx : x ≠ a := fun z => by have := h.rootH x u e1; rw [z, n0] at this; cases this
    exact ⟨by rw [upd_ne hx]; exact h1, h2⟩
theorem SRel.frzI {xs : List D} (h : SRel b o st σ H) (es : σ[i]? = some (some (.ref a))) (n : o a = some (.slot i)) (e : H a = some (.lst ws)) (hv : AtL b.K b.Hr H xs ws) :
    SRel b (ownX o a) { st with δ := st.δ.set i (some (.d (.list xs))) } σ (upd H a (.frz od (.lst ws))) := by
  have kt := tp_frzL (K := b.K) (od := od) e
  have n0 : b.H0 a = none := h.sfresh a i n
  refine ⟨by simp [h.len], fun k r e1 => ?_, fun j m e1 => ?_, fun x w e1 => ?_, fun x u e1 f => ?_, fun x k e1 => ?_, fun x j e1 => ?_, fun x f => ?_, fun x u e1 => ?_, h.rootH⟩
  · rcases get_set e1 with ⟨rfl, e2⟩ | ⟨hk, e2⟩
    · cases e2
      exact ⟨.ref a, es, .lst (.inr ⟨od, upd_same⟩) (hv.mono kt _ _)⟩
    · obtain ⟨v, e3, q⟩ := h.slot k r e2
      refine ⟨v, e3, ?_⟩
      cases r with
      | d x => exact At.mono kt x v q
      | own m =>
        obtain ⟨x, e4, q2, n2⟩ := q
        have hx : x ≠ a := fun z => by rw [z, n] at n2; cases n2; exact hk rfl
        exact ⟨x, e4, q2.mono kt (upd_ne hx), by rw [ownX_ne hx]; exact n2⟩
      | ro m =>
        obtain ⟨x, e4, q2, n2⟩ := q
        have hx : x ≠ a := fun z => by rw [z, n] at n2; cases n2
        exact ⟨x, e4, q2.mono kt (upd_ne hx), by rw [ownX_ne hx]; exact n2⟩
      | io j => exact q
  · obtain ⟨x, e2, q2, n2⟩ := h.arg j m e1
    have hx : x ≠ a := fun z => by rw [z, n] at n2; cases n2
    exact ⟨x, e2, q2.mono kt (upd_ne hx), by rw [ownX_ne hx]; exact n2⟩
  · by_cases hx : x = a
    · rw [hx, ownX_same] at e1; cases e1
    · rw [ownX_ne hx] at e1
      rw [upd_ne hx]
      exact h.mu x w e1
  · rw [upd_ne (fun z => by rw [z, n0] at e1; cases e1)]
    exact h.keep x u e1 f
  · by_cases hx : x = a
    · rw [hx, ownX_same] at e1; cases e1
    · rw [ownX_ne hx] at e1; exact h.sfresh x k e1
  · by_cases hx : x = a
    · rw [hx, ownX_same] at e1; cases e1
    · rw [ownX_ne hx] at e1; exact h.afp x j e1
  · by_cases hx : x = a
    · rw [hx, upd_same]; exact fun z => nomatch z
    · rw [upd_ne hx]; exact h.fp x f
  · obtain ⟨h1, h2⟩ := h.root x u e1
    have hx : x ≠ a := fun z => by rw [z, n] at h2; cases h2
    exact ⟨by rw [upd_ne hx]; exact h1, by rw [ownX_ne hx]; exact h2⟩
end
/-- a list of one's own, given away for good -/
def fFrz (f : S → Rz Rs) : S → Rz Rs := fun st => (f st).bind fun r st1 => match r with
  | .own (.lst xs) => .ok (.d (.list xs)) st1
  | .var i => match st1.δ[i]? with
    | some (some (.own (.lst xs))) => .ok (.d (.list xs)) { st1 with δ := st1.δ.set i (some (.d (.list xs))) }
    | _ => .no
  | _ => .no
theorem de_frz {X : Cx} {c : C} {e : Expr} {f : S → Rz Rs} (h : DE X c e f) : DE X c e (fFrz f) := PE.mono (pe_frz h) fun σ H Q ⟨o, st, rel, h⟩ => by
  show teOf c f σ H _
  refine te_bind (E := fun z => teK c o σ H z Q) rel (Tr.refl o H) teK.e teK.n h fun r st1 v H1 o1 rel1 t1 _ x1 h1 => ?_
  cases r with
  | d x => exact h1.elim
  | own m =>
    cases m with
    | dicK _ => exact h1.elim
    | dicT _ => exact h1.elim
    | lst xs =>
      obtain ⟨a, rfl, ⟨vs, e1, hv⟩, n, f0⟩ := x1
      refine ⟨a, vs, rfl, e1, fun od => h1 _ _ o1 (rel1.frz0 n (rel.fresh0 f0).2 e1) ?_ ?_⟩
      · refine ⟨fun b u eb s => ?_, fun b hb => ?_, t1.own⟩
        · obtain ⟨k1, k2⟩ := t1.keep b u eb s
          exact ⟨by rw [upd_ne (fun z => by rw [z, f0] at eb; cases eb)]; exact k1, k2⟩
        · by_cases hx : b = a
          · rw [hx, upd_same]; exact fun z => nomatch z
          · rw [upd_ne hx]; exact t1.trk b hb
      · exact .lst (.inr ⟨od, upd_same⟩) (hv.mono (tp_frzL e1) _ _)
  | var i =>
    cases hd : st1.δ[i]? with
    | none => simp only [hd] at h1; exact h1.elim
    | some y =>
      cases y with
      | none => simp only [hd] at h1; exact h1.elim
      | some y =>
        cases y with
        | d _ => simp only [hd] at h1; exact h1.elim
        | ro _ => simp only [hd] at h1; exact h1.elim
        | io _ => simp only [hd] at h1; exact h1.elim
        | own m =>
          cases m with
          | dicK _ => simp only [hd] at h1; exact h1.elim
          | dicT _ => simp only [hd] at h1; exact h1.elim
          | lst xs =>
            simp only [hd] at h1
            obtain ⟨w, e0, a, rfl, ⟨vs, e1, hv⟩, n⟩ := rel1.slot i _ hd
            have x1' : σ[i]? = some (some v) := x1
            rw [e0] at x1'
            cases x1'
            refine ⟨a, vs, rfl, e1, fun od => h1 _ _ (ownX o1 a) (rel1.frzI e0 n e1 hv) ?_ ?_⟩
            · refine ⟨fun b u eb s => ?_, fun b hb => ?_, fun b w hb hw => ?_⟩
              · obtain ⟨k1, k2⟩ := t1.keep b u eb s
                have hx : b ≠ a := fun z => by
                  rw [z] at k2 s
                  rw [n] at k2
                  rw [← k2] at s
                  rcases s with s | s <;> cases s
                exact ⟨by rw [upd_ne hx]; exact k1, by rw [ownX_ne hx]; exact k2⟩
              · by_cases hx : b = a
                · rw [hx, upd_same]; exact fun z => nomatch z
                · rw [upd_ne hx]; exact t1.trk b hb
              · by_cases hx : b = a
                · rw [hx, ownX_same] at hw; cases hw
                · rw [ownX_ne hx] at hw; exact t1.own b w hb hw
            · exact .lst (.inr ⟨od, upd_same⟩) (hv.mono (tp_frzL e1) _ _)
theorem u_fFrz (f : S → Rz Rs) (st : S) : fFrz f st = ((f st).bind fun r st1 => match r with
  | .own (.lst xs) => .ok (.d (.list xs)) st1
  | .var i => match st1.δ[i]? with
    | some (some (.own (.lst xs))) => .ok (.d (.list xs)) { st1 with δ := st1.δ.set i (some (.d (.list xs))) }
    | _ => .no
  | _ => .no) := Eq.trans rfl rfl
end FL
end
section
set_option Elab.async false
set_option linter.all false
set_option maxRecDepth 100000
set_option maxHeartbeats 4000000
namespace FL
open PySem PySem.Spec PyProof.Rows L2
/-! ### sorted(dict(ps)), keys tuples of data -/
mutual
def nkD : D → Option NestedKey
  | .none => some .none
  | .int i => some (.num i)
  | .str x => some (.text x)
  | .tuple ds => (nkAll ds).map .tup
  | .bool _ => none
  | .list _ => none
  | .dict _ => none
def nkAll : List D → Option (List NestedKey)
  | [] => some []
  | d :: ds => match nkD d, nkAll ds with
    | some k, some ks => some (k :: ks)
    | _, _ => none
end
section
variable {X : Cx} {pins : List (Addr × Obj)} {σ : L2.St} {H Hr : Hp} {s : Shared}
mutual
theorem nk_is (I : Inv X pins σ H s) : ∀ (d : D) (k : NestedKey) (v : V) (u : Value), nkD d = some k → At X.K Hr H d v → RelV v u → NestedIs s.heap k u
  | .none, k, v, u, e, h, r => by
    rw [h.none_inv] at r
    cases r
    cases e
    exact .none
  | .int i, k, v, u, e, h, r => by
    rw [h.int_inv] at r
    obtain ⟨t, rfl⟩ := r
    cases e
    exact .int i t
  | .str x, k, v, u, e, h, r => by
    rw [h.str_inv] at r
    obtain ⟨t, rfl⟩ := r
    cases e
    exact .text x t
  | .tuple ds, k, v, u, e, h, r => by
    obtain ⟨a, vs, rfl, q, ha⟩ := h.tup_inv
    cases r
    obtain ⟨its, rv, ⟨o, ho, hc, n, hd⟩, hz⟩ := I.tuple q
    simp only [nkD, Option.map_eq_some_iff] at e
    obtain ⟨ks, e1, rfl⟩ := e
    exact .tup ho hc hd (by simpa using nk_all I ds ks vs its e1 ha rv)
  | .bool _, k, v, u, e, h, r => by simp [nkD] at e
  | .list _, k, v, u, e, h, r => by simp [nkD] at e
  | .dict _, k, v, u, e, h, r => by simp [nkD] at e
theorem nk_all (I : Inv X pins σ H s) : ∀ (ds : List D) (ks : List NestedKey) (vs : List V) (us : List Value), nkAll ds = some ks → AtL X.K Hr H ds vs → Vals vs us → NestedAll s.heap ks us
  | [], ks, vs, us, e, h, r => by
    have := h.nil_inv
    subst this
    cases r
    simp only [nkAll, Option.some.injEq] at e
    subst e
    exact .nil
  | d :: ds, ks, vs, us, e, h, r => by
    obtain ⟨v, r1, rfl, q, t⟩ := h.cons_inv
    cases r with
    | cons ra rb =>
      simp only [nkAll] at e
      split at e
      · rename_i k ks' e1 e2
        cases e
        exact .cons (nk_is I d k _ _ e1 q ra) (nk_all I ds ks' _ _ e2 t rb)
      · cases e
end
end
def pairD (p : D × D) : D := .tuple [p.1, p.2]
/-- the keys as they come, each once -/
def ddN (ks : List D) : List D := ks.foldl (fun acc d => if nkD d ∈ acc.map nkD then acc else acc ++ [d]) []
def keyB (d : D) : Bool := match d with
  | .tuple ds => match nkAll ds with
    | some ks => decide ((NestedKey.tup ks).depth ≤ 8)
    | none => false
  | _ => false
/-- a dict of tuples that nobody writes, by its keys -/
def RawO (p : Addr) (keys : List V) : HO := .ext fun h => (p == sysModules) = false ∧ ∃ o es ep, h.get? p = some o ∧ o.ExactDict ∧ o.data = .dict es ep ∧ Vals keys (es.toList.map (·.key))
def rDictN (K : PySem.W.Frag) (Hr : Hp) : List V → Hp → VK → Prop := fun xs H Q => ∃ (l : Addr) (ts : List Addr) (kvs : List (D × D)), xs = [.ref l] ∧ SqL K H l (ts.map V.ref) ∧ AtL K Hr H (kvs.map pairD) (ts.map V.ref) ∧ (∀ p ∈ kvs, keyB p.1 = true) ∧
  ∀ p keys, H p = none → AtL K Hr H (ddN (kvs.map (·.1))) keys → keys.length ≤ sizeLine → Q (.ref p) (upd H p (RawO p keys))
section
variable {X : Cx} {pins : List (Addr × Obj)} {σ : L2.St} {H Hr : Hp} {s : Shared}
/-- a pair, its key by its place -/
def PR (X : Cx) (Hr H : Hp) (s : Shared) (t : Addr) (kv : D × D) (q : NestedKey × Addr × Value) : Prop :=
  nkD kv.1 = some q.1 ∧ q.1.depth ≤ 8 ∧ s.heap.IsTuple t #[.ref q.2.1, q.2.2] ∧ NestedIs s.heap q.1 (.ref q.2.1) ∧ At X.K Hr H kv.1 (.ref q.2.1)
theorem pr_one (I : Inv X pins σ H s) {t : Addr} {kv : D × D} (h : At X.K Hr H (pairD kv) (.ref t)) (hk : keyB kv.1 = true) : ∃ q, PR X Hr H s t kv q := by
  obtain ⟨k, x⟩ := kv
  obtain ⟨a, vs, e, q, ha⟩ := At.tup_inv (show At X.K Hr H (.tuple [k, x]) (.ref t) from h)
  cases e
  obtain ⟨v1, r1, rfl, q1, ha⟩ := ha.cons_inv
  obtain ⟨v2, r2, rfl, q2, ha⟩ := ha.cons_inv
  have := ha.nil_inv
  subst this
  obtain ⟨its, rv, ⟨o, ho, hc, n, hd⟩, hz⟩ := I.tuple q
  cases rv with
  | cons ra rv =>
    rename_i u1 us1
    cases rv with
    | cons rb rv =>
      rename_i u2 us2
      cases rv
      cases k with
      | tuple ds =>
        simp only [keyB] at hk
        cases e : nkAll ds with
        | none => rw [e] at hk; cases hk
        | some ks =>
          rw [e] at hk
          have ek : nkD (.tuple ds) = some (.tup ks) := by simp [nkD, e]
          obtain ⟨b, vs', rfl, _, _⟩ := q1.tup_inv
          cases ra
          exact ⟨(.tup ks, b, u2), ek, of_decide_eq_true hk, ⟨o, ho, hc, n, hd⟩, nk_is I _ _ _ _ ek q1 rfl, q1⟩
      | _ => simp [keyB] at hk
theorem pr_all (I : Inv X pins σ H s) : ∀ (ts : List Addr) (kvs : List (D × D)), AtL X.K Hr H (kvs.map pairD) (ts.map V.ref) → (∀ p ∈ kvs, keyB p.1 = true) →
    ∃ qs : List (NestedKey × Addr × Value), qs.length = ts.length ∧ kvs.length = ts.length ∧ ∀ (j : Nat) (q : NestedKey × Addr × Value), qs[j]? = some q → ∃ t kv, ts[j]? = some t ∧ kvs[j]? = some kv ∧ PR X Hr H s t kv q
  | [], kvs, h, _ => by
    cases kvs with
    | nil => exact ⟨[], rfl, rfl, fun j q e => by simp at e⟩
    | cons kv kvs =>
      obtain ⟨v, r, e, _⟩ := AtL.cons_inv (show AtL X.K Hr H (pairD kv :: kvs.map pairD) _ from h)
      cases e
  | t :: ts, kvs, h, hk => by
    cases kvs with
    | nil => have := AtL.nil_inv (show AtL X.K Hr H [] _ from h); cases this
    | cons kv kvs =>
      obtain ⟨v, r, e, q, ha⟩ := AtL.cons_inv (show AtL X.K Hr H (pairD kv :: kvs.map pairD) _ from h)
      cases e
      obtain ⟨q1, hq⟩ := pr_one I q (hk kv (List.mem_cons_self ..))
      obtain ⟨qs, l1, l2, hqs⟩ := pr_all I ts kvs ha fun p hp => hk p (List.mem_cons_of_mem _ hp)
      refine ⟨q1 :: qs, by simp [l1], by simp [l2], fun j q e => ?_⟩
      cases j with
      | zero => cases e; exact ⟨t, kv, rfl, rfl, hq⟩
      | succ j =>
        obtain ⟨t', kv', e1, e2, e3⟩ := hqs j q (by simpa using e)
        exact ⟨t', kv', by simpa using e1, by simpa using e2, e3⟩
end
/-- the keys stored, side by side with the data -/
theorem stored_dd {K : PySem.W.Frag} {Hr H : Hp} : ∀ (qs : List (NestedKey × Addr × Value)) (ds : List D) (accQ : List (NestedKey × Addr × Value)) (accD : List D), qs.length = ds.length →
    (∀ (j : Nat) (q : NestedKey × Addr × Value), qs[j]? = some q → ∃ d, ds[j]? = some d ∧ nkD d = some q.1 ∧ At K Hr H d (.ref q.2.1)) →
    accD.map nkD = accQ.map (fun q => some q.1) → AtL K Hr H accD (accQ.map fun q => V.ref q.2.1) →
    AtL K Hr H (ds.foldl (fun acc d => if nkD d ∈ acc.map nkD then acc else acc ++ [d]) accD) ((storedAllH accQ qs).map fun q => V.ref q.2.1)
  | [], ds, accQ, accD, hl, _, _, h => by
    rw [List.length_eq_zero_iff.mp hl.symm]
    exact h
  | q :: qs, [], _, _, hl, _, _, _ => by simp at hl
  | q :: qs, d :: ds, accQ, accD, hl, hq, hk, h => by
    obtain ⟨d', e1, e2, e3⟩ := hq 0 q rfl
    cases e1
    have e : storedAllH accQ (q :: qs) = storedAllH (storedH accQ q.1 q.2.1 q.2.2) qs := rfl
    rw [e, List.foldl_cons]
    have hq' : ∀ (j : Nat) (q : NestedKey × Addr × Value), qs[j]? = some q → ∃ d, ds[j]? = some d ∧ nkD d = some q.1 ∧ At K Hr H d (.ref q.2.1) := fun j q' e => by
      obtain ⟨d2, g1, g2⟩ := hq (j + 1) q' (by simpa using e)
      exact ⟨d2, by simpa using g1, g2⟩
    have iff : nkD d ∈ accD.map nkD ↔ (atKey accQ q.1).isSome = true := by
      rw [hk, e2]
      simp [atKey]
    by_cases hm : nkD d ∈ accD.map nkD
    · rw [if_pos hm]
      have hs := iff.mp hm
      have es : storedH accQ q.1 q.2.1 q.2.2 = accQ.map (putAt q.1 q.2.2) := by unfold storedH; rw [if_pos hs]
      have p1 : ∀ x : NestedKey × Addr × Value, (putAt q.1 q.2.2 x).1 = x.1 ∧ (putAt q.1 q.2.2 x).2.1 = x.2.1 := fun x => by unfold putAt; split <;> exact ⟨rfl, rfl⟩
      rw [es]
      refine stored_dd qs ds _ accD (by simpa using hl) hq' ?_ ?_
      · rw [hk, List.map_map]
        exact List.map_congr_left fun x _ => by simp [(p1 x).1]
      · rw [List.map_map]
        have : accQ.map ((fun q => V.ref q.2.1) ∘ putAt q.1 q.2.2) = accQ.map fun q => V.ref q.2.1 := List.map_congr_left fun x _ => by simp [(p1 x).2]
        rw [this]
        exact h
    · rw [if_neg hm]
      have hs : ¬ (atKey accQ q.1).isSome = true := fun z => hm (iff.mpr z)
      have es : storedH accQ q.1 q.2.1 q.2.2 = accQ ++ [(q.1, q.2.1, q.2.2)] := by unfold storedH; rw [if_neg hs]
      rw [es]
      refine stored_dd qs ds _ _ (by simpa using hl) hq' ?_ ?_
      · rw [List.map_append, List.map_append, hk, List.map_cons, List.map_cons, e2]
        rfl
      · rw [List.map_append]
        exact h.append (.cons e3 .nil)
theorem raw_of {h : Heap} {p : Addr} {xs : List (NestedKey × Addr × Value)} {prog : Program} {w : World} (hp : (p == sysModules) = false) (hd : h.DictOfH (nestedKind prog w) p xs) : (∃ o, h.get? p = some o) ∧ ((p == sysModules) = false ∧ ∃ o es ep, h.get? p = some o ∧ o.ExactDict ∧ o.data = .dict es ep ∧ Vals (xs.map fun q => V.ref q.2.1) (es.toList.map (·.key))) := by
  obtain ⟨o, es, ep, ho, hx, hdat, hes, k1, k2⟩ := hd
  refine ⟨⟨o, ho⟩, hp, o, es, ep, ho, hx, hdat, ?_⟩
  rw [hes, List.map_map]
  clear hes hdat ho k1 k2
  induction xs with
  | nil => exact .nil
  | cons x xs ih => exact .cons rfl ih
theorem call_dictN {X : Cx} {Hr : Hp} (hcalm : X.calm = true) (hu : X.A.units + 100 < cLine) : CallR X (.type "dict") (rDictN X.K Hr) := by
  intro pins s σ H xs us Q I r q
  obtain ⟨l, ts, kvs, rfl, hq, ha, hk, q⟩ := q
  obtain ⟨u, rfl, rx⟩ := vals1 r
  cases rx
  obtain ⟨its, rv, pl, hz⟩ := I.list hq
  have ei := refs_at rv
  subst ei
  rw [List.length_map] at hz
  obtain ⟨qs, l1, l2, hqs⟩ := pr_all I ts kvs ha hk
  let ps : List (Value × Value) := qs.map fun q => (.ref q.2.1, q.2.2)
  have lps : ps.length = qs.length := List.length_map ..
  refine call_dict_pairsH (knd := nestedKind X.prog X.w) (ps := qs) (PairArg.list l (ts.map Value.ref).toArray (fun j => ts.getD j 0) ps) (I.ok.hd hcalm) (by show X.A.units + 1 + 1 + 8 < cLine; omega) ⟨pl, by simp [ps, l1], fun j k v e => ?_⟩ ⟨lps.symm, fun j k v e => ?_⟩ (fun h' hk' x hx => ?_) (by rw [lps, l1]; exact hz) fun h' tk hd k => ?_
  · obtain ⟨q, hq, e2⟩ : ∃ q, qs[j]? = some q ∧ (Value.ref q.2.1, q.2.2) = (k, v) := by
      have e' : (qs.map fun q => (Value.ref q.2.1, q.2.2))[j]? = some (k, v) := e
      rw [List.getElem?_map] at e'
      cases z : qs[j]? with
      | none => rw [z] at e'; cases e'
      | some q => rw [z] at e'; exact ⟨q, rfl, Option.some.inj e'⟩
    cases e2
    obtain ⟨t, kv, e3, e4, _, _, e5, _⟩ := hqs j q hq
    have et : ts.getD j 0 = t := by rw [List.getD_eq_getElem?_getD, e3]; rfl
    simp only [et]
    exact ⟨by simp [e3], .inl e5⟩
  · have e' : (qs.map fun q => (Value.ref q.2.1, q.2.2))[j]? = some (k, v) := e
    rw [List.getElem?_map] at e'
    cases z : qs[j]? with
    | none => rw [z] at e'; cases e'
    | some q =>
      rw [z] at e'
      obtain ⟨n, b, u⟩ := q
      cases e'
      exact ⟨n, b, rfl, rfl⟩
  · obtain ⟨j, hj⟩ := List.mem_iff_getElem?.mp hx
    obtain ⟨t, kv, _, _, _, e6, _, e7, _⟩ := hqs j x hj
    refine ⟨nestedKind_stays (prog := X.prog) (w := X.w) |>.stays (fun b o vs n hb _ => hk' b o (Nat.ne_of_lt (Heap.lt_size hb)) (by simp) hb) ⟨e7, e6⟩ |>.1, e6⟩
  · have hm : (s.heap.objs.size == sysModules) = false := beq_eq_false_iff_ne.mpr (Nat.ne_of_gt I.big)
    obtain ⟨there, raw⟩ := raw_of hm hd
    have keep : ∀ b o, s.heap.get? b = some o → h'.get? b = some o := fun b o e => k b o (by simp) e
    have hlen : ((storedAllH [] qs).map fun q => V.ref q.2.1).length ≤ sizeLine := by
      rw [List.length_map]
      have := storedAllH_length qs []
      simp at this
      omega
    have hat := stored_dd (K := X.K) (Hr := Hr) (H := H) qs (kvs.map (·.1)) [] [] (by rw [List.length_map]; omega) (fun j q e => by
      obtain ⟨t, kv, _, e4, e5, _, _, _, e8⟩ := hqs j q e
      exact ⟨kv.1, by rw [List.getElem?_map, e4]; rfl, e5, e8⟩) rfl .nil
    exact ⟨.ref s.heap.objs.size, upd H s.heap.objs.size (RawO s.heap.objs.size ((storedAllH [] qs).map fun q => V.ref q.2.1)), I.laid (t' := tk) keep (Nat.le_refl _) (show ObjOk X.prog X.w _ _ _ (RawO _ _) from ⟨raw, there, fun h1 h2 ⟨hp, o, es, ep, ho, r⟩ hk => ⟨hp, o, es, ep, hk o ho, r⟩⟩), rfl, q _ _ (I.hok.fresh (Nat.le_refl _)) hat hlen⟩
/-! ### sorted of such a dict -/
def rSortN (K : PySem.W.Frag) (Hr : Hp) : List V → Hp → VK → Prop := fun xs H Q => ∃ (p : Addr) (keys : List V) (ks : List D), xs = [.ref p] ∧ H p = some (RawO p keys) ∧ AtL K Hr H ks keys ∧ (∀ c u, Hr c = some u → H c = some u) ∧ sortB ks = true ∧
  ∀ (l : Addr) (ws : List V), H l = none → AtL K Hr H (dsort ks) ws → Q (.ref l) (upd H l (.lst ws))
theorem cr_sortN {X : Cx} {Hr : Hp} (hcalm : X.calm = true) (hu : X.A.units + 100 < cLine) : CallR X (.builtin "sorted") (rSortN X.K Hr) := by
  intro pins s σ H xs us Q I r q
  obtain ⟨p, keys, ks, rfl, hp, ha, root, hB, q⟩ := q
  rw [Vals.ref1 r]
  obtain ⟨⟨lo, o, es, ep, ho, hx, hdat, rv⟩, _, _⟩ := (show ObjOk X.prog X.w H s.heap p (RawO p keys) from I.hok p _ hp)
  obtain ⟨b1, b2, b3, b4⟩ := sortB_inv hB
  have lk : keys.length = ks.length := ha.len
  have le : es.size = ks.length := by
    have e := rv.length
    rw [List.length_map] at e
    have := e.symm.trans lk
    simpa using this
  refine Calls.call_function_entry PyProof.Rows.kind_sorted PyProof.Rows.plain_sorted PyProof.Rows.entry_sorted (PyProof.Rows.args_sorted1 _) ?_
  unfold Builtin.«sorted»
  refine wpAny_bind (m := checkCount "sorted" 1 1 _) (wpAny_pure ?_)
  refine wpAny_bind (PySem.W.kdu_collect (A := X.A.in1) (KdlSrc.rawDict (prog := X.prog) (w := X.w) (es := es) (ep := ep) lo) (I.ok.hd hcalm) ⟨o, ho, hx, hdat⟩ (by rw [le]; exact b4) fun h' tk acc hk hacc => ?_)
  have ea : acc.toList = es.toList.map (·.key) := by
    refine List.ext_getElem? fun j => ?_
    by_cases hj : j < acc.size
    · obtain ⟨hi, e⟩ := hacc.2 j acc[j] (Array.getElem?_eq_getElem hj)
      rw [Array.getElem?_toList, Array.getElem?_eq_getElem hj, e, List.getElem?_map, Array.getElem?_toList, Array.getElem?_eq_getElem hi]
      rfl
    · have hs := hacc.1
      rw [List.getElem?_eq_none (by rw [Array.length_toList]; omega), List.getElem?_eq_none (by rw [List.length_map, Array.length_toList]; omega)]
  have e := each_at ha (show Vals keys acc.toList by rw [ea]; exact rv)
  have hal : acc.toList.length = ks.length := by rw [ea, List.length_map, Array.length_toList, le]
  have I1 : Inv X pins σ H { s with heap := h', toks := tk } := I.kept hk
  have er : PySem.W.EachIs (fun (u : Value) (d : D) => ∃ as, Reads h' u (id d) as) acc.toList ks := e.mono fun u d ⟨v, r1, q1⟩ => Dp.reads I1 d v u (At.dp root d v q1) r1
  refine wpAny_bind (wpAny_newList ?_ (by rw [hal]; exact b4))
  have hoL : (h'.push (seqObj "list" acc.toList.toArray 0)).get? h'.objs.size = some (seqObj "list" acc.toList.toArray 0) := Heap.get?_push_size _ rfl
  show wpAny _ _ _ _ _ { s with heap := h'.push (seqObj "list" acc.toList.toArray 0), toks := tk }
  have er' : PySem.W.EachIs (fun (u : Value) (d : D) => ∃ as, Reads (PySem.W.sortingHeap (h'.push (seqObj "list" acc.toList.toArray 0)) h'.objs.size acc.toList) u (id d) as) acc.toList ks := er.mono fun _ _ ⟨as, r⟩ => ⟨as, PyProof.Rows.Reads.keeps (fun _ _ e => PySem.W.sortingHeap_old (Nat.ne_of_lt (Heap.lt_size e)) (Heap.get?_push_of_some _ e)) r⟩
  refine wpAny_bind (wpAny_holding (wpAny_call_entry PyProof.Rows.slot_list_sort ⟨_, hoL, rfl⟩ PyProof.Rows.entry_list_sort
    (PySem.W.list_sort_vals (s := { s with heap := h'.push (seqObj "list" acc.toList.toArray 0), toks := tk }) hoL (PySem.W.SortsAt.data (s := { s with heap := PySem.W.sortingHeap (h'.push (seqObj "list" acc.toList.toArray 0)) h'.objs.size acc.toList, toks := tk }) er' b1 b2 fun d hd => ?_) (by rw [hal]; exact b4) ⟨_, rfl, ?_⟩) (PyProof.Rows.args_list_sort _)))
  · have := b3 d hd
    show X.A.units + 1 + 1 + d.depth < cLine
    omega
  have eo : PySem.W.EachIs (fun (u : Value) (d : D) => ∃ v, RelV v u ∧ At X.K Hr H d v) (PySem.W.sortVals (PySem.W.dataKind (PySem.W.sortingHeap (h'.push (seqObj "list" acc.toList.toArray 0)) h'.objs.size acc.toList) ks) false acc.toList acc.toList) (ks.mergeSort (PySem.W.dataLe false id)) := by
    have := PySem.W.sortVals_data (enc := id) false e er' (by rw [List.map_id]; exact b1)
    rwa [List.map_id] at this
  obtain ⟨ws, rw_, qw⟩ := at_each eo
  obtain ⟨e', he'⟩ := PyProof.Rows.sortedHeap_at (vs := acc.toList) (out := (PySem.W.sortVals (PySem.W.dataKind (PySem.W.sortingHeap (h'.push (seqObj "list" acc.toList.toArray 0)) h'.objs.size acc.toList) ks) false acc.toList acc.toList).toArray) hoL
  have hlen : ws.length ≤ sizeLine := by
    rw [rw_.length, PySem.W.sortVals_length false rfl, hal]
    exact b4
  refine wpAny_pure ⟨_, rfl, .ref h'.objs.size, upd H h'.objs.size (.lst ws), I1.laid (t' := tk) (fun b u e => ?_) (Nat.le_refl _)
    (show ObjOk X.prog X.w _ _ _ (.lst ws) from ⟨hlen, _, e', rw_, he'⟩), rfl, q _ _ (I1.hok.fresh (Nat.le_refl _)) qw⟩
  have hb : b < h'.objs.size := Heap.lt_size e
  rw [PyProof.Rows.sortedHeap_old (Nat.ne_of_lt hb) (by rw [size_push']; exact Nat.lt_succ_of_lt hb)]
  exact Heap.get?_push_of_some _ e
/-! ### the word -/
def unpair : D → Option (D × D)
  | .tuple [k, x] => some (k, x)
  | _ => none
def unpairs : List D → Option (List (D × D))
  | [] => some []
  | d :: ds => match unpair d, unpairs ds with
    | some p, some ps => some (p :: ps)
    | _, _ => none
theorem unpairs_inv : ∀ {ds : List D} {ps : List (D × D)}, unpairs ds = some ps → ds = ps.map pairD
  | [], ps, e => by cases e; rfl
  | d :: ds, ps, e => by
    simp only [unpairs] at e
    split at e
    · rename_i p ps' e1 e2
      cases e
      have := unpairs_inv e2
      subst this
      have : d = pairD p := by
        unfold unpair at e1
        split at e1
        · cases e1; rfl
        · cases e1
      rw [this]; rfl
    · cases e
theorem tups_refs {K : PySem.W.Frag} {Hr H : Hp} : ∀ {ps : List (D × D)} {vs : List V}, AtL K Hr H (ps.map pairD) vs → ∃ ts : List Addr, vs = ts.map V.ref
  | [], _, h => ⟨[], (AtL.nil_inv h)⟩
  | p :: ps, _, h => by
    obtain ⟨v, r, rfl, q, t⟩ := AtL.cons_inv (show AtL K Hr H (pairD p :: ps.map pairD) _ from h)
    obtain ⟨a, vs, rfl, _, _⟩ := At.tup_inv (show At K Hr H (.tuple [p.1, p.2]) v from q)
    obtain ⟨ts, rfl⟩ := tups_refs t
    exact ⟨a :: ts, rfl⟩
def fSortTup (f : S → Rz Rs) : S → Rz Rs := fun st => (f st).bind fun x st => match st.lst x with
  | some ds => match unpairs ds with
    | some ps => if (ps.all fun p => keyB p.1) = true ∧ sortB (ddN (ps.map (·.1))) = true then .ok (.own (.lst (dsort (ddN (ps.map (·.1)))))) st else .no
    | none => .no
  | none => .no
theorem u_fSortTup (f : S → Rz Rs) (st : S) : fSortTup f st = ((f st).bind fun x st => match st.lst x with
  | some ds => match unpairs ds with
    | some ps => if (ps.all fun p => keyB p.1) = true ∧ sortB (ddN (ps.map (·.1))) = true then .ok (.own (.lst (dsort (ddN (ps.map (·.1)))))) st else .no
    | none => .no
  | none => .no) := Eq.trans rfl rfl
section
variable {X : Cx} {c : C}
theorem de_sortTup {e : Expr} {p p2 q pos : Pos} {f : S → Rz Rs} (hK : X.K = c.b.K) (hc : X.calm = true) (hu : X.A.units + 100 < cLine) (hg : Gl X "sorted") (hm : X.mg "sorted" = none) (hg2 : Gl X "dict") (hm2 : X.mg "dict" = none) (he : DE X c e f)
    (h1 : starEach [e] X.env = (false, eval e X.env) :: starEach [] X.env := by rfl) (h2 : starEach [.Call (.Name "dict" p2) [e] [] q] X.env = (false, eval (.Call (.Name "dict" p2) [e] [] q) X.env) :: starEach [] X.env := by rfl)
    (h3 : (backTo q (starEach [] X.env)).any (·.1) = false := by rfl) (h4 : (backTo pos (starEach [] X.env)).any (·.1) = false := by rfl) (hv : bootBuiltins "sorted" = some (.builtin "sorted") := by rfl) (hv2 : bootBuiltins "dict" = some (.type "dict") := by rfl) :
    DE X c (.Call (.Name "sorted" p) [.Call (.Name "dict" p2) [e] [] q] [] pos) (fSortTup f) :=
  PE.mono (pe_callB (cr_sortN (Hr := c.b.Hr) hc hu) hg hm hv (pa_cons (pe_callTy (call_dictN (Hr := c.b.Hr) hc hu) hg2 hm2 hv2 (pa_cons he pa_nil h1) (by decide) (by decide) h1 h3) pa_nil h2) (by decide) (by decide) h2 h4) fun σ H Q ⟨o, st, rel, h⟩ => by
    show teOf c f σ H _
    refine te_bind (E := fun z => teK c o σ H z Q) rel (Tr.refl o H) teK.e teK.n h fun x st1 v H1 o1 rel1 t1 _ x1 h1 => ?_
    cases hs : st1.lst x with
    | none => simp only [hs] at h1; exact h1.elim
    | some ds =>
      simp only [hs] at h1
      cases hi : unpairs ds with
      | none => simp only [hi] at h1; exact h1.elim
      | some ps =>
        simp only [hi] at h1
        split at h1
        · rename_i hb
          obtain ⟨hb1, hb2⟩ := hb
          obtain ⟨a, vs, rfl, hq, r⟩ := rel1.lst x1 hs
          have ed := unpairs_inv hi
          subst ed
          obtain ⟨ts, rfl⟩ := tups_refs r
          refine ⟨a, ts, ps, rfl, by rw [hK]; exact hq, by rw [hK]; exact r, fun z hz => List.all_eq_true.mp hb1 z hz, fun p1 keys n1 ha hl => ?_⟩
          rw [hK] at ha
          have relA : SRel c.b o1 st1 σ (upd H1 p1 (RawO p1 keys)) := rel1.laid n1
          have tA : Tr o1 H1 o1 (upd H1 p1 (RawO p1 keys)) := Tr.laid n1
          refine ⟨p1, keys, ddN (ps.map (·.1)), rfl, upd_same, by rw [hK]; exact ha.mono (tp_upd n1) _ _, fun c' u hc' => (relA.root c' u hc').1, hb2, fun l ws n2 hw => ?_⟩
          rw [hK] at hw
          exact give_lst (Hs := H) relA (t1.trans tA).trk hw (fun w H' r' t' xr => h1 w H' o1 r' ((t1.trans tA).trans t') xr) l n2
        · exact h1.elim
end
/-! ### t.index(x) -/
def rIndexP (K : PySem.W.Frag) : V → List V → Hp → VK → Prop := fun x xs H Q => ∃ (a : Addr) (y : V) (d : PyData) (ds : List PyData) (j : Nat) (z : PyData), x = V.ref a ∧ xs = [y] ∧ Dp K H (V.ref a) (.tuple ds) ∧ Dp K H y d ∧
  min (PyData.depthAll ds) d.depth ≤ 60 ∧ ds[j]? = some z ∧ PyData.eqv z d = true ∧ (∀ (m : Nat) (z' : PyData), m < j → ds[m]? = some z' → PyData.eqv z' d = false) ∧ Q (.int (j : Nat)) H
theorem mt_indexP {X : Cx} (hu : X.A.units + 100 < cLine) : MtR X "tuple.index" (rIndexP X.K) := by
  intro pins s σ H x xs v us Q I rx rxs h
  obtain ⟨a, y, d, ds, j, z, rfl, rfl, hl, hy, hm, hz, hzj, hno, q⟩ := h
  cases rx
  cases rxs with
  | cons ry rt =>
    rename_i uy ut
    cases rt
    obtain ⟨bs, r1⟩ := Dp.reads I d y uy hy ry
    have hp : PyData.plainAll ds = true := by have := Dp.plain _ _ hl; simpa only [PyData.plain] using this
    cases hl with
    | tup hs ha =>
      obtain ⟨its, rv, ⟨⟨cls, dd, data, sls⟩, ho, hc, n, hdt⟩, hlen⟩ := I.tuple hs
      simp only at hc hdt
      subst hc hdt
      obtain ⟨as, h4⟩ := Dp.readsAll I ds _ its ha rv
      have hn : its.length = ds.length := SeqAt.ReadsAll.length ds its as h4
      have hmap : its.map (SeqAt.readOf s.heap) = ds := SeqAt.readsAll_map_plain ds its as hp h4
      obtain ⟨hjd, _⟩ := List.getElem?_eq_some_iff.mp hz
      have hj : j < its.toArray.size := by rw [List.size_toArray]; omega
      have at_ : ∀ (m : Nat) (hm : m < its.toArray.size) (z' : PyData), ds[m]? = some z' → SeqAt.readOf s.heap its.toArray[m] = z' := by
        intro m hm z' hz'
        have hml : m < its.length := by simpa using hm
        rw [← hmap, List.getElem?_map, List.getElem?_eq_getElem hml] at hz'
        have e1 : SeqAt.readOf s.heap its[m] = z' := Option.some.inj (show some (SeqAt.readOf s.heap its[m]) = some z' from hz')
        simpa using e1
      refine call_meets PySem.F.slot_tuple_index ⟨_, ho, rfl⟩ PySem.F.entry_tuple_index (PySem.F.args_tuple_index_2 _ _)
        (TI.tuple_indexAt a its.toArray n dd sls uy (fun u => PyData.eqv (SeqAt.readOf s.heap u) d) j hj ?_ ?_) ⟨ho, SeqAt.items_plain (vs := its.toArray) (show ReadsAll s.heap its.toArray.toList ds as from h4) r1 hp (Dp.plain _ _ hy) (by omega), ?_⟩
      · show PyData.eqv (SeqAt.readOf s.heap its.toArray[j]) d = true
        rw [at_ j hj z hz]
        exact hzj
      · intro m hm hmj
        have hmd : m < ds.length := by rw [List.size_toArray] at hm; omega
        have hz' : ds[m]? = some ds[m] := List.getElem?_eq_getElem hmd
        show PyData.eqv (SeqAt.readOf s.heap its.toArray[m]) d = false
        rw [at_ m hm _ hz']
        exact hno m _ hmj hz'
      · exact ⟨.int (j : Nat), H, I.tok _, ⟨_, rfl⟩, q⟩
end FL
namespace FL
open PySem PySem.Spec PyProof.Rows L2
def gIdx : Rs → List Rs → Option Rs := fun x xs => match x, xs with
  | .d (.tuple ds), [.d d] => if min (PyData.depthAll ds) d.depth ≤ 60 then (ds.findIdx? fun z => PyData.eqv z d).map fun j => .d (.int (j : Nat)) else none
  | _, _ => none
def isT : Rs → Bool
  | .d (.tuple _) => true
  | _ => false
def fIndex (fo : S → Rz Rs) (fa : S → Rz (List Rs)) : S → Rz Rs := fun st => (fo st).bind fun x st => if isT x = true then (fa st).bind fun xs st => match gIdx x xs with
  | some r => .ok r st
  | none => .no else .no
theorem u_fIndex (fo : S → Rz Rs) (fa : S → Rz (List Rs)) (st : S) : fIndex fo fa st = ((fo st).bind fun x st => if isT x = true then (fa st).bind fun xs st => match gIdx x xs with
  | some r => .ok r st
  | none => .no else .no) := Eq.trans rfl rfl
def tBMT (K : PySem.W.Frag) (r : V → List V → Hp → VK → Prop) (to : TE) (t : TA) : TE := fun σ H Q => to σ H fun x H1 => (∃ a vs, x = .ref a ∧ TqT K H1 a vs) ∧ t σ H1 fun vs H2 => r x vs H2 Q
section
variable {X : Cx} {c : C}
theorem pe_bmT {name id : String} {o e : Expr} {es : List Expr} {apos cpos : Pos} {to : TE} {t : TA} {r : V → List V → Hp → VK → Prop} (pa : PlainAttrs "tuple") (slot : Slot "tuple" name id) (hty : typeOf (.builtin id) = pure (.type "method_descriptor")) (hm : MtR X id r) (ho : PE X o to) (ha : PA X (e :: es) t)
    (hbase : attributeBase o name X.env (eval o X.env) = eval o X.env := by rfl)
    (hfew : ((backTo cpos (starEach (e :: es) X.env)).all (fun x => !x.1) && (backToKw cpos (keywordEach [] X.env)).all (fun x => x.1.isSome)
      && decide ((e :: es).length + ([] : List Keyword).length + (if ([] : List Keyword).isEmpty then 0 else 1) < 30)) = true := by rfl)
    (hline : (apos.endLine == cpos.line) = true := by rfl) (hs : starEach (e :: es) X.env = (false, eval e X.env) :: starEach es X.env := by rfl) (hplain : (backTo cpos (starEach es X.env)).any (·.1) = false := by rfl) :
    PE X (.Call (.Attribute o name apos) (e :: es) [] cpos) (tBMT X.K r to t) := by
  refine ⟨fun pins s σ H Q I h => ?_⟩
  refine wpAny_Call_method_late hbase hfew hline rfl (thn (ho.run pins s σ H _ I h) fun v s1 ⟨x, H1, I1, r1, ty, q1⟩ => ?_)
  obtain ⟨a, vs, rfl, tq⟩ := ty
  obtain ⟨its, rv, ⟨ob, n, hob, hcl, hdn, hdt⟩, hz⟩ := TqT.plain I1 tq
  have rr : v = .ref a := r1
  refine ⟨"tuple", id, pa, slot, hty, ?_, ?_, ?_⟩
  · rw [rr]; exact ⟨ob, hob, hcl⟩
  · intro b eb
    rw [rr] at eb
    cases eb
    exact ⟨ob, hob, hdn⟩
  have hA := ha.run cpos pins s1 σ H1 _ I1 q1
  rw [hs] at hA ⊢
  refine Calls.callWith_builtin (by show (false || (backTo cpos (starEach es X.env)).any (·.1)) = false; rw [hplain] <;> rfl) (Calls.evalArgs_plain ?_)
  exact thn hA fun us s2 ⟨vs, H2, I2, r2, q2⟩ => hm pins s2 σ H2 _ vs v us Q I2 r1 r2 q2
theorem de_index {x : Str} {i : Nat} {e : Expr} {p apos cpos : Pos} {fa : S → Rz (List Rs)} (hK : X.K = c.b.K) (hu : X.A.units + 100 < cLine) (ho : DE X c (.Name x p) (fVar i)) (ha : DA X c [e] fa) (hbase : attributeBase (.Name x p) "index" X.env (eval (.Name x p) X.env) = eval (.Name x p) X.env := by rfl)
    (hfew : ((backTo cpos (starEach [e] X.env)).all (fun x => !x.1) && (backToKw cpos (keywordEach [] X.env)).all (fun x => x.1.isSome) && decide ([e].length + ([] : List Keyword).length + (if ([] : List Keyword).isEmpty then 0 else 1) < 30)) = true := by rfl)
    (hline : (apos.endLine == cpos.line) = true := by rfl) (hst : starEach [e] X.env = (false, eval e X.env) :: starEach [] X.env := by rfl) (hplain : (backTo cpos (starEach [] X.env)).any (·.1) = false := by rfl) :
    DE X c (.Call (.Attribute (.Name x p) "index" apos) [e] [] cpos) (fIndex (fVar i) fa) :=
  PE.mono (pe_bmT PySem.F.plainAttrs_tuple PySem.F.slot_tuple_index PySem.F.type_tuple_index (mt_indexP hu) ho ha hbase hfew hline hst hplain) fun σ H Q ⟨o, st, rel, h⟩ => by
    rw [hK]
    refine te_bind (E := fun z => teK c o σ H z Q) rel (Tr.refl o H) teK.e teK.n h fun x st1 v H1 o1 rel1 t1 _ x1 h1 => ?_
    split at h1
    · rename_i hs
      cases x with
      | own _ => exact nomatch hs
      | var _ => exact nomatch hs
      | d x =>
        cases x with
        | tuple ds =>
          have x1' : At c.b.K c.b.Hr H1 (.tuple ds) v := x1
          obtain ⟨a0, vs0, rfl, hq0, r0⟩ := x1'.tup_invT
          refine ⟨⟨a0, vs0, rfl, hq0⟩, ?_⟩
          · refine ta_bind (E := fun z => teK c o σ H z Q) rel1 t1 teK.e teK.n h1 fun xs st2 us H2 o2 rel2 t2 t12 x2 h2 => ?_
            cases hg : gIdx (.d (.tuple ds)) xs with
            | none => simp only [hg] at h2; exact h2.elim
            | some w =>
              simp only [hg] at h2
              unfold gIdx at hg
              split at hg
              · rename_i ds' d eds
                cases eds
                split at hg
                · rename_i hd
                  obtain ⟨j, hi, ew⟩ := Option.map_eq_some_iff.mp hg
                  subst ew
                  obtain ⟨u, eu, xu⟩ := xreps1 x2
                  subst eu
                  have x2' : At c.b.K c.b.Hr H2 (.tuple ds) (.ref a0) := At.mono (rel1.tups t2) _ _ x1'
                  rw [List.findIdx?_eq_some_iff_getElem] at hi
                  obtain ⟨hj, h3, h4⟩ := hi
                  have root : ∀ c' u, c.b.Hr c' = some u → H2 c' = some u := fun c' u h => (rel2.root c' u h).1
                  exact ⟨a0, u, d, ds, j, ds[j], rfl, rfl, At.dp root _ _ x2', At.dp root _ _ xu, hd, List.getElem?_eq_getElem hj, h3, fun m z' hm hz' => by
                    obtain ⟨hm', ez⟩ := List.getElem?_eq_some_iff.mp hz'
                    have := h4 m hm
                    rw [ez] at this
                    simpa using this, h2 _ H2 o2 rel2 t12 At.mk_int⟩
                · cases hg
              · cases hg
        | _ => exact nomatch hs
    · exact h1.elim
end
end FL
end
section
set_option Elab.async false
set_option linter.all false
set_option maxRecDepth 100000
namespace FL
open PySem PySem.Spec PyProof.Rows L2
def l__law_dice_0 : S → Rz Fl :=
  (fAsg (gN 1) (fBin gMod (fBin gAdd (fBin gAdd (fBin gMul (fVar 1) (fC (.int 48271))) (fBin gMul (fBin gMod (fVar 2) (fC (.int 2147483647))) (fC (.int 69621)))) (fC (.int 11))) (fC (.int 2147483647))))
def c__law_dice : S → Rz Fl :=
  (fSeq (fAsg (gN 1) (fC (.int 0)))
  (fSeq (fFor (gN 2) (fSeqI (fVar 0)) l__law_dice_0)
  (fRet (fCall gLst (fCons (fVar 0) (fCons (fC (.int 0)) (fCons (fBin gMul (fVar 1) (fCall gInt (fCons (fBin gGt (fCall gLenX (fCons (fVar 0) fNil)) (fC (.int 2))) fNil))) (fCons (fC (.int 0)) fNil))))))))
def F__law_dice : List Arg → Out := mkF 1 3 c__law_dice
def c__law_next : S → Rz Fl :=
  (fSeq (fIfS (fTest (fBin gGt (fBin gIxX (fVar 0) (fC (.int 3))) (fC (.int 0))))
  (fSeq (fAsg (gN 2) (fBin gMod (fBin gIxX (fVar 0) (fC (.int 3))) (fVar 1)))
  (fSeq (fSetIx 0 (fC (.int 3)) (fBin gFdiv (fBin gIxX (fVar 0) (fC (.int 3))) (fVar 1)))
  (fRet (fVar 2))))
  fNext)
  (fSeq (fSetIx 0 (fC (.int 1)) (fBin gAdd (fBin gIxX (fVar 0) (fC (.int 1))) (fC (.int 1))))
  (fSeq (fIfS (fTest (fBin gLe (fBin gIxX (fVar 0) (fC (.int 1))) (fCall gLenX (fCons (fBin gIxX (fVar 0) (fC (.int 0))) fNil))))
  (fSeq (fAsg (gN 3) (fBin gIxX (fBin gIxX (fVar 0) (fC (.int 0))) (fBin gSub (fBin gIxX (fVar 0) (fC (.int 1))) (fC (.int 1)))))
  (fSeq (fSetIx 0 (fC (.int 3)) (fIf (fTest (fBin gGe (fVar 3) (fBin gPow (fC (.int 10)) (fC (.int 18))))) (fBin gFdiv (fVar 3) (fVar 1)) (fC (.int 0))))
  (fRet (fBin gMod (fVar 3) (fVar 1)))))
  fNext)
  (fSeq (fSetIx 0 (fC (.int 2)) (fBin gMod (fBin gMul (fBin gIxX (fVar 0) (fC (.int 2))) (fC (.int 48271))) (fC (.int 2147483647))))
  (fRet (fBin gMod (fBin gFdiv (fBin gIxX (fVar 0) (fC (.int 2))) (fC (.int 7))) (fVar 1)))))))
def F__law_next : List Arg → Out := mkF 2 4 c__law_next
def e__law_orders_0 (F : List Arg → Out) : S → Rz Rs :=
  (fCall gTup (fCons (fVar 2) (fCons (fC (.bool true)) fNil)))
def q__law_orders_1 (F : List Arg → Out) : S → Rz Rs :=
  (fLc [2] (gN 2) fTrue (e__law_orders_0 F) (fSeqI (fVar 0)))
def e__law_orders_2 (F : List Arg → Out) : S → Rz Rs :=
  (fBin gAdd (fCall gTup (fCons (fVar 2) fNil)) (fVar 4))
def q__law_orders_3 (F : List Arg → Out) : S → Rz Rs :=
  (fLc [4] (gN 4) fTrue (e__law_orders_2 F) (fSeqI (fCallF F [.r] (fCons (fBin gAdd (fSl gSl (fVar 0) fNoPart (fPart (fVar 3))) (fSl gSl (fVar 0) (fPart (fBin gAdd (fVar 3) (fC (.int 1)))) fNoPart)) fNil))))
def l__law_orders_4 (F : List Arg → Out) : S → Rz Fl :=
  (fSeq (fAsg (gN 3) (fIndex (fVar 0) (fCons (fVar 2) fNil)))
  (fAsg (gN 1) (fBin gAdd (fVar 1) (q__law_orders_3 F))))
def s__law_orders_5 (F : List Arg → Out) : S → Rz Fl :=
  (fFor (gN 2) (fSeqI (fSortTup (q__law_orders_1 F))) (l__law_orders_4 F))
def c__law_orders (F : List Arg → Out) : S → Rz Fl :=
  (fSeq (fIfS (fTest (fBin (gEqN false) (fVar 0) (fCall gTup fNil)))
  (fRet (fCall gLst (fCons (fCall gTup fNil) fNil)))
  fNext)
  (fSeq (fAsg (gN 1) (fCall gLst fNil))
  (fSeq (s__law_orders_5 F)
  (fRet (fVar 1)))))
def F__law_orders : Nat → List Arg → Out
  | 0 => fun _ => .no
  | k + 1 => mkF 1 5 (c__law_orders (F__law_orders k))
def c__law_pick : S → Rz Fl :=
  (fRet (fBin gIxX (fVar 1) (fCallF F__law_next [.w, .r] (fCons (fVar 0) (fCons (fCall gLenX (fCons (fVar 1) fNil)) fNil)))))
def F__law_pick : List Arg → Out := mkF 2 2 c__law_pick
def l__law_single_0 : S → Rz Fl :=
  (fExpr (fMut "list" gAppend 2 (fCons (fIf (fTest (fBin (gEqN false) (fCallF F__law_next [.w, .r] (fCons (fVar 0) (fCons (fC (.int 2)) fNil))) (fC (.int 0)))) (fCall gTup (fCons (fC (.str "take")) fNil)) (fCall gTup (fCons (fC (.str "put")) (fCons (fBin gSub (fCallF F__law_next [.w, .r] (fCons (fVar 0) (fCons (fC (.int 4)) fNil))) (fC (.int 1))) fNil)))) fNil)))
def s__law_single_1 : S → Rz Fl :=
  (fFor (gN 3) (fRange1 (fCons (fCallF F__law_next [.w, .r] (fCons (fVar 0) (fCons (fBin gAdd (fVar 1) (fC (.int 1))) fNil))) fNil)) l__law_single_0)
def c__law_single : S → Rz Fl :=
  (fSeq (fAsg (gN 2) (fCall gLst fNil))
  (fSeq s__law_single_1
  (fRet (fCall gTuple (fCons (fVar 2) fNil)))))
def F__law_single : List Arg → Out := mkF 2 4 c__law_single
def e__law_size_0 : S → Rz Rs :=
  (fVar 2)
def q__law_size_1 : S → Rz Rs :=
  (fLc [1, 2] (gT 2 (gsName 1 (gsName 2 gsNil))) fTrue e__law_size_0 (fSeqI (fVar 0)))
def c__law_size : S → Rz Fl :=
  (fRet (fCall gSum (fCons q__law_size_1 fNil)))
def F__law_size : List Arg → Out := mkF 1 3 c__law_size
def c__law_number : S → Rz Fl :=
  (fRet (fBin gIxX (fCall gLst (fCons (fBin gSub (fCallF F__law_next [.w, .r] (fCons (fVar 0) (fCons (fC (.int 5)) fNil))) (fC (.int 2))) (fCons (fBin gSub (fCallF F__law_next [.w, .r] (fCons (fVar 0) (fCons (fC (.int 9)) fNil))) (fC (.int 4))) (fCons (fBin gSub (fCallF F__law_next [.w, .r] (fCons (fVar 0) (fCons (fC (.int 1999)) fNil))) (fC (.int 999))) fNil)))) (fBin gFdiv (fCallF F__law_next [.w, .r] (fCons (fVar 0) (fCons (fC (.int 5)) fNil))) (fC (.int 2)))))
def F__law_number : List Arg → Out := mkF 1 1 c__law_number
def l__law_store_0 : S → Rz Fl :=
  (fSeq (fAsg (gN 4) (fBin gIxX (fCall gLst (fCons (fCallF F__law_number [.w] (fCons (fVar 0) fNil)) (fCons (fBin gSub (fCallF F__law_next [.w, .r] (fCons (fVar 0) (fCons (fC (.int 2000001)) fNil))) (fC (.int 1000000))) fNil))) (fCall gInt (fCons (fBin (gEqN false) (fCallF F__law_next [.w, .r] (fCons (fVar 0) (fCons (fC (.int 6)) fNil))) (fC (.int 5))) fNil))))
  (fDPut 2 (fVar 4) (fBin gAdd (fC (.int 1)) (fCallF F__law_next [.w, .r] (fCons (fVar 0) (fCons (fBin gIxX (fCall gLst (fCons (fC (.int 3)) (fCons (fC (.int 3)) (fCons (fVar 1) fNil)))) (fCallF F__law_next [.w, .r] (fCons (fVar 0) (fCons (fC (.int 3)) fNil)))) fNil))))))
def s__law_store_1 : S → Rz Fl :=
  (fFor (gN 3) (fRange1 (fCons (fCallF F__law_next [.w, .r] (fCons (fVar 0) (fCons (fBin gIxX (fCall gLst (fCons (fC (.int 4)) (fCons (fC (.int 9)) fNil))) (fCallF F__law_next [.w, .r] (fCons (fVar 0) (fCons (fC (.int 2)) fNil)))) fNil))) fNil)) l__law_store_0)
def e__law_store_2 : S → Rz Rs :=
  (fCall gTup (fCons (fVar 4) (fCons (fDGet (fVar 2) (fVar 4)) fNil)))
def q__law_store_3 : S → Rz Rs :=
  (fLc [4] (gN 4) fTrue e__law_store_2 (fSeqI (fCall gSorted (fCons (fVar 2) fNil))))
def c__law_store : S → Rz Fl :=
  (fSeq (fAsg (gN 2) fDNew)
  (fSeq s__law_store_1
  (fRet (fCall gTuple (fCons q__law_store_3 fNil)))))
def F__law_store : List Arg → Out := mkF 2 5 c__law_store
def c_is_step : S → Rz Fl :=
  (fSeq (fIfS (fTest (fBin (gEqN false) (fCall gLenX (fCons (fVar 0) fNil)) (fC (.int 0))))
  (fRet (fC (.bool false)))
  fNext)
  (fSeq (fIfS (fTest (fBin (gEqN false) (fBin gIxX (fVar 0) (fC (.int 0))) (fC (.str "put"))))
  (fRet (fAndV (fBin (gEqN false) (fCall gLenX (fCons (fVar 0) fNil)) (fC (.int 2))) (fBin gLe (fCall gAbs (fCons (fBin gIxX (fVar 0) (fC (.int 1))) fNil)) (fC (.int 999)))))
  fNext)
  (fSeq (fIfS (fTest (fBin (gEqN false) (fBin gIxX (fVar 0) (fC (.int 0))) (fC (.str "times"))))
  (fRet (fAndV (fBin (gEqN false) (fCall gLenX (fCons (fVar 0) fNil)) (fC (.int 3))) (fChain gLe gLe (fC (.int 0)) (fBin gIxX (fVar 0) (fC (.int 1))) (fC (.int 1000000000000000000)))))
  fNext)
  (fRet (fBin (gEqN false) (fVar 0) (fCall gTup (fCons (fC (.str "take")) fNil)))))))
def F_is_step : List Arg → Out := mkF 1 1 c_is_step
def l_need_steps_0 (F : List Arg → Out) : S → Rz Fl :=
  (fSeq (fIfS (fOr (fTest (fBin (gEqN false) (fVar 2) (fC (.int 30)))) (fOr (fTest (fBin gGt (fVar 1) (fC (.int 3)))) (fNot (fTest (fCallF F_is_step [.r] (fCons (fVar 3) fNil))))))
  fNever
  fNext)
  (fSeq (fAug 2 gAddI (fC (.int 1)))
  (fIfS (fTest (fBin (gEqN false) (fBin gIxX (fVar 3) (fC (.int 0))) (fC (.str "times"))))
  (fAsg (gN 2) (fCallF F [.r, .r, .r] (fCons (fBin gIxX (fVar 3) (fC (.int 2))) (fCons (fBin gAdd (fVar 1) (fC (.int 1))) (fCons (fVar 2) fNil)))))
  fNext)))
def c_need_steps (F : List Arg → Out) : S → Rz Fl :=
  (fSeq (fFor (gN 3) (fSeqI (fVar 0)) (l_need_steps_0 F))
  (fRet (fVar 2)))
def F_need_steps : Nat → List Arg → Out
  | 0 => fun _ => .no
  | k + 1 => mkF 3 4 (c_need_steps (F_need_steps k))
def c_need_work : S → Rz Fl :=
  (fExpr (fCallF (F_need_steps 3) [.r, .r, .r] (fCons (fVar 0) (fCons (fC (.int 1)) (fCons (fC (.int 0)) fNil)))))
def F_need_work : List Arg → Out := mkF 1 1 c_need_work
def e_bars_of_0 : S → Rz Rs :=
  (fVar 3)
def q_bars_of_1 : S → Rz Rs :=
  (fLc [3, 4] (gT 2 (gsName 3 (gsName 4 gsNil))) fTrue e_bars_of_0 (fSeqI (fBin gAdd (fBin gIxX (fVar 0) (fC (.int 1))) (fBin gIxX (fVar 1) (fC (.int 1))))))
def c_bars_of : S → Rz Fl :=
  (fSeq (fAsg (gN 2) (fCall gLst (fCons (fBin gSub (fC (.int 0)) (fC (.int 1000000))) fNil)))
  (fSeq (fExpr (fExtend 2 q_bars_of_1))
  (fRet (fSortSet (fVar 2)))))
def F_bars_of : List Arg → Out := mkF 2 5 c_bars_of
def t_beyond_0 : S → Rz Bool :=
  (fTest (fBin gGt (fVar 2) (fVar 1)))
def e_beyond_1 : S → Rz Rs :=
  (fVar 3)
def q_beyond_2 : S → Rz Rs :=
  (fLc [2, 3] (gT 2 (gsName 2 (gsName 3 gsNil))) t_beyond_0 e_beyond_1 (fSeqI (fBin gIxX (fVar 0) (fC (.int 1)))))
def c_beyond : S → Rz Fl :=
  (fRet (fBin gAdd (fBin gIxX (fVar 0) (fC (.int 2))) (fCall gSum (fCons q_beyond_2 fNil))))
def F_beyond : List Arg → Out := mkF 2 4 c_beyond
def l_parting_0 : S → Rz Fl :=
  (fSeq (fAsg (gN 4) (fCall gTup (fCons (fCallF F_beyond [.r, .r] (fCons (fVar 0) (fCons (fVar 3) fNil))) (fCons (fCallF F_beyond [.r, .r] (fCons (fVar 1) (fCons (fVar 3) fNil))) fNil))))
  (fIfS (fTest (fBin (gEqN true) (fBin gIxX (fVar 4) (fC (.int 0))) (fBin gIxX (fVar 4) (fC (.int 1)))))
  (fExpr (fMut "list" gAppend 2 (fCons (fBin gAdd (fCall gMinT (fCons (fVar 4) fNil)) (fC (.int 1))) fNil)))
  fNext))
def s_parting_1 : S → Rz Fl :=
  (fFor (gN 3) (fSeqI (fCallF F_bars_of [.r, .r] (fCons (fVar 0) (fCons (fVar 1) fNil)))) l_parting_0)
def c_parting : S → Rz Fl :=
  (fSeq (fIfS (fTest (fBin (gEqN true) (fBin gIxX (fVar 0) (fC (.int 0))) (fBin gIxX (fVar 1) (fC (.int 0)))))
  (fRet (fCall gTup fNil))
  fNext)
  (fSeq (fAsg (gN 2) (fCall gLst fNil))
  (fSeq s_parting_1
  (fRet (fIf (fTest (fBin (gEqN true) (fVar 2) (fCall gLst fNil))) (fCall gTup (fCons (fCall gTup (fCons (fBin gSub (fC (.int 0)) (fC (.int 1000000))) (fCons (fCall gMinT (fCons (fVar 2) fNil)) fNil))) fNil)) (fC .none))))))
def F_parting : List Arg → Out := mkF 2 5 c_parting
def l_both_0 : S → Rz Fl :=
  (fDPut 2 (fVar 3) (fBin gAdd (fDGet2 (fVar 2) (fVar 3) (fC (.int 0))) (fVar 4)))
def c_both : S → Rz Fl :=
  (fSeq (fAsg (gN 2) (fCall gDict (fCons (fVar 0) fNil)))
  (fSeq (fFor (gT 2 (gsName 3 (gsName 4 gsNil))) (fSeqI (fVar 1)) l_both_0)
  (fRet (fCall gTuple (fCons (fSortIt (fVar 2)) fNil)))))
def F_both : List Arg → Out := mkF 2 5 c_both
def l_parted_0 : S → Rz Fl :=
  (fSeq (fAsg (gN 6) (fCall gMinX (fCons (fVar 5) (fCons (fVar 1) fNil))))
  (fSeq (fAug 1 gSub (fVar 6))
  (fSeq (fExpr (fExtend 2 (fBin gMul (fCall gLst (fCons (fCall gTup (fCons (fVar 4) (fCons (fVar 6) fNil))) fNil)) (fCall gInt (fCons (fBin gGt (fVar 6) (fC (.int 0))) fNil)))))
  (fExpr (fExtend 3 (fBin gMul (fCall gLst (fCons (fCall gTup (fCons (fVar 4) (fCons (fBin gSub (fVar 5) (fVar 6)) fNil))) fNil)) (fCall gInt (fCons (fBin gGt (fVar 5) (fVar 6)) fNil))))))))
def c_parted : S → Rz Fl :=
  (fSeq (fPar (gsName 2 (gsName 3 gsNil)) (fCons (fCall gLst fNil) (fCons (fCall gLst fNil) fNil)))
  (fSeq (fFor (gT 2 (gsName 4 (gsName 5 gsNil))) (fSeqI (fVar 0)) l_parted_0)
  (fRet (fCall gTup (fCons (fCall gTuple (fCons (fVar 2) fNil)) (fCons (fCall gTuple (fCons (fVar 3) fNil)) (fCons (fVar 1) fNil)))))))
def F_parted : List Arg → Out := mkF 2 7 c_parted
def e_size_of_0 : S → Rz Rs :=
  (fVar 2)
def c_size_of : S → Rz Fl :=
  (fRet (fCall gSum (fCons (fLc [1, 2] (gT 2 (gsName 1 (gsName 2 gsNil))) fTrue e_size_of_0 (fSeqI (fVar 0))) fNil)))
def F_size_of : List Arg → Out := mkF 1 3 c_size_of
def c_behind : S → Rz Fl :=
  (fSeq (fAsg (gT 3 (gsName 2 (gsName 3 (gsName 4 gsNil)))) (fVar 0))
  (fSeq (fAsg (gT 3 (gsName 5 (gsName 6 (gsName 7 gsNil)))) (fCallF F_parted [.r, .r] (fCons (fVar 2) (fCons (fBin gIxX (fVar 1) (fC (.int 2))) fNil))))
  (fSeq (fAsg (gT 3 (gsName 8 (gsName 6 (gsName 9 gsNil)))) (fCallF F_parted [.r, .r] (fCons (fCallF F_both [.r, .r] (fCons (fVar 6) (fCons (fBin gIxX (fVar 1) (fC (.int 1))) fNil))) (fCons (fCallF F_size_of [.r] (fCons (fBin gIxX (fVar 1) (fC (.int 1))) fNil)) fNil))))
  (fRet (fCall gTup (fCons (fCallF F_both [.r, .r] (fCons (fVar 6) (fCons (fBin gIxX (fVar 1) (fC (.int 0))) fNil))) (fCons (fCallF F_both [.r, .r] (fCons (fCallF F_both [.r, .r] (fCons (fVar 3) (fCons (fVar 5) fNil))) (fCons (fVar 8) fNil))) (fCons (fBin gAdd (fVar 4) (fVar 7)) fNil))))))))
def F_behind : List Arg → Out := mkF 2 10 c_behind
def l_power_0 : S → Rz Fl :=
  (fSeq (fIfS (fTest (fBin (gEqN false) (fBin gMod (fVar 1) (fC (.int 2))) (fC (.int 1))))
  (fAsg (gN 2) (fCallF F_behind [.r, .r] (fCons (fVar 2) (fCons (fVar 0) fNil))))
  fNext)
  (fSeq (fAsg (gN 0) (fCallF F_behind [.r, .r] (fCons (fVar 0) (fCons (fVar 0) fNil))))
  (fAug 1 gFdiv (fC (.int 2)))))
def c_power : S → Rz Fl :=
  (fSeq (fAsg (gN 2) (fC (.tuple [(.tuple []), (.tuple []), (.int 0)])))
  (fSeq (whileN (fTest (fBin gGt (fVar 1) (fC (.int 0)))) l_power_0 64)
  (fRet (fVar 2))))
def F_power : List Arg → Out := mkF 2 3 c_power
def l_three_of_0 (F : List Arg → Out) : S → Rz Fl :=
  (fSeq (fIfS (fTest (fBin (gEqN false) (fBin gIxX (fVar 2) (fC (.int 0))) (fC (.str "put"))))
  (fAsg (gN 3) (fCall gTup (fCons (fCall gTup (fCons (fCall gTup (fCons (fBin gIxX (fVar 2) (fC (.int 1))) (fCons (fC (.int 1)) fNil))) fNil)) (fCons (fCall gTup fNil) (fCons (fC (.int 0)) fNil)))))
  (fIfS (fTest (fBin (gEqN false) (fBin gIxX (fVar 2) (fC (.int 0))) (fC (.str "take"))))
  (fAsg (gN 3) (fCall gTup (fCons (fCall gTup fNil) (fCons (fCall gTup fNil) (fCons (fC (.int 1)) fNil)))))
  (fAsg (gN 3) (fCallF F_power [.r, .r] (fCons (fCallF F [.r] (fCons (fBin gIxX (fVar 2) (fC (.int 2))) fNil)) (fCons (fBin gIxX (fVar 2) (fC (.int 1))) fNil))))))
  (fAsg (gN 1) (fCallF F_behind [.r, .r] (fCons (fVar 1) (fCons (fVar 3) fNil)))))
def c_three_of (F : List Arg → Out) : S → Rz Fl :=
  (fSeq (fAsg (gN 1) (fC (.tuple [(.tuple []), (.tuple []), (.int 0)])))
  (fSeq (fFor (gN 2) (fSeqI (fVar 0)) (l_three_of_0 F))
  (fRet (fVar 1))))
def F_three_of : Nat → List Arg → Out
  | 0 => fun _ => .no
  | k + 1 => mkF 1 4 (c_three_of (F_three_of k))
def c_alike : S → Rz Fl :=
  (fSeq (fExpr (fCallF F_need_work [.r] (fCons (fVar 0) fNil)))
  (fSeq (fExpr (fCallF F_need_work [.r] (fCons (fVar 1) fNil)))
  (fRet (fCallF F_parting [.r, .r] (fCons (fCallF (F_three_of 3) [.r] (fCons (fVar 0) fNil)) (fCons (fCallF (F_three_of 3) [.r] (fCons (fVar 1) fNil)) fNil))))))
def F_alike : List Arg → Out := mkF 2 2 c_alike
def c_heaps : S → Rz Fl :=
  (fSeq (fExpr (fCallF F_need_work [.r] (fCons (fVar 0) fNil)))
  (fRet (fCallF (F_three_of 3) [.r] (fCons (fVar 0) fNil))))
def F_heaps : List Arg → Out := mkF 1 1 c_heaps
def c_done : S → Rz Fl :=
  (fRet (fCallF F_behind [.r, .r] (fCons (fCall gTup (fCons (fVar 1) (fCons (fCall gTup fNil) (fCons (fC (.int 0)) fNil)))) (fCons (fVar 0) fNil))))
def F_done : List Arg → Out := mkF 2 2 c_done
def l_bad_place_0 : S → Rz Fl :=
  (fSeq (fIfS (fOr (fTest (fBin (gEqN false) (fVar 2) (fC (.int 40)))) (fOr (fNot (fTest (fChain gLe gLe (fBin gSub (fC (.int 0)) (fVar 1)) (fVar 3) (fVar 1)))) (fNot (fTest (fChain gLe gLe (fC (.int 1)) (fVar 4) (fC (.int 1000000000000000000)))))))
  (fRet (fVar 2))
  fNext)
  (fIfS (fAnd (fTest (fBin gGt (fVar 2) (fC (.int 0)))) (fTest (fBin gGe (fBin gIxX (fBin gIxX (fVar 0) (fBin gSub (fVar 2) (fC (.int 1)))) (fC (.int 0))) (fVar 3))))
  (fRet (fVar 2))
  fNext))
def c_bad_place : S → Rz Fl :=
  (fSeq (fFor (gT 2 (gsName 2 (gsCons (gT 2 (gsName 3 (gsName 4 gsNil))) gsNil))) (fEnum (fCons (fVar 0) fNil)) l_bad_place_0)
  (fRet (fC .none)))
def F_bad_place : List Arg → Out := mkF 2 5 c_bad_place
def c_need_heap : S → Rz Fl :=
  (fSeq (fAsg (gN 1) (fCallF F_bad_place [.r, .r] (fCons (fVar 0) (fCons (fC (.int 1000000)) fNil))))
  (fIfS (fTest (fBin (gIsN true) (fVar 1) (fC .none)))
  fNever
  fNext))
def F_need_heap : List Arg → Out := mkF 1 2 c_need_heap
def c_run : S → Rz Fl :=
  (fSeq (fExpr (fCallF F_need_work [.r] (fCons (fVar 0) fNil)))
  (fSeq (fExpr (fCallF F_need_heap [.r] (fCons (fVar 1) fNil)))
  (fRet (fBin gIxX (fCallF F_done [.r, .r] (fCons (fCallF (F_three_of 3) [.r] (fCons (fVar 0) fNil)) (fCons (fVar 1) fNil))) (fC (.int 0))))))
def F_run : List Arg → Out := mkF 2 2 c_run
def l_law_0 : S → Rz Fl :=
  (fSeq (fAsg (gN 6) (fCallF F__law_store [.w, .r] (fCons (fVar 1) (fCons (fC (.int 4)) fNil))))
  (fSeq (fAsg (gN 7) (fBin (gEqN false) (fCallF F_run [.r, .r] (fCons (fVar 2) (fCons (fVar 6) fNil))) (fCallF F_run [.r, .r] (fCons (fVar 3) (fCons (fVar 6) fNil)))))
  (fIfS (fAnd (fNot (fTest (fVar 7))) (fOr (fTest (fBin (gIsN false) (fVar 4) (fC .none))) (fTest (fBin gLt (fCallF F__law_size [.r] (fCons (fVar 6) fNil)) (fCallF F__law_size [.r] (fCons (fVar 4) fNil))))))
  (fRet (fC (.bool false)))
  fNext)))
def s_law_1 : S → Rz Fl :=
  (fFor (gN 5) (fRange1 (fCons (fC (.int 5)) fNil)) l_law_0)
def c_law : S → Rz Fl :=
  (fSeq (fAsg (gN 1) (fCallF F__law_dice [.r] (fCons (fVar 0) fNil)))
  (fSeq (fPar (gsName 2 (gsName 3 gsNil)) (fCons (fCallF F__law_single [.w, .r] (fCons (fVar 1) (fCons (fC (.int 8)) fNil))) (fCons (fCallF F__law_single [.w, .r] (fCons (fVar 1) (fCons (fC (.int 8)) fNil))) fNil)))
  (fSeq (fIfS (fTest (fBin (gEqN false) (fCallF F__law_next [.w, .r] (fCons (fVar 1) (fCons (fC (.int 2)) fNil))) (fC (.int 0))))
  (fAsg (gN 3) (fBin gAdd (fCallF F__law_pick [.w, .r] (fCons (fVar 1) (fCons (fCallF (F__law_orders 6) [.r] (fCons (fSl gSl (fVar 2) fNoPart (fPart (fC (.int 5)))) fNil)) fNil))) (fSl gSl (fVar 2) (fPart (fC (.int 5))) fNoPart)))
  fNext)
  (fSeq (fAsg (gN 4) (fCallF F_alike [.r, .r] (fCons (fVar 2) (fCons (fVar 3) fNil))))
  (fSeq (fIfS (fOr (fTest (fBin (gEqN true) (fCallF F_alike [.r, .r] (fCons (fVar 3) (fCons (fVar 2) fNil))) (fVar 4))) (fTest (fBin (gIsN true) (fCallF F_alike [.r, .r] (fCons (fVar 2) (fCons (fVar 2) fNil))) (fC .none))))
  (fRet (fC (.bool false)))
  fNext)
  (fSeq s_law_1
  (fSeq (fIfS (fTest (fBin (gIsN false) (fVar 4) (fC .none)))
  (fRet (fBin (gEqN false) (fCallF F_heaps [.r] (fCons (fVar 2) fNil)) (fCallF F_heaps [.r] (fCons (fVar 3) fNil))))
  fNext)
  (fRet (fAndV (fBin (gEqN true) (fCallF F_run [.r, .r] (fCons (fVar 2) (fCons (fVar 4) fNil))) (fCallF F_run [.r, .r] (fCons (fVar 3) (fCons (fVar 4) fNil)))) (fBin (gEqN true) (fCallF F_heaps [.r] (fCons (fVar 2) fNil)) (fCallF F_heaps [.r] (fCons (fVar 3) fNil))))))))))))
def F_law : List Arg → Out := mkF 1 8 c_law
end FL
end
section
set_option Elab.async false
set_option linter.all false
set_option maxRecDepth 100000
namespace FL
open PySem PySem.Spec PyProof.Rows L2
/-! ### loops in plain words -/
theorem loop_rel {t : Rs → S → Option S} {body : S → Rz Fl} (Inv : List D → S → Prop) (step : ∀ x xs st, Inv (x :: xs) st → ∃ st1 st2, t (.d x) st = some st1 ∧ (body st1 = .ok .nx st2 ∨ body st1 = .ok .ct st2) ∧ Inv xs st2) :
    ∀ xs st, Inv xs st → ∃ st', loop t body xs st = .ok .nx st' ∧ Inv [] st'
  | [], st, h => ⟨st, rfl, h⟩
  | x :: xs, st, h => by
    obtain ⟨st1, st2, h1, h2, h3⟩ := step x xs st h
    obtain ⟨st', h4, h5⟩ := loop_rel Inv step xs st2 h3
    refine ⟨st', ?_, h5⟩
    unfold loop
    rw [h1]
    rcases h2 with h2 | h2
    · simp only [h2, h4]
    · simp only [h2, h4]
theorem loop_fold {α β : Type} {t : Rs → S → Option S} {body : S → Rz Fl} (enc : α → D) (mk : β → S) (stp : β → α → β) (I : β → Prop) (as : List α) (step : ∀ b a, a ∈ as → I b → I (stp b a) ∧ ∃ st1, t (.d (enc a)) (mk b) = some st1 ∧ (body st1 = .ok .nx (mk (stp b a)) ∨ body st1 = .ok .ct (mk (stp b a)))) (b : β) (h : I b) :
    loop t body (as.map enc) (mk b) = .ok .nx (mk (as.foldl stp b)) ∧ I (as.foldl stp b) := by
  induction as generalizing b with
  | nil => exact ⟨rfl, h⟩
  | cons a as ih =>
    obtain ⟨i, st1, h1, h2⟩ := step b a (List.mem_cons_self ..) h
    obtain ⟨h4, h5⟩ := ih (fun b a m i => step b a (List.mem_cons_of_mem _ m) i) (stp b a) i
    refine ⟨?_, h5⟩
    show loop t body (enc a :: as.map enc) (mk b) = _
    unfold loop
    rw [h1]
    rcases h2 with h2 | h2
    · simp only [h2, h4]; rfl
    · simp only [h2, h4]; rfl
theorem lc_rel {ks : List Nat} {t : Rs → S → Option S} {ft : S → Rz Bool} {fe : S → Rz Rs} (Inv : List D → List D → S → Prop)
    (step : ∀ x xs acc st, Inv (x :: xs) acc st → ∃ st1 st2, t (.d x) st = some st1 ∧ ((ft st1 = .ok false st2 ∧ Inv xs acc (wipeS ks st2)) ∨ (ft st1 = .ok true st2 ∧ acc.length < sizeLine ∧ ∃ y st3, fe st2 = .ok (.d y) st3 ∧ Inv xs (acc ++ [y]) (wipeS ks st3)))) :
    ∀ xs acc st, Inv xs acc st → ∃ acc' st', lcLoop ks t ft fe xs acc st = .ok acc' st' ∧ Inv [] acc' st'
  | [], acc, st, h => ⟨acc, st, rfl, h⟩
  | x :: xs, acc, st, h => by
    obtain ⟨st1, st2, h1, h2⟩ := step x xs acc st h
    rcases h2 with ⟨h2, h3⟩ | ⟨h2, hl, y, st3, h3, h4⟩
    · obtain ⟨acc', st', h4, h5⟩ := lc_rel Inv step xs acc _ h3
      refine ⟨acc', st', ?_, h5⟩
      unfold lcLoop
      rw [h1]
      simp only [h2, h4]
    · obtain ⟨acc', st', h5, h6⟩ := lc_rel Inv step xs (acc ++ [y]) _ h4
      refine ⟨acc', st', ?_, h6⟩
      unfold lcLoop
      rw [h1]
      simp only [h2, h3, hl, if_true, h5]
/-- a comprehension that leaves the state as it is -/
theorem lc_pure {α : Type} {ks : List Nat} {t : Rs → S → Option S} {ft : S → Rz Bool} {fe : S → Rz Rs} (enc : α → D) (st0 : S) (f : α → Option D) (as : List α)
    (h : ∀ a ∈ as, ∃ st1 st2, t (.d (enc a)) st0 = some st1 ∧ ((f a = none ∧ ft st1 = .ok false st2 ∧ wipeS ks st2 = st0) ∨ (ft st1 = .ok true st2 ∧ ∃ y st3, f a = some y ∧ fe st2 = .ok (.d y) st3 ∧ wipeS ks st3 = st0))) :
    ∀ acc : List D, acc.length + as.length ≤ sizeLine → lcLoop ks t ft fe (as.map enc) acc st0 = .ok (acc ++ as.filterMap f) st0 := by
  induction as with
  | nil => intro acc _; show Rz.ok acc st0 = _; simp
  | cons a as ih =>
    intro acc hl
    obtain ⟨st1, st2, h1, h2⟩ := h a (List.mem_cons_self ..)
    have ih' := ih fun a m => h a (List.mem_cons_of_mem _ m)
    have hl' : acc.length < sizeLine := by simp at hl; omega
    show lcLoop ks t ft fe (enc a :: as.map enc) acc st0 = _
    unfold lcLoop
    rw [h1]
    rcases h2 with ⟨e, h2, h3⟩ | ⟨h2, y, st3, e, h3, h4⟩
    · simp only [h2, h3]
      rw [ih' acc (by simp at hl; omega), List.filterMap_cons, e]
    · simp only [h2, h3, hl', if_true, h4]
      rw [ih' (acc ++ [y]) (by simp at hl ⊢; omega), List.filterMap_cons, e]
      simp
theorem loop_st {α β : Type} {t : Rs → S → Option S} {body : S → Rz Fl} (enc : α → D) (stp : β → α → β) (Rel : Nat → β → S → Prop) : ∀ (as : List α) (k : Nat)
    (step : ∀ i b a st, as[i]? = some a → Rel (k + i) b st → ∃ st1 st2, t (.d (enc a)) st = some st1 ∧ (body st1 = .ok .nx st2 ∨ body st1 = .ok .ct st2) ∧ Rel (k + i + 1) (stp b a) st2) (b : β) (st : S), Rel k b st → ∃ st', loop t body (as.map enc) st = .ok .nx st' ∧ Rel (k + as.length) (as.foldl stp b) st'
  | [], k, _, b, st, h => ⟨st, rfl, h⟩
  | a :: as, k, step, b, st, h => by
    obtain ⟨st1, st2, h1, h2, h3⟩ := step 0 b a st rfl h
    obtain ⟨st', h4, h5⟩ := loop_st enc stp Rel as (k + 1) (fun i b a st e r => by
      have e2 : k + 1 + i = k + (i + 1) := by omega
      rw [e2] at r ⊢
      exact step (i + 1) b a st (by simpa using e) r) (stp b a) st2 h3
    refine ⟨st', ?_, by
      have e2 : k + (a :: as).length = k + 1 + as.length := by simp; omega
      rw [e2]; exact h5⟩
    show loop t body (enc a :: as.map enc) st = _
    unfold loop
    rw [h1]
    rcases h2 with h2 | h2
    · simp only [h2, h4]
    · simp only [h2, h4]
abbrev Hea := List (Int × Int)
abbrev hD (h : Hea) : D := .tuple (h.map encP)
def sumC (h : Hea) : Int := (h.map (·.2)).sum
theorem eqvI (a b : Int) : PyData.eqv (.int a) (.int b) = decide (a = b) := by rw [Bool.eq_iff_iff]; simp [PyData.eqv]
theorem eqvS (a b : Str) : PyData.eqv (.str a) (.str b) = decide (a = b) := by rw [Bool.eq_iff_iff]; simp [PyData.eqv]
theorem depI (a : Int) : (PyData.int a).depth = 0 := by simp [PyData.depth]
theorem depS (a : Str) : (PyData.str a).depth = 0 := by simp [PyData.depth]
theorem depB (a : Bool) : (PyData.bool a).depth = 0 := by simp [PyData.depth]
theorem depN : (PyData.none).depth = 0 := by simp [PyData.depth]
theorem s_tp : ¬ (Str.ofString "take" = Str.ofString "put") := by decide +kernel
theorem s_tm : ¬ (Str.ofString "take" = Str.ofString "times") := by decide +kernel
theorem s_pt : ¬ (Str.ofString "put" = Str.ofString "take") := by decide +kernel
theorem s_pm : ¬ (Str.ofString "put" = Str.ofString "times") := by decide +kernel
theorem s_mp : ¬ (Str.ofString "times" = Str.ofString "put") := by decide +kernel
theorem s_mt : ¬ (Str.ofString "times" = Str.ofString "take") := by decide +kernel
theorem lc_ok {ks : List Nat} {t : Rs → S → Option S} {ft : S → Rz Bool} {fe : S → Rz Rs} {fi : S → Rz (List D)} {st st1 st2 : S} {xs acc : List D} (hi : fi st = .ok xs st1) (hd : ks.all (dataOnly st1.δ) = true) (hl : lcLoop ks t ft fe xs [] (wipeS ks st1) = .ok acc st2) :
    fLc ks t ft fe fi st = .ok (.own (.lst acc)) (restS ks st1 st2) := by
  unfold fLc
  rw [hi]
  simp only [Rz.bind, hd, if_true, hl]
theorem for_ok {t : Rs → S → Option S} {fi : S → Rz (List D)} {body : S → Rz Fl} {st st1 st2 : S} {xs : List D} {fl : Fl} (hi : fi st = .ok xs st1) (hl : loop t body xs st1 = .ok fl st2) : fFor t fi body st = .ok fl st2 := by
  unfold fFor
  rw [hi]
  exact hl
theorem filterMap_some {α β : Type} (f : α → β) (l : List α) : l.filterMap (fun a => some (f a)) = l.map f := by
  induction l with
  | nil => rfl
  | cons a l ih => simp [ih]
/-! ### size_of -/
theorem size_of_ev (h : Hea) (hl : h.length ≤ 16777216) : F_size_of [.d (hD h)] = .ret (.d (.int (sumC h))) [.d (hD h)] := by
  have e := lc_pure (ks := [1, 2]) (t := gT 2 (gsName 1 (gsName 2 gsNil))) (ft := fTrue) (fe := e_size_of_0) encP ⟨[some (.d (hD h)), none, none], [none]⟩ (fun z => some (.int z.2)) h
    (fun z _ => ⟨⟨[some (.d (hD h)), some (.d (.int z.1)), some (.d (.int z.2))], [none]⟩, _, rfl, .inr ⟨rfl, _, _, rfl, rfl, rfl⟩⟩) [] (by rw [sizeLine_eq]; simpa using hl)
  have e1 := lc_ok (fi := fSeqI (fVar 0)) (st := ⟨[some (.d (hD h)), none, none], [none]⟩) rfl rfl e
  have e2 : ints? (h.map fun z => .int z.2) = some (h.map (·.2)) := by
    have : h.map (fun z => PyData.int z.2) = (h.map (·.2)).map .int := by simp
    rw [this, ints?_map]
  simp [F_size_of, c_size_of, fSeq, fAsg, fCall, fCons, fNil, fVar, fAug, fExpr, fExtend, fBin, fC, fIf, fIfS, fRet, fRetN, fNext, fTest, fAnd, fOr, fNot, fAndV, fOrV, fNotV, fOfT, fChain, fNeg, fPar, fParT, fMut, fSetIx, fDPut, fDGet, fDGet2, fDAug, fDNew, fCallF, fSl, fPart, fNoPart, gSl, gN, gT, gL, gsName, gsNil, gsCons, isVar, Rz.bind, gOrC, gMin2, gMax2, gLen, gLenS, gLenD, gInt, gAbs, gTuple, gList, gDict, gOr, gI, gAddT, gAddL, gAddS, gRepL, gEqN, gInN, gIsN, nonB, S.toD, gIx, gIxS, S.seq, S.lst, S.der, S.mlst, S.get, S.put, S.res, S.tgt, mkArgs, mkArg, apartB, owEq, back, gAppend, gPop, gPopAt, tyM, gLst, gTup, allD, fExtend.isSelf, Option.or, sizeLine_eq, encP, isiR, isiD, isL, fIsi, fSortIt, noX, mkF, bodyF, start0, slots0, slot0, ioM, ioOk, finA, eqvI, eqvS, depI, depS, depB, depN, mGetK, mPutK, keyK, isDK, s_tp, s_tm, s_pt, s_pm, s_mp, s_mt, fRev, fSortSet, fCount, fFrz, fSortTup, fIndex, isT, gIdx, gCount, gRemove, gRepT, e1, gSum, filterMap_some, e2, sumC, restS, restD]
/-! ### parted -/
def ptd1 (b : Hea × Hea × Int) (z : Int × Int) : Hea × Hea × Int :=
  (if 0 < min z.2 b.2.2 then b.1 ++ [(z.1, min z.2 b.2.2)] else b.1, if min z.2 b.2.2 < z.2 then b.2.1 ++ [(z.1, z.2 - min z.2 b.2.2)] else b.2.1, b.2.2 - min z.2 b.2.2)
def ptd (h : Hea) (m : Int) : Hea × Hea × Int := h.foldl ptd1 ([], [], m)
theorem parted_step (h : D) (i : Nat) (b : Hea × Hea × Int) (z : Int × Int) (v4 v5 v6 : Option R) (hi : i ≤ 5000000) (b1 : b.1.length ≤ i) (b2 : b.2.1.length ≤ i) :
    l_parted_0 ⟨[some (.d h), some (.d (.int b.2.2)), some (.own (.lst (b.1.map encP))), some (.own (.lst (b.2.1.map encP))), some (.d (.int z.1)), some (.d (.int z.2)), v6], [none, none]⟩ =
    .ok .nx ⟨[some (.d h), some (.d (.int (ptd1 b z).2.2)), some (.own (.lst ((ptd1 b z).1.map encP))), some (.own (.lst ((ptd1 b z).2.1.map encP))), some (.d (.int z.1)), some (.d (.int z.2)), some (.d (.int (min z.2 b.2.2)))], [none, none]⟩ := by
  obtain ⟨o, r, m⟩ := b
  obtain ⟨n, c⟩ := z
  simp only at b1 b2
  have h3 : o.length ≤ 16777216 := by omega
  have h4 : r.length ≤ 16777216 := by omega
  have h3' : o.length + 1 ≤ 16777216 := by omega
  have h4' : r.length + 1 ≤ 16777216 := by omega
  have em : (if m < c then m else c) = min c m := by omega
  by_cases h1 : 0 < min c m <;> by_cases h2 : min c m < c <;> simp [l_parted_0, fSeq, fAsg, fCall, fCons, fNil, fVar, fAug, fExpr, fExtend, fBin, fC, fIf, fIfS, fRet, fRetN, fNext, fTest, fAnd, fOr, fNot, fAndV, fOrV, fNotV, fOfT, fChain, fNeg, fPar, fParT, fMut, fSetIx, fDPut, fDGet, fDGet2, fDAug, fDNew, fCallF, fSl, fPart, fNoPart, gSl, gN, gT, gL, gsName, gsNil, gsCons, isVar, Rz.bind, gOrC, gMin2, gMax2, gLen, gLenS, gLenD, gInt, gAbs, gTuple, gList, gDict, gOr, gI, gAddT, gAddL, gAddS, gRepL, gEqN, gInN, gIsN, nonB, S.toD, gIx, gIxS, S.seq, S.lst, S.der, S.mlst, S.get, S.put, S.res, S.tgt, mkArgs, mkArg, apartB, owEq, back, gAppend, gPop, gPopAt, tyM, gLst, gTup, allD, fExtend.isSelf, Option.or, sizeLine_eq, encP, isiR, isiD, isL, fIsi, fSortIt, noX, mkF, bodyF, start0, slots0, slot0, ioM, ioOk, finA, eqvI, eqvS, depI, depS, depB, depN, mGetK, mPutK, keyK, isDK, s_tp, s_tm, s_pt, s_pm, s_mp, s_mt, fRev, fSortSet, fCount, fFrz, fSortTup, fIndex, isT, gIdx, gCount, gRemove, gRepT, em, h1, h2, h3, h4, h3', h4', ptd1]
theorem parted_ev (h : Hea) (m : Int) (hl : h.length ≤ 5000000) : F_parted [.d (hD h), .d (.int m)] = .ret (.d (.tuple [hD (ptd h m).1, hD (ptd h m).2.1, .int (ptd h m).2.2])) [.d (hD h), .d (.int m)] := by
  obtain ⟨st', key, v4, v5, v6, rfl, b1, b2⟩ := loop_st (t := gT 2 (gsName 4 (gsName 5 gsNil))) (body := l_parted_0)
    encP ptd1 (fun i b st => ∃ v4 v5 v6, st = ⟨[some (.d (hD h)), some (.d (.int b.2.2)), some (.own (.lst (b.1.map encP))), some (.own (.lst (b.2.1.map encP))), v4, v5, v6], [none, none]⟩ ∧ b.1.length ≤ i ∧ b.2.1.length ≤ i) h 0
    (fun i b z st e r => by
      obtain ⟨v4, v5, v6, rfl, b1, b2⟩ := r
      have hi := (List.getElem?_eq_some_iff.mp e).1
      refine ⟨_, _, rfl, .inl (parted_step (hD h) (0 + i) b z v4 v5 v6 (by omega) b1 b2), _, _, _, rfl, ?_, ?_⟩
      · simp only [ptd1]; split <;> simp <;> omega
      · simp only [ptd1]; split <;> simp <;> omega) ([], [], m) ⟨[some (.d (hD h)), some (.d (.int m)), some (.own (.lst [])), some (.own (.lst [])), none, none, none], [none, none]⟩ ⟨none, none, none, rfl, Nat.le_refl _, Nat.le_refl _⟩
  have e1 := for_ok (fi := fSeqI (fVar 0)) (st := ⟨[some (.d (hD h)), some (.d (.int m)), some (.own (.lst [])), some (.own (.lst [])), none, none, none], [none, none]⟩) rfl key
  simp [F_parted, c_parted, fSeq, fAsg, fCall, fCons, fNil, fVar, fAug, fExpr, fExtend, fBin, fC, fIf, fIfS, fRet, fRetN, fNext, fTest, fAnd, fOr, fNot, fAndV, fOrV, fNotV, fOfT, fChain, fNeg, fPar, fParT, fMut, fSetIx, fDPut, fDGet, fDGet2, fDAug, fDNew, fCallF, fSl, fPart, fNoPart, gSl, gN, gT, gL, gsName, gsNil, gsCons, isVar, Rz.bind, gOrC, gMin2, gMax2, gLen, gLenS, gLenD, gInt, gAbs, gTuple, gList, gDict, gOr, gI, gAddT, gAddL, gAddS, gRepL, gEqN, gInN, gIsN, nonB, S.toD, gIx, gIxS, S.seq, S.lst, S.der, S.mlst, S.get, S.put, S.res, S.tgt, mkArgs, mkArg, apartB, owEq, back, gAppend, gPop, gPopAt, tyM, gLst, gTup, allD, fExtend.isSelf, Option.or, sizeLine_eq, encP, isiR, isiD, isL, fIsi, fSortIt, noX, mkF, bodyF, start0, slots0, slot0, ioM, ioOk, finA, eqvI, eqvS, depI, depS, depB, depN, mGetK, mPutK, keyK, isDK, s_tp, s_tm, s_pt, s_pm, s_mp, s_mt, fRev, fSortSet, fCount, fFrz, fSortTup, fIndex, isT, gIdx, gCount, gRemove, gRepT, e1]
  exact ⟨rfl, rfl, rfl⟩
/-! ### both -/
abbrev kvI (z : Int × Int) : Key × D := (Sum.inl z.1, .int z.2)
def putI (l : Hea) (k v : Int) : Hea := if (l.any fun z => decide (z.1 = k)) = true then l.map (fun z => if z.1 = k then (z.1, v) else z) else l ++ [(k, v)]
def getI (l : Hea) (k : Int) : Option Int := (l.find? fun z => decide (z.1 = k)).map (·.2)
theorem valA_I (l : Hea) (k : Int) : valA (l.map kvI) (Sum.inl k : Key) = (getI l k).map .int := by
  unfold valA getI
  induction l with
  | nil => rfl
  | cons z l ih =>
    simp only [List.map_cons, List.find?_cons]
    by_cases h : z.1 = k
    · simp [h]
    · have : ¬ (Sum.inl z.1 : Key) = Sum.inl k := fun e => h (Sum.inl.inj e)
      simp only [this, h, decide_false]
      exact ih
theorem putA_I (l : Hea) (k v : Int) : putA (l.map kvI) (Sum.inl k : Key) (.int v) = (putI l k v).map kvI := by
  unfold putA putI
  have h1 : ((l.map kvI).any fun kv => decide (kv.1 = (Sum.inl k : Key))) = (l.any fun z => decide (z.1 = k)) := by
    rw [List.any_map]
    congr 1
    funext z
    simp [Function.comp]
  rw [h1]
  split
  · rw [List.map_map, List.map_map]
    apply List.map_congr_left
    intro z _
    by_cases h : z.1 = k
    · simp [h]
    · simp [h]
  · simp
def addI (l : Hea) (z : Int × Int) : Hea := putI l z.1 ((getI l z.1).getD 0 + z.2)
def mrgI (l : Hea) : Hea := l.foldl (fun a z => putI a z.1 z.2) []
theorem mergeA_I (a l : Hea) : mergeA (a.map kvI) (l.map kvI) = (l.foldl (fun a z => putI a z.1 z.2) a).map kvI := by
  unfold mergeA
  induction l generalizing a with
  | nil => rfl
  | cons z l ih =>
    simp only [List.map_cons, List.foldl_cons]
    rw [putA_I]
    exact ih _
theorem pairsOf_I (l : Hea) : pairsOf (l.map encP) = some (l.map kvI) := by
  induction l with
  | nil => rfl
  | cons z l ih => simp [pairsOf, encP, keyK, ih]
theorem intPairs_I (l : Hea) : intPairs (l.map kvI) = some l := by
  induction l with
  | nil => rfl
  | cons z l ih => simp [intPairs, ih]
theorem putI_len (l : Hea) (k v : Int) : (putI l k v).length ≤ l.length + 1 := by
  unfold putI; split <;> simp
theorem mrg_len (l a : Hea) : (l.foldl (fun a z => putI a z.1 z.2) a).length ≤ a.length + l.length := by
  induction l generalizing a with
  | nil => simp
  | cons z l ih => have := ih (putI a z.1 z.2); have := putI_len a z.1 z.2; simp only [List.foldl_cons, List.length_cons]; omega
def bothM (a b : Hea) : Hea := psort (b.foldl addI (mrgI a))
theorem both_step (a b : D) (l : Hea) (z : Int × Int) (hl : l.length < 16777216) :
    l_both_0 ⟨[some (.d a), some (.d b), some (.own (.dicK (l.map kvI))), some (.d (.int z.1)), some (.d (.int z.2))], [none, none]⟩ =
    .ok .nx ⟨[some (.d a), some (.d b), some (.own (.dicK ((addI l z).map kvI))), some (.d (.int z.1)), some (.d (.int z.2))], [none, none]⟩ := by
  obtain ⟨n, c⟩ := z
  cases h : getI l n with
  | none => simp [l_both_0, fSeq, fAsg, fCall, fCons, fNil, fVar, fAug, fExpr, fExtend, fBin, fC, fIf, fIfS, fRet, fRetN, fNext, fTest, fAnd, fOr, fNot, fAndV, fOrV, fNotV, fOfT, fChain, fNeg, fPar, fParT, fMut, fSetIx, fDPut, fDGet, fDGet2, fDAug, fDNew, fCallF, fSl, fPart, fNoPart, gSl, gN, gT, gL, gsName, gsNil, gsCons, isVar, Rz.bind, gOrC, gMin2, gMax2, gLen, gLenS, gLenD, gInt, gAbs, gTuple, gList, gDict, gOr, gI, gAddT, gAddL, gAddS, gRepL, gEqN, gInN, gIsN, nonB, S.toD, gIx, gIxS, S.seq, S.lst, S.der, S.mlst, S.get, S.put, S.res, S.tgt, mkArgs, mkArg, apartB, owEq, back, gAppend, gPop, gPopAt, tyM, gLst, gTup, allD, fExtend.isSelf, Option.or, sizeLine_eq, encP, isiR, isiD, isL, fIsi, fSortIt, noX, mkF, bodyF, start0, slots0, slot0, ioM, ioOk, finA, eqvI, eqvS, depI, depS, depB, depN, mGetK, mPutK, keyK, isDK, s_tp, s_tm, s_pt, s_pm, s_mp, s_mt, fRev, fSortSet, fCount, fFrz, fSortTup, fIndex, isT, gIdx, gCount, gRemove, gRepT, valA_I, putA_I, h, hl, addI]
  | some v => simp [l_both_0, fSeq, fAsg, fCall, fCons, fNil, fVar, fAug, fExpr, fExtend, fBin, fC, fIf, fIfS, fRet, fRetN, fNext, fTest, fAnd, fOr, fNot, fAndV, fOrV, fNotV, fOfT, fChain, fNeg, fPar, fParT, fMut, fSetIx, fDPut, fDGet, fDGet2, fDAug, fDNew, fCallF, fSl, fPart, fNoPart, gSl, gN, gT, gL, gsName, gsNil, gsCons, isVar, Rz.bind, gOrC, gMin2, gMax2, gLen, gLenS, gLenD, gInt, gAbs, gTuple, gList, gDict, gOr, gI, gAddT, gAddL, gAddS, gRepL, gEqN, gInN, gIsN, nonB, S.toD, gIx, gIxS, S.seq, S.lst, S.der, S.mlst, S.get, S.put, S.res, S.tgt, mkArgs, mkArg, apartB, owEq, back, gAppend, gPop, gPopAt, tyM, gLst, gTup, allD, fExtend.isSelf, Option.or, sizeLine_eq, encP, isiR, isiD, isL, fIsi, fSortIt, noX, mkF, bodyF, start0, slots0, slot0, ioM, ioOk, finA, eqvI, eqvS, depI, depS, depB, depN, mGetK, mPutK, keyK, isDK, s_tp, s_tm, s_pt, s_pm, s_mp, s_mt, fRev, fSortSet, fCount, fFrz, fSortTup, fIndex, isT, gIdx, gCount, gRemove, gRepT, valA_I, putA_I, h, hl, addI]
theorem both_ev (a b : Hea) (hl : a.length + b.length ≤ 10000000) : F_both [.d (hD a), .d (hD b)] = .ret (.d (hD (bothM a b))) [.d (hD a), .d (hD b)] := by
  have h0 := mrg_len a []
  obtain ⟨st', key, v3, v4, rfl, b1⟩ := loop_st (t := gT 2 (gsName 3 (gsName 4 gsNil))) (body := l_both_0)
    encP addI (fun i l st => ∃ v3 v4, st = ⟨[some (.d (hD a)), some (.d (hD b)), some (.own (.dicK (l.map kvI))), v3, v4], [none, none]⟩ ∧ l.length ≤ a.length + i) b 0
    (fun i l z st e r => by
      obtain ⟨v3, v4, rfl, b1⟩ := r
      have hi := (List.getElem?_eq_some_iff.mp e).1
      have := putI_len l z.1 ((getI l z.1).getD 0 + z.2)
      exact ⟨_, _, rfl, .inl (both_step (hD a) (hD b) l z (by omega)), _, _, rfl, by unfold addI; omega⟩) (mrgI a) ⟨[some (.d (hD a)), some (.d (hD b)), some (.own (.dicK ((mrgI a).map kvI))), none, none], [none, none]⟩ ⟨none, none, rfl, by unfold mrgI; simpa using h0⟩
  have e1 := for_ok (fi := fSeqI (fVar 1)) (st := ⟨[some (.d (hD a)), some (.d (hD b)), some (.own (.dicK ((mrgI a).map kvI))), none, none], [none, none]⟩) rfl key
  have e2 : mergeA [] (a.map kvI) = (mrgI a).map kvI := mergeA_I [] a
  simp [F_both, c_both, fSeq, fAsg, fCall, fCons, fNil, fVar, fAug, fExpr, fExtend, fBin, fC, fIf, fIfS, fRet, fRetN, fNext, fTest, fAnd, fOr, fNot, fAndV, fOrV, fNotV, fOfT, fChain, fNeg, fPar, fParT, fMut, fSetIx, fDPut, fDGet, fDGet2, fDAug, fDNew, fCallF, fSl, fPart, fNoPart, gSl, gN, gT, gL, gsName, gsNil, gsCons, isVar, Rz.bind, gOrC, gMin2, gMax2, gLen, gLenS, gLenD, gInt, gAbs, gTuple, gList, gDict, gOr, gI, gAddT, gAddL, gAddS, gRepL, gEqN, gInN, gIsN, nonB, S.toD, gIx, gIxS, S.seq, S.lst, S.der, S.mlst, S.get, S.put, S.res, S.tgt, mkArgs, mkArg, apartB, owEq, back, gAppend, gPop, gPopAt, tyM, gLst, gTup, allD, fExtend.isSelf, Option.or, sizeLine_eq, encP, isiR, isiD, isL, fIsi, fSortIt, noX, mkF, bodyF, start0, slots0, slot0, ioM, ioOk, finA, eqvI, eqvS, depI, depS, depB, depN, mGetK, mPutK, keyK, isDK, s_tp, s_tm, s_pt, s_pm, s_mp, s_mt, fRev, fSortSet, fCount, fFrz, fSortTup, fIndex, isT, gIdx, gCount, gRemove, gRepT, e1, e2, pairsOf_I, intPairs_I]
  rfl
/-! ### heaps by bars -/
def B' (x : Int) (z : Int × Int) : Int := if z.1 ≤ x then z.2 else 0
def Bar (h : Hea) (x : Int) : Int := (h.map (B' x)).sum
theorem Bar_nil (x : Int) : Bar [] x = 0 := rfl
theorem Bar_cons (z : Int × Int) (h : Hea) (x : Int) : Bar (z :: h) x = (if z.1 ≤ x then z.2 else 0) + Bar h x := by simp [Bar, B']
theorem Bar_app (a b : Hea) (x : Int) : Bar (a ++ b) x = Bar a x + Bar b x := by simp [Bar]
theorem perm_sum {a b : List Int} (p : a.Perm b) : a.sum = b.sum := by
  induction p with
  | nil => rfl
  | cons x _ ih => simp [ih]
  | swap x y l => simp only [List.sum_cons]; omega
  | trans _ _ h1 h2 => exact h1.trans h2
theorem Bar_perm {a b : Hea} (p : a.Perm b) (x : Int) : Bar a x = Bar b x := by
  unfold Bar
  exact perm_sum (p.map _)
theorem sumC_perm {a b : Hea} (p : a.Perm b) : sumC a = sumC b := perm_sum (p.map _)
/-- keys rise, counts are there -/
structure Gd (h : Hea) : Prop where
  rise : h.Pairwise (fun a b => a.1 < b.1)
  pos : ∀ z ∈ h, 1 ≤ z.2
theorem Gd.nil : Gd [] := ⟨.nil, fun _ h => nomatch h⟩
theorem Gd.tail {z : Int × Int} {h : Hea} (g : Gd (z :: h)) : Gd h := ⟨(List.pairwise_cons.mp g.rise).2, fun y hy => g.pos y (List.mem_cons_of_mem _ hy)⟩
theorem Gd.head {z : Int × Int} {h : Hea} (g : Gd (z :: h)) : (∀ y ∈ h, z.1 < y.1) ∧ 1 ≤ z.2 := ⟨(List.pairwise_cons.mp g.rise).1, g.pos z (List.mem_cons_self ..)⟩
theorem Bar_nonneg {h : Hea} (g : Gd h) (x : Int) : 0 ≤ Bar h x := by
  induction h with
  | nil => simp [Bar]
  | cons z h ih =>
    rw [Bar_cons]
    have := ih g.tail
    have := g.head.2
    split <;> omega
theorem Bar_low {h : Hea} {x : Int} (l : ∀ y ∈ h, x < y.1) : Bar h x = 0 := by
  induction h with
  | nil => rfl
  | cons z h ih =>
    rw [Bar_cons, ih fun y hy => l y (List.mem_cons_of_mem _ hy), if_neg (by have := l z (List.mem_cons_self ..); omega)]
    rfl
theorem Bar_high {h : Hea} {x : Int} (l : ∀ y ∈ h, y.1 ≤ x) : Bar h x = sumC h := by
  induction h with
  | nil => rfl
  | cons z h ih =>
    rw [Bar_cons, ih fun y hy => l y (List.mem_cons_of_mem _ hy), if_pos (l z (List.mem_cons_self ..))]
    simp [sumC]
theorem sumC_cons (z : Int × Int) (h : Hea) : sumC (z :: h) = z.2 + sumC h := by simp [sumC]
theorem Bar_le {h : Hea} (g : Gd h) (x : Int) : Bar h x ≤ sumC h := by
  induction h with
  | nil => simp [Bar, sumC]
  | cons z h ih =>
    rw [Bar_cons, sumC_cons]
    have := ih g.tail
    have := g.head.2
    split <;> omega
theorem Bar_mono {h : Hea} (g : Gd h) {x y : Int} (l : x ≤ y) : Bar h x ≤ Bar h y := by
  induction h with
  | nil => simp [Bar]
  | cons z h ih =>
    rw [Bar_cons, Bar_cons]
    have := ih g.tail
    have := g.head.2
    split <;> split <;> omega
theorem Gd.uniq : ∀ {a b : Hea}, Gd a → Gd b → (∀ x, Bar a x = Bar b x) → a = b
  | [], [], _, _, _ => rfl
  | [], z :: b, _, g, e => by
    have h1 := e z.1
    rw [Bar_nil, Bar_cons, if_pos (Int.le_refl _)] at h1
    have := Bar_nonneg g.tail z.1
    have := g.head.2
    omega
  | z :: a, [], g, _, e => by
    have h1 := e z.1
    rw [Bar_nil, Bar_cons, if_pos (Int.le_refl _)] at h1
    have := Bar_nonneg g.tail z.1
    have := g.head.2
    omega
  | z :: a, y :: b, g, k, e => by
    have hz : Bar a z.1 = 0 := Bar_low g.head.1
    have hy : Bar b y.1 = 0 := Bar_low k.head.1
    have p1 := g.head.2
    have p2 := k.head.2
    have e1 := e z.1
    have e2 := e y.1
    rw [Bar_cons, Bar_cons, hz] at e1
    rw [Bar_cons, Bar_cons, hy] at e2
    have n1 := Bar_nonneg k.tail z.1
    have n2 := Bar_nonneg g.tail y.1
    have h1 : z.1 = y.1 := by
      rcases Int.lt_trichotomy z.1 y.1 with h | h | h
      · rw [if_pos (Int.le_refl _), if_neg (by omega)] at e1
        have := Bar_low (h := b) (x := z.1) fun w hw => by have := k.head.1 w hw; omega
        omega
      · exact h
      · rw [if_neg (by omega), if_pos (Int.le_refl _)] at e2
        have := Bar_low (h := a) (x := y.1) fun w hw => by have := g.head.1 w hw; omega
        omega
    have h2 : z.2 = y.2 := by
      rw [if_pos (Int.le_refl _), if_pos (by omega)] at e1
      have : Bar b z.1 = 0 := by rw [h1]; exact hy
      omega
    have h3 : z = y := Prod.ext h1 h2
    subst h3
    rw [Gd.uniq g.tail k.tail fun x => by
      have := e x
      rw [Bar_cons, Bar_cons] at this
      omega]
/-! ### put into a dict -/
def Nd (l : Hea) : Prop := (l.map (·.1)).Nodup
theorem getI_none {l : Hea} {k : Int} (h : getI l k = none) : ∀ z ∈ l, z.1 ≠ k := by
  intro z hz e
  unfold getI at h
  rw [Option.map_eq_none_iff, List.find?_eq_none] at h
  exact h z hz (by simpa using e)
theorem putI_new {l : Hea} {k v : Int} (h : ∀ z ∈ l, z.1 ≠ k) : putI l k v = l ++ [(k, v)] := by
  unfold putI
  rw [if_neg]
  intro e
  obtain ⟨z, hz, e⟩ := List.any_eq_true.mp e
  exact h z hz (by simpa using e)
theorem putI_old : ∀ {l : Hea} {k v w : Int}, Nd l → getI l k = some w → (∀ x, Bar (putI l k v) x = Bar l x + (if k ≤ x then v - w else 0)) ∧ (putI l k v).map (·.1) = l.map (·.1) ∧ sumC (putI l k v) = sumC l + (v - w) ∧ (k, w) ∈ l
  | l, k, v, w, nd, h => by
    have hany : (l.any fun z => decide (z.1 = k)) = true := by
      unfold getI at h
      obtain ⟨z, h1, h2⟩ := Option.map_eq_some_iff.mp h
      exact List.any_eq_true.mpr ⟨z, List.mem_of_find?_eq_some h1, by simpa using List.find?_some h1⟩
    unfold putI
    rw [if_pos hany]
    clear hany
    induction l with
    | nil => cases h
    | cons z l ih =>
      have nd' : Nd l := (List.nodup_cons.mp nd).2
      have ni : z.1 ∉ l.map (·.1) := (List.nodup_cons.mp nd).1
      by_cases hk : z.1 = k
      · have hw : z.2 = w := by simpa [getI, hk] using h
        have hl : l.map (fun y => if y.1 = k then (y.1, v) else y) = l := by
          rw [List.map_congr_left (g := id) (fun y hy => ?_), List.map_id]
          have : y.1 ≠ k := fun e => ni (by rw [hk, ← e]; exact List.mem_map_of_mem hy)
          simp [this]
        refine ⟨fun x => ?_, ?_, ?_, ?_⟩
        · rw [List.map_cons, hl, Bar_cons, Bar_cons, if_pos hk, hk]
          simp only
          split <;> omega
        · rw [List.map_cons, hl, if_pos hk]; rfl
        · rw [List.map_cons, hl, sumC_cons, sumC_cons, if_pos hk]
          simp only
          omega
        · rw [← hk, ← hw]; exact List.mem_cons_self ..
      · have hg : getI l k = some w := by simpa [getI, List.find?_cons, hk] using h
        obtain ⟨i1, i2, i3, i4⟩ := ih nd' hg
        refine ⟨fun x => ?_, ?_, ?_, List.mem_cons_of_mem _ i4⟩
        · rw [List.map_cons, if_neg hk, Bar_cons, Bar_cons, i1]
          omega
        · rw [List.map_cons, if_neg hk, List.map_cons, i2]; rfl
        · rw [List.map_cons, if_neg hk, sumC_cons, sumC_cons, i3]; omega
theorem addI_spec {l : Hea} (nd : Nd l) (z : Int × Int) : Nd (addI l z) ∧ (∀ x, Bar (addI l z) x = Bar l x + B' x z) ∧ sumC (addI l z) = sumC l + z.2 ∧ (∀ y ∈ addI l z, y.1 ∈ l.map (·.1) ∨ y.1 = z.1) ∧ ((∀ y ∈ l, 1 ≤ y.2) → 1 ≤ z.2 → ∀ y ∈ addI l z, 1 ≤ y.2) := by
  unfold addI
  cases h : getI l z.1 with
  | none =>
    have hn := getI_none h
    rw [putI_new hn]
    simp only [Option.getD_none, Int.zero_add]
    refine ⟨?_, fun x => ?_, ?_, fun y hy => ?_, fun hp h1 y hy => ?_⟩
    · unfold Nd
      rw [List.map_append, List.nodup_append]
      refine ⟨nd, by simp, fun a ha b hb => ?_⟩
      obtain ⟨y, hy, rfl⟩ := List.mem_map.mp ha
      have hb' : b = z.1 := by simpa using hb
      rw [hb']
      exact hn y hy
    · rw [Bar_app, Bar_cons, Bar_nil, B', Int.add_zero]
    · simp [sumC]
    · rcases List.mem_append.mp hy with hy | hy
      · exact .inl (List.mem_map_of_mem hy)
      · have : y = (z.1, z.2) := by simpa using hy
        exact .inr (by rw [this])
    · rcases List.mem_append.mp hy with hy | hy
      · exact hp y hy
      · have : y = (z.1, z.2) := by simpa using hy
        rw [this]; exact h1
  | some w =>
    obtain ⟨h1, h2, h3, h4⟩ := putI_old (v := w + z.2) nd h
    simp only [Option.getD_some]
    refine ⟨by unfold Nd; rw [h2]; exact nd, fun x => ?_, by rw [h3]; omega, fun y hy => .inl (by rw [← h2]; exact List.mem_map_of_mem hy), fun hp h5 y hy => ?_⟩
    · rw [h1, B']
      split <;> omega
    · unfold putI at hy
      split at hy
      · obtain ⟨y', h6, rfl⟩ := List.mem_map.mp hy
        split
        · have := hp _ h4
          simp only
          omega
        · exact hp _ h6
      · rcases List.mem_append.mp hy with hy | hy
        · exact hp y hy
        · have e : y = (z.1, w + z.2) := by simpa using hy
          have := hp _ h4
          rw [e]
          simp only
          omega
theorem foldAdd_spec : ∀ (b : Hea) {l : Hea}, Nd l → Nd (b.foldl addI l) ∧ (∀ x, Bar (b.foldl addI l) x = Bar l x + Bar b x) ∧ sumC (b.foldl addI l) = sumC l + sumC b ∧ (∀ y ∈ b.foldl addI l, y.1 ∈ l.map (·.1) ∨ y.1 ∈ b.map (·.1)) ∧ ((∀ y ∈ l, 1 ≤ y.2) → (∀ y ∈ b, 1 ≤ y.2) → ∀ y ∈ b.foldl addI l, 1 ≤ y.2)
  | [], l, nd => ⟨nd, fun x => by simp [Bar], by simp [sumC], fun y hy => .inl (List.mem_map_of_mem hy), fun h _ => h⟩
  | z :: b, l, nd => by
    obtain ⟨a1, a2, a3, a4, a5⟩ := addI_spec nd z
    obtain ⟨b1, b2, b3, b4, b5⟩ := foldAdd_spec b a1
    refine ⟨b1, fun x => ?_, ?_, fun y hy => ?_, fun h1 h2 => b5 (a5 h1 (h2 z (List.mem_cons_self ..))) fun y hy => h2 y (List.mem_cons_of_mem _ hy)⟩
    · rw [List.foldl_cons, b2, a2, Bar_cons, B']; omega
    · rw [List.foldl_cons, b3, a3, sumC_cons]; omega
    · rcases b4 y hy with h | h
      · obtain ⟨y', h1, h2⟩ := List.mem_map.mp h
        rcases a4 y' h1 with h3 | h3
        · exact .inl (by rw [← h2]; exact h3)
        · exact .inr (by rw [← h2, h3]; exact List.mem_cons_self ..)
      · exact .inr (List.mem_cons_of_mem _ h)
theorem Gd.nd {h : Hea} (g : Gd h) : Nd h := by
  unfold Nd
  rw [List.Nodup, List.pairwise_map]
  exact g.rise.imp fun h => by omega
theorem mrg_spec : ∀ (a l : Hea), Nd (l ++ a) → a.foldl (fun a z => putI a z.1 z.2) l = l ++ a
  | [], l, _ => by simp
  | z :: a, l, nd => by
    rw [List.foldl_cons, putI_new fun y hy e => ?_]
    · rw [mrg_spec a (l ++ [(z.1, z.2)]) (by simpa using nd)]
      simp
    · unfold Nd at nd
      rw [List.map_append, List.nodup_append] at nd
      exact nd.2.2 y.1 (List.mem_map_of_mem hy) z.1 (List.mem_map_of_mem (List.mem_cons_self ..)) e
theorem mrgI_gd {a : Hea} (g : Gd a) : mrgI a = a := by
  unfold mrgI
  rw [mrg_spec a [] (by simpa using g.nd)]
  rfl
theorem psort_spec (l : Hea) : (psort l).Perm l ∧ (Nd l → (psort l).Pairwise (fun a b => a.1 < b.1)) := by
  have p : (psort l).Perm l := List.mergeSort_perm l _
  refine ⟨p, fun nd => ?_⟩
  have h : (psort l).Pairwise (fun a b => decide (a.1 < b.1 ∨ (a.1 = b.1 ∧ a.2 ≤ b.2)) = true) := by
    unfold psort
    rw [show PySem.W.dataLe false encP = fun p q => decide (p.1 < q.1 ∨ (p.1 = q.1 ∧ p.2 ≤ q.2)) from PySem.W.dataLe_ii (fun z : Int × Int => z.1) (fun z => z.2)]
    refine List.pairwise_mergeSort (fun a b c h1 h2 => ?_) (fun a b => ?_) l
    · simp only [decide_eq_true_eq] at *; omega
    · simp only [Bool.or_eq_true, decide_eq_true_eq]; omega
  have nd2 : ((psort l).map (·.1)).Nodup := (p.map _).nodup_iff.mpr nd
  rw [List.Nodup, List.pairwise_map] at nd2
  refine List.Pairwise.imp₂ (fun a b h1 h2 => ?_) h nd2
  have := of_decide_eq_true h1
  omega
theorem both_spec {a b : Hea} (ga : Gd a) (gb : Gd b) : Gd (bothM a b) ∧ (∀ x, Bar (bothM a b) x = Bar a x + Bar b x) ∧ sumC (bothM a b) = sumC a + sumC b ∧ ∀ y ∈ bothM a b, y.1 ∈ a.map (·.1) ∨ y.1 ∈ b.map (·.1) := by
  unfold bothM
  rw [mrgI_gd ga]
  obtain ⟨h1, h2, h3, h4, h5⟩ := foldAdd_spec b ga.nd
  obtain ⟨p, q⟩ := psort_spec (b.foldl addI a)
  exact ⟨⟨q h1, fun z hz => h5 ga.pos gb.pos z (p.mem_iff.mp hz)⟩, fun x => by rw [Bar_perm p, h2], by rw [sumC_perm p, h3], fun y hy => h4 y (p.mem_iff.mp hy)⟩
/-! ### parted -/
def ptR : Hea → Int → Hea × Hea × Int
  | [], m => ([], [], m)
  | z :: h, m => (if 0 < min z.2 m then (z.1, min z.2 m) :: (ptR h (m - min z.2 m)).1 else (ptR h (m - min z.2 m)).1,
    if min z.2 m < z.2 then (z.1, z.2 - min z.2 m) :: (ptR h (m - min z.2 m)).2.1 else (ptR h (m - min z.2 m)).2.1, (ptR h (m - min z.2 m)).2.2)
theorem ptR_cons (z : Int × Int) (h : Hea) (m : Int) : ptR (z :: h) m = (if 0 < min z.2 m then (z.1, min z.2 m) :: (ptR h (m - min z.2 m)).1 else (ptR h (m - min z.2 m)).1,
    if min z.2 m < z.2 then (z.1, z.2 - min z.2 m) :: (ptR h (m - min z.2 m)).2.1 else (ptR h (m - min z.2 m)).2.1, (ptR h (m - min z.2 m)).2.2) := rfl
theorem ptd_eq : ∀ (h : Hea) (o r : Hea) (m : Int), h.foldl ptd1 (o, r, m) = (o ++ (ptR h m).1, r ++ (ptR h m).2.1, (ptR h m).2.2)
  | [], o, r, m => by simp [ptR]
  | z :: h, o, r, m => by
    rw [List.foldl_cons]
    show h.foldl ptd1 (if 0 < min z.2 m then o ++ [(z.1, min z.2 m)] else o, if min z.2 m < z.2 then r ++ [(z.1, z.2 - min z.2 m)] else r, m - min z.2 m) = _
    rw [ptd_eq h, ptR_cons]
    refine Prod.ext ?_ (Prod.ext ?_ rfl)
    · show (if 0 < min z.2 m then o ++ [(z.1, min z.2 m)] else o) ++ _ = o ++ (if 0 < min z.2 m then _ else _)
      split <;> simp
    · show (if min z.2 m < z.2 then r ++ [(z.1, z.2 - min z.2 m)] else r) ++ _ = r ++ (if min z.2 m < z.2 then _ else _)
      split <;> simp
theorem ptd_R (h : Hea) (m : Int) : ptd h m = ptR h m := by
  unfold ptd
  rw [ptd_eq]
  simp
theorem ptR_spec : ∀ {h : Hea} (m : Int), Gd h → 0 ≤ m → Gd (ptR h m).1 ∧ Gd (ptR h m).2.1 ∧ (∀ y ∈ (ptR h m).1, y.1 ∈ h.map (·.1)) ∧ (∀ y ∈ (ptR h m).2.1, y.1 ∈ h.map (·.1)) ∧
    (∀ x, Bar (ptR h m).1 x = min (Bar h x) m) ∧ (∀ x, Bar (ptR h m).2.1 x = Bar h x - min (Bar h x) m) ∧ (ptR h m).2.2 = m - min (sumC h) m
  | [], m, g, hm => by
    refine ⟨.nil, .nil, fun _ h => (nomatch h), fun _ h => (nomatch h), fun x => ?_, fun x => ?_, ?_⟩ <;> simp [ptR, Bar, sumC] <;> omega
  | z :: h, m, g, hm => by
    have hz := g.head.2
    obtain ⟨g1, g2, m1, m2, b1, b2, b3⟩ := ptR_spec (h := h) (m - min z.2 m) g.tail (by omega)
    have low : ∀ y ∈ h, z.1 < y.1 := g.head.1
    have lo : ∀ {l : Hea}, (∀ y ∈ l, y.1 ∈ h.map (·.1)) → ∀ y ∈ l, z.1 < y.1 := fun hl y hy => by
      obtain ⟨w, hw, e⟩ := List.mem_map.mp (hl y hy)
      have := low w hw
      omega
    have up : ∀ {l : Hea}, (∀ y ∈ l, y.1 ∈ h.map (·.1)) → ∀ y ∈ l, y.1 ∈ (z :: h).map (·.1) := fun hl y hy => List.mem_cons_of_mem _ (hl y hy)
    rw [ptR_cons]
    dsimp only
    refine ⟨?_, ?_, ?_, ?_, fun x => ?_, fun x => ?_, ?_⟩
    · split
      · rename_i hc
        exact ⟨List.pairwise_cons.mpr ⟨lo m1, g1.rise⟩, fun y hy => by
          rcases List.mem_cons.mp hy with rfl | hy
          · exact hc
          · exact g1.pos y hy⟩
      · exact g1
    · split
      · rename_i hc
        exact ⟨List.pairwise_cons.mpr ⟨lo m2, g2.rise⟩, fun y hy => by
          rcases List.mem_cons.mp hy with rfl | hy
          · show 1 ≤ z.2 - min z.2 m
            omega
          · exact g2.pos y hy⟩
      · exact g2
    · split
      · exact fun y hy => by
          rcases List.mem_cons.mp hy with rfl | hy
          · exact List.mem_cons_self ..
          · exact up m1 y hy
      · exact up m1
    · split
      · exact fun y hy => by
          rcases List.mem_cons.mp hy with rfl | hy
          · exact List.mem_cons_self ..
          · exact up m2 y hy
      · exact up m2
    · have e : Bar (if 0 < min z.2 m then (z.1, min z.2 m) :: (ptR h (m - min z.2 m)).1 else (ptR h (m - min z.2 m)).1) x = (if z.1 ≤ x then min z.2 m else 0) + Bar (ptR h (m - min z.2 m)).1 x := by
        split
        · rw [Bar_cons]
        · have : min z.2 m = 0 := by omega
          rw [this]; simp
      rw [e, b1, Bar_cons]
      by_cases hx : z.1 ≤ x
      · rw [if_pos hx, if_pos hx]
        have := Bar_nonneg g.tail x
        omega
      · rw [if_neg hx, if_neg hx, Bar_low fun y hy => by have := low y hy; omega]
        omega
    · have e : Bar (if min z.2 m < z.2 then (z.1, z.2 - min z.2 m) :: (ptR h (m - min z.2 m)).2.1 else (ptR h (m - min z.2 m)).2.1) x = (if z.1 ≤ x then z.2 - min z.2 m else 0) + Bar (ptR h (m - min z.2 m)).2.1 x := by
        split
        · rw [Bar_cons]
        · have : z.2 - min z.2 m = 0 := by omega
          rw [this]; simp
      rw [e, b2, Bar_cons]
      by_cases hx : z.1 ≤ x
      · rw [if_pos hx, if_pos hx]
        have := Bar_nonneg g.tail x
        omega
      · rw [if_neg hx, if_neg hx, Bar_low fun y hy => by have := low y hy; omega]
        omega
    · rw [b3, sumC_cons]
      have : 0 ≤ sumC h := by
        have h1 := Bar_nonneg g.tail z.1
        have h2 := Bar_le g.tail z.1
        omega
      omega
/-! ### threes -/
abbrev Thr := Hea × Hea × Int
abbrev tD (t : Thr) : D := .tuple [hD t.1, hD t.2.1, .int t.2.2]
/-- good, with numbers of U -/
structure GdT (U : List Int) (t : Thr) : Prop where
  l : Gd t.1
  o : Gd t.2.1
  lU : ∀ y ∈ t.1, y.1 ∈ U
  oU : ∀ y ∈ t.2.1, y.1 ∈ U
  i : 0 ≤ t.2.2
def lack (t : Thr) (x : Int) : Int := t.2.2 + sumC t.2.1 - Bar t.2.1 x
def bhd (x y : Thr) : Thr := (bothM (ptd (bothM (ptd x.1 y.2.2).2.1 y.2.1) (sumC y.2.1)).2.1 y.1, bothM (bothM x.2.1 (ptd x.1 y.2.2).1) (ptd (bothM (ptd x.1 y.2.2).2.1 y.2.1) (sumC y.2.1)).1, x.2.2 + (ptd x.1 y.2.2).2.2)
theorem sumC_nonneg {h : Hea} (g : Gd h) : 0 ≤ sumC h := by
  have h1 := Bar_nonneg g 0
  have h2 := Bar_le g 0
  omega
theorem bhd_spec {U : List Int} {x y : Thr} (gx : GdT U x) (gy : GdT U y) : GdT U (bhd x y) ∧ (∀ n, Bar (bhd x y).1 n = max (Bar x.1 n - lack y n) 0 + Bar y.1 n) ∧ (∀ n, lack (bhd x y) n = lack x n + max (lack y n - Bar x.1 n) 0) := by
  obtain ⟨p1, p2, p3, p4, p5, p6, p7⟩ := ptR_spec (h := x.1) y.2.2 gx.l gy.i
  obtain ⟨q1, q2, q3, q4⟩ := both_spec p2 gy.o
  have s0 := sumC_nonneg gy.o
  obtain ⟨r1, r2, r3, r4, r5, r6, r7⟩ := ptR_spec (h := bothM (ptR x.1 y.2.2).2.1 y.2.1) (sumC y.2.1) q1 s0
  obtain ⟨l1, l2, l3, l4⟩ := both_spec r2 gy.l
  obtain ⟨o1, o2, o3, o4⟩ := both_spec gx.o p1
  obtain ⟨u1, u2, u3, u4⟩ := both_spec o1 r1
  have sx := sumC_nonneg gx.l
  -- sums behind the last bar
  have sumBig : ∀ {h : Hea}, Gd h → ∃ N, ∀ n, N ≤ n → Bar h n = sumC h := fun {h} g => by
    clear r1 r2 r3 r4 r5 r6 r7 l1 l2 l3 l4 o1 o2 o3 o4 u1 u2 u3 u4 q1 q2 q3 q4 p1 p2 p3 p4 p5 p6 p7
    induction h with
    | nil => exact ⟨0, fun _ _ => rfl⟩
    | cons z h ih =>
      obtain ⟨N, hN⟩ := ih g.tail
      exact ⟨max N z.1, fun n hn => by rw [Bar_cons, sumC_cons, hN n (by omega), if_pos (by omega)]⟩
  have e1 : sumC (ptR x.1 y.2.2).1 = min (sumC x.1) y.2.2 := by
    obtain ⟨N, hN⟩ := sumBig p1
    obtain ⟨M, hM⟩ := sumBig gx.l
    have a := hN (max N M) (by omega)
    have b := hM (max N M) (by omega)
    rw [← a, p5, b]
  have e2 : sumC (ptR x.1 y.2.2).2.1 = sumC x.1 - min (sumC x.1) y.2.2 := by
    obtain ⟨N, hN⟩ := sumBig p2
    obtain ⟨M, hM⟩ := sumBig gx.l
    have a := hN (max N M) (by omega)
    have b := hM (max N M) (by omega)
    rw [← a, p6, b]
  have e3 : sumC (ptR (bothM (ptR x.1 y.2.2).2.1 y.2.1) (sumC y.2.1)).1 = sumC y.2.1 := by
    obtain ⟨N, hN⟩ := sumBig r1
    obtain ⟨M, hM⟩ := sumBig q1
    have a := hN (max N M) (by omega)
    have b := hM (max N M) (by omega)
    rw [← a, r5, b, q3, e2]
    omega
  have eb : bhd x y = (bothM (ptR (bothM (ptR x.1 y.2.2).2.1 y.2.1) (sumC y.2.1)).2.1 y.1, bothM (bothM x.2.1 (ptR x.1 y.2.2).1) (ptR (bothM (ptR x.1 y.2.2).2.1 y.2.1) (sumC y.2.1)).1, x.2.2 + (ptR x.1 y.2.2).2.2) := by
    unfold bhd
    simp only [ptd_R]
  have memU : ∀ {h : Hea} {k : Int}, (∀ y ∈ h, y.1 ∈ U) → k ∈ h.map (·.1) → k ∈ U := fun hh hk => by
    obtain ⟨w, hw, rfl⟩ := List.mem_map.mp hk
    exact hh w hw
  rw [eb]
  have p3' : ∀ w ∈ (ptR x.1 y.2.2).1, w.1 ∈ U := fun z hz => memU gx.lU (p3 z hz)
  have p4' : ∀ w ∈ (ptR x.1 y.2.2).2.1, w.1 ∈ U := fun z hz => memU gx.lU (p4 z hz)
  have q4' : ∀ z ∈ bothM (ptR x.1 y.2.2).2.1 y.2.1, z.1 ∈ U := fun z hz => (q4 z hz).elim (memU p4') (memU gy.oU)
  have r3' : ∀ z ∈ (ptR (bothM (ptR x.1 y.2.2).2.1 y.2.1) (sumC y.2.1)).1, z.1 ∈ U := fun z hz => memU q4' (r3 z hz)
  have r4' : ∀ z ∈ (ptR (bothM (ptR x.1 y.2.2).2.1 y.2.1) (sumC y.2.1)).2.1, z.1 ∈ U := fun z hz => memU q4' (r4 z hz)
  have o4' : ∀ z ∈ bothM x.2.1 (ptR x.1 y.2.2).1, z.1 ∈ U := fun z hz => (o4 z hz).elim (memU gx.oU) (memU p3')
  refine ⟨⟨l1, u1, fun z hz => (l4 z hz).elim (memU r4') (memU gy.lU), fun z hz => (u4 z hz).elim (memU o4') (memU r3'), ?_⟩, fun n => ?_, fun n => ?_⟩
  · show 0 ≤ x.2.2 + (ptR x.1 y.2.2).2.2
    have := gx.i
    have := gy.i
    rw [p7]; omega
  · show Bar (bothM (ptR (bothM (ptR x.1 y.2.2).2.1 y.2.1) (sumC y.2.1)).2.1 y.1) n = _
    rw [l2, r6, q2, p6]
    unfold lack
    have := Bar_le gy.o n
    have := Bar_nonneg gx.l n
    have := gy.i
    omega
  · show x.2.2 + (ptR x.1 y.2.2).2.2 + sumC (bothM (bothM x.2.1 (ptR x.1 y.2.2).1) (ptR (bothM (ptR x.1 y.2.2).2.1 y.2.1) (sumC y.2.1)).1) - Bar (bothM (bothM x.2.1 (ptR x.1 y.2.2).1) (ptR (bothM (ptR x.1 y.2.2).2.1 y.2.1) (sumC y.2.1)).1) n = _
    rw [u2, u3, o2, o3, p5, r5, q2, p6, e1, e3, p7]
    unfold lack
    have := Bar_le gy.o n
    have := Bar_nonneg gx.l n
    have := Bar_le gx.l n
    have := gy.i
    omega
/-- a three is told by its bars -/
theorem thr_uniq {U : List Int} {x y : Thr} (gx : GdT U x) (gy : GdT U y) (h1 : ∀ n, Bar x.1 n = Bar y.1 n) (h2 : ∀ n, lack x n = lack y n) : x = y := by
  have sumBig : ∀ {h : Hea}, ∃ N, ∀ n, N ≤ n → Bar h n = sumC h := fun {h} => by
    induction h with
    | nil => exact ⟨0, fun _ _ => rfl⟩
    | cons z h ih =>
      obtain ⟨N, hN⟩ := ih
      exact ⟨max N z.1, fun n hn => by rw [Bar_cons, sumC_cons, hN n (by omega), if_pos (by omega)]⟩
  have sumLow : ∀ {h : Hea}, ∃ N, ∀ n, n ≤ N → Bar h n = 0 := fun {h} => by
    induction h with
    | nil => exact ⟨0, fun _ _ => rfl⟩
    | cons z h ih =>
      obtain ⟨N, hN⟩ := ih
      exact ⟨min N (z.1 - 1), fun n hn => by rw [Bar_cons, hN n (by omega), if_neg (by omega)]; rfl⟩
  obtain ⟨N, hN⟩ := sumBig (h := x.2.1)
  obtain ⟨M, hM⟩ := sumBig (h := y.2.1)
  have a := h2 (max N M)
  unfold lack at a
  rw [hN _ (by omega), hM _ (by omega)] at a
  have ei : x.2.2 = y.2.2 := by omega
  obtain ⟨N', hN'⟩ := sumLow (h := x.2.1)
  obtain ⟨M', hM'⟩ := sumLow (h := y.2.1)
  have b := h2 (min N' M')
  unfold lack at b
  rw [hN' _ (by omega), hM' _ (by omega)] at b
  have eo : x.2.1 = y.2.1 := gx.o.uniq gy.o fun n => by
    have := h2 n
    unfold lack at this
    omega
  exact Prod.ext (gx.l.uniq gy.l h1) (Prod.ext eo ei)
/-! ### behind, power -/
theorem gd_len : ∀ {h : Hea} {a b : Int}, Gd h → (∀ y ∈ h, a ≤ y.1 ∧ y.1 ≤ b) → h.length ≤ (b - a + 1).toNat
  | [], _, _, _, _ => Nat.zero_le _
  | z :: h, a, b, g, k => by
    have := gd_len (a := z.1 + 1) (b := b) g.tail fun y hy => ⟨by have := g.head.1 y hy; omega, (k y (List.mem_cons_of_mem _ hy)).2⟩
    have := k z (List.mem_cons_self ..)
    simp only [List.length_cons]
    omega
/-- numbers of no more than seven digits -/
def Nar (U : List Int) : Prop := ∀ n ∈ U, -1000000 ≤ n ∧ n ≤ 1000000
theorem GdT.len {U : List Int} {t : Thr} (u : Nar U) (g : GdT U t) : t.1.length ≤ 2000001 ∧ t.2.1.length ≤ 2000001 :=
  ⟨gd_len (a := -1000000) (b := 1000000) g.l fun y hy => u _ (g.lU y hy), gd_len (a := -1000000) (b := 1000000) g.o fun y hy => u _ (g.oU y hy)⟩
theorem ptR_len : ∀ (h : Hea) (m : Int), (ptR h m).1.length ≤ h.length ∧ (ptR h m).2.1.length ≤ h.length
  | [], m => ⟨Nat.le_refl _, Nat.le_refl _⟩
  | z :: h, m => by
    obtain ⟨h1, h2⟩ := ptR_len h (m - min z.2 m)
    rw [ptR_cons]
    constructor
    · dsimp only; split <;> simp only [List.length_cons] <;> omega
    · dsimp only; split <;> simp only [List.length_cons] <;> omega
theorem foldAdd_len (b l : Hea) : (b.foldl addI l).length ≤ l.length + b.length := by
  induction b generalizing l with
  | nil => simp
  | cons z b ih =>
    have h1 := ih (addI l z)
    have h2 : (addI l z).length ≤ l.length + 1 := putI_len l z.1 _
    simp only [List.foldl_cons, List.length_cons]
    omega
theorem both_len (a b : Hea) : (bothM a b).length ≤ a.length + b.length := by
  unfold bothM
  rw [(psort_spec _).1.length_eq]
  have h1 := foldAdd_len b (mrgI a)
  have h2 := mrg_len a []
  have h3 : (mrgI a).length ≤ a.length := by unfold mrgI; simpa using h2
  omega
theorem behind_ev (x y : Thr) (h1 : x.1.length ≤ 2000001) (h2 : x.2.1.length ≤ 2000001) (h3 : y.1.length ≤ 2000001) (h4 : y.2.1.length ≤ 2000001) : F_behind [.d (tD x), .d (tD y)] = .ret (.d (tD (bhd x y))) [.d (tD x), .d (tD y)] := by
  have a1 := ptR_len x.1 y.2.2
  have e1 := parted_ev x.1 y.2.2 (by omega)
  rw [← ptd_R] at a1
  have a2 := both_len (ptd x.1 y.2.2).2.1 y.2.1
  have e2 := both_ev (ptd x.1 y.2.2).2.1 y.2.1 (by omega)
  have e3 := size_of_ev y.2.1 (by omega)
  have e4 := parted_ev (bothM (ptd x.1 y.2.2).2.1 y.2.1) (sumC y.2.1) (by omega)
  have a4 := ptR_len (bothM (ptd x.1 y.2.2).2.1 y.2.1) (sumC y.2.1)
  rw [← ptd_R] at a4
  have e5 := both_ev (ptd (bothM (ptd x.1 y.2.2).2.1 y.2.1) (sumC y.2.1)).2.1 y.1 (by omega)
  have e6 := both_ev x.2.1 (ptd x.1 y.2.2).1 (by omega)
  have a6 := both_len x.2.1 (ptd x.1 y.2.2).1
  have e7 := both_ev (bothM x.2.1 (ptd x.1 y.2.2).1) (ptd (bothM (ptd x.1 y.2.2).2.1 y.2.1) (sumC y.2.1)).1 (by omega)
  simp [F_behind, c_behind, fSeq, fAsg, fCall, fCons, fNil, fVar, fAug, fExpr, fExtend, fBin, fC, fIf, fIfS, fRet, fRetN, fNext, fTest, fAnd, fOr, fNot, fAndV, fOrV, fNotV, fOfT, fChain, fNeg, fPar, fParT, fMut, fSetIx, fDPut, fDGet, fDGet2, fDAug, fDNew, fCallF, fSl, fPart, fNoPart, gSl, gN, gT, gL, gsName, gsNil, gsCons, isVar, Rz.bind, gOrC, gMin2, gMax2, gLen, gLenS, gLenD, gInt, gAbs, gTuple, gList, gDict, gOr, gI, gAddT, gAddL, gAddS, gRepL, gEqN, gInN, gIsN, nonB, S.toD, gIx, gIxS, S.seq, S.lst, S.der, S.mlst, S.get, S.put, S.res, S.tgt, mkArgs, mkArg, apartB, owEq, back, gAppend, gPop, gPopAt, tyM, gLst, gTup, allD, fExtend.isSelf, Option.or, sizeLine_eq, encP, isiR, isiD, isL, fIsi, fSortIt, noX, mkF, bodyF, start0, slots0, slot0, ioM, ioOk, finA, eqvI, eqvS, depI, depS, depB, depN, mGetK, mPutK, keyK, isDK, s_tp, s_tm, s_pt, s_pm, s_mp, s_mt, fRev, fSortSet, fCount, fFrz, fSortTup, fIndex, isT, gIdx, gCount, gRemove, gRepT, atI, ixN, e1, e2, e3, e4, e5, e6, e7, bhd]
def pwr : Nat → Thr → Thr → Int → Thr
  | 0, f, _, _ => f
  | k + 1, f, t, m => if 0 < m then pwr k (if m % 2 = 1 then bhd f t else f) (bhd t t) (m / 2) else f
theorem while_step {ft : S → Rz Bool} {body : S → Rz Fl} {n : Nat} {st st1 st2 : S} (h : ft st = .ok true st1) (hb : body st1 = .ok .nx st2) : whileN ft body (n + 1) st = whileN ft body n st2 := by
  conv => lhs; unfold whileN
  simp only [h, Rz.bind, hb]
theorem power_loop {U : List Int} (u : Nar U) : ∀ (k : Nat) (f t : Thr) (m : Int), GdT U f → GdT U t → m < 2 ^ k → m < 2 ^ 62 →
    ∃ t' m', whileN (fTest (fBin gGt (fVar 1) (fC (.int 0)))) l_power_0 (k + 1) ⟨[some (.d (tD t)), some (.d (.int m)), some (.d (tD f))], [none, none]⟩ = .ok .nx ⟨[some (.d (tD t')), some (.d (.int m')), some (.d (tD (pwr k f t m)))], [none, none]⟩
  | k, f, t, m, gf, gt, hm, hb => by
    by_cases h0 : 0 < m
    · cases k with
      | zero => simp at hm; omega
      | succ k =>
        have l1 := gf.len u
        have l2 := gt.len u
        have e1 := behind_ev f t l1.1 l1.2 l2.1 l2.2
        have e2 := behind_ev t t l2.1 l2.2 l2.1 l2.2
        have gt2 := (bhd_spec gt gt).1
        have gf2 : GdT U (if m % 2 = 1 then bhd f t else f) := by split; exact (bhd_spec gf gt).1; exact gf
        obtain ⟨t', m', ih⟩ := power_loop u k (if m % 2 = 1 then bhd f t else f) (bhd t t) (m / 2) gf2 gt2 (by rw [Int.pow_succ] at hm; omega) (by omega)
        refine ⟨t', m', ?_⟩
        have eb : l_power_0 ⟨[some (.d (tD t)), some (.d (.int m)), some (.d (tD f))], [none, none]⟩ = .ok .nx ⟨[some (.d (tD (bhd t t))), some (.d (.int (m / 2))), some (.d (tD (if m % 2 = 1 then bhd f t else f)))], [none, none]⟩ := by
          by_cases h2 : m % 2 = 1
          · simp [l_power_0, fSeq, fAsg, fCall, fCons, fNil, fVar, fAug, fExpr, fExtend, fBin, fC, fIf, fIfS, fRet, fRetN, fNext, fTest, fAnd, fOr, fNot, fAndV, fOrV, fNotV, fOfT, fChain, fNeg, fPar, fParT, fMut, fSetIx, fDPut, fDGet, fDGet2, fDAug, fDNew, fCallF, fSl, fPart, fNoPart, gSl, gN, gT, gL, gsName, gsNil, gsCons, isVar, Rz.bind, gOrC, gMin2, gMax2, gLen, gLenS, gLenD, gInt, gAbs, gTuple, gList, gDict, gOr, gI, gAddT, gAddL, gAddS, gRepL, gEqN, gInN, gIsN, nonB, S.toD, gIx, gIxS, S.seq, S.lst, S.der, S.mlst, S.get, S.put, S.res, S.tgt, mkArgs, mkArg, apartB, owEq, back, gAppend, gPop, gPopAt, tyM, gLst, gTup, allD, fExtend.isSelf, Option.or, sizeLine_eq, encP, isiR, isiD, isL, fIsi, fSortIt, noX, mkF, bodyF, start0, slots0, slot0, ioM, ioOk, finA, eqvI, eqvS, depI, depS, depB, depN, mGetK, mPutK, keyK, isDK, s_tp, s_tm, s_pt, s_pm, s_mp, s_mt, fRev, fSortSet, fCount, fFrz, fSortTup, fIndex, isT, gIdx, gCount, gRemove, gRepT, h2, e1, e2]
          · simp [l_power_0, fSeq, fAsg, fCall, fCons, fNil, fVar, fAug, fExpr, fExtend, fBin, fC, fIf, fIfS, fRet, fRetN, fNext, fTest, fAnd, fOr, fNot, fAndV, fOrV, fNotV, fOfT, fChain, fNeg, fPar, fParT, fMut, fSetIx, fDPut, fDGet, fDGet2, fDAug, fDNew, fCallF, fSl, fPart, fNoPart, gSl, gN, gT, gL, gsName, gsNil, gsCons, isVar, Rz.bind, gOrC, gMin2, gMax2, gLen, gLenS, gLenD, gInt, gAbs, gTuple, gList, gDict, gOr, gI, gAddT, gAddL, gAddS, gRepL, gEqN, gInN, gIsN, nonB, S.toD, gIx, gIxS, S.seq, S.lst, S.der, S.mlst, S.get, S.put, S.res, S.tgt, mkArgs, mkArg, apartB, owEq, back, gAppend, gPop, gPopAt, tyM, gLst, gTup, allD, fExtend.isSelf, Option.or, sizeLine_eq, encP, isiR, isiD, isL, fIsi, fSortIt, noX, mkF, bodyF, start0, slots0, slot0, ioM, ioOk, finA, eqvI, eqvS, depI, depS, depB, depN, mGetK, mPutK, keyK, isDK, s_tp, s_tm, s_pt, s_pm, s_mp, s_mt, fRev, fSortSet, fCount, fFrz, fSortTup, fIndex, isT, gIdx, gCount, gRemove, gRepT, h2, e2]
        have et : (fTest (fBin gGt (fVar 1) (fC (.int 0)))) ⟨[some (.d (tD t)), some (.d (.int m)), some (.d (tD f))], [none, none]⟩ = .ok true ⟨[some (.d (tD t)), some (.d (.int m)), some (.d (tD f))], [none, none]⟩ := by simp [fSeq, fAsg, fCall, fCons, fNil, fVar, fAug, fExpr, fExtend, fBin, fC, fIf, fIfS, fRet, fRetN, fNext, fTest, fAnd, fOr, fNot, fAndV, fOrV, fNotV, fOfT, fChain, fNeg, fPar, fParT, fMut, fSetIx, fDPut, fDGet, fDGet2, fDAug, fDNew, fCallF, fSl, fPart, fNoPart, gSl, gN, gT, gL, gsName, gsNil, gsCons, isVar, Rz.bind, gOrC, gMin2, gMax2, gLen, gLenS, gLenD, gInt, gAbs, gTuple, gList, gDict, gOr, gI, gAddT, gAddL, gAddS, gRepL, gEqN, gInN, gIsN, nonB, S.toD, gIx, gIxS, S.seq, S.lst, S.der, S.mlst, S.get, S.put, S.res, S.tgt, mkArgs, mkArg, apartB, owEq, back, gAppend, gPop, gPopAt, tyM, gLst, gTup, allD, fExtend.isSelf, Option.or, sizeLine_eq, encP, isiR, isiD, isL, fIsi, fSortIt, noX, mkF, bodyF, start0, slots0, slot0, ioM, ioOk, finA, eqvI, eqvS, depI, depS, depB, depN, mGetK, mPutK, keyK, isDK, s_tp, s_tm, s_pt, s_pm, s_mp, s_mt, fRev, fSortSet, fCount, fFrz, fSortTup, fIndex, isT, gIdx, gCount, gRemove, gRepT, h0]
        rw [while_step et eb]
        unfold pwr
        rw [if_pos h0]
        exact ih
    · refine ⟨t, m, ?_⟩
      have : pwr k f t m = f := by cases k with
        | zero => rfl
        | succ k => unfold pwr; rw [if_neg h0]
      rw [this]
      unfold whileN
      simp [fSeq, fAsg, fCall, fCons, fNil, fVar, fAug, fExpr, fExtend, fBin, fC, fIf, fIfS, fRet, fRetN, fNext, fTest, fAnd, fOr, fNot, fAndV, fOrV, fNotV, fOfT, fChain, fNeg, fPar, fParT, fMut, fSetIx, fDPut, fDGet, fDGet2, fDAug, fDNew, fCallF, fSl, fPart, fNoPart, gSl, gN, gT, gL, gsName, gsNil, gsCons, isVar, Rz.bind, gOrC, gMin2, gMax2, gLen, gLenS, gLenD, gInt, gAbs, gTuple, gList, gDict, gOr, gI, gAddT, gAddL, gAddS, gRepL, gEqN, gInN, gIsN, nonB, S.toD, gIx, gIxS, S.seq, S.lst, S.der, S.mlst, S.get, S.put, S.res, S.tgt, mkArgs, mkArg, apartB, owEq, back, gAppend, gPop, gPopAt, tyM, gLst, gTup, allD, fExtend.isSelf, Option.or, sizeLine_eq, encP, isiR, isiD, isL, fIsi, fSortIt, noX, mkF, bodyF, start0, slots0, slot0, ioM, ioOk, finA, eqvI, eqvS, depI, depS, depB, depN, mGetK, mPutK, keyK, isDK, s_tp, s_tm, s_pt, s_pm, s_mp, s_mt, fRev, fSortSet, fCount, fFrz, fSortTup, fIndex, isT, gIdx, gCount, gRemove, gRepT, h0]
theorem power_ev {U : List Int} (u : Nar U) {t : Thr} {c : Int} (gt : GdT U t) (hc : c < 2 ^ 62) : F_power [.d (tD t), .d (.int c)] = .ret (.d (tD (pwr 63 ([], [], 0) t c))) [.d (tD t), .d (.int c)] := by
  obtain ⟨t', m', e⟩ := power_loop u 63 ([], [], 0) t c ⟨.nil, .nil, fun _ h => (nomatch h), fun _ h => (nomatch h), Int.le_refl _⟩ gt (by omega) hc
  have e' : whileN (fTest (fBin gGt (fVar 1) (fC (.int 0)))) l_power_0 64 ⟨[some (.d (tD t)), some (.d (.int c)), some (.d (.tuple [.tuple [], .tuple [], .int 0]))], [none, none]⟩ = _ := e
  simp [F_power, c_power, fSeq, fAsg, fCall, fCons, fNil, fVar, fAug, fExpr, fExtend, fBin, fC, fIf, fIfS, fRet, fRetN, fNext, fTest, fAnd, fOr, fNot, fAndV, fOrV, fNotV, fOfT, fChain, fNeg, fPar, fParT, fMut, fSetIx, fDPut, fDGet, fDGet2, fDAug, fDNew, fCallF, fSl, fPart, fNoPart, gSl, gN, gT, gL, gsName, gsNil, gsCons, isVar, Rz.bind, gOrC, gMin2, gMax2, gLen, gLenS, gLenD, gInt, gAbs, gTuple, gList, gDict, gOr, gI, gAddT, gAddL, gAddS, gRepL, gEqN, gInN, gIsN, nonB, S.toD, gIx, gIxS, S.seq, S.lst, S.der, S.mlst, S.get, S.put, S.res, S.tgt, mkArgs, mkArg, apartB, owEq, back, gAppend, gPop, gPopAt, tyM, gLst, gTup, allD, fExtend.isSelf, Option.or, sizeLine_eq, encP, isiR, isiD, isL, fIsi, fSortIt, noX, mkF, bodyF, start0, slots0, slot0, ioM, ioOk, finA, eqvI, eqvS, depI, depS, depB, depN, mGetK, mPutK, keyK, isDK, s_tp, s_tm, s_pt, s_pm, s_mp, s_mt, fRev, fSortSet, fCount, fFrz, fSortTup, fIndex, isT, gIdx, gCount, gRemove, gRepT, e']
/-! the bars of a power -/
def bal (t : Thr) (x : Int) : Int := Bar t.1 x - lack t x
theorem bhd_bar {U : List Int} {x y : Thr} (gx : GdT U x) (gy : GdT U y) (n : Int) : Bar (bhd x y).1 n = max (Bar x.1 n + bal y n) (Bar y.1 n) ∧ bal (bhd x y) n = bal x n + bal y n := by
  obtain ⟨_, h1, h2⟩ := bhd_spec gx gy
  unfold bal
  rw [h1, h2]
  constructor <;> first | omega | trivial
theorem lack_nonneg {U : List Int} {t : Thr} (g : GdT U t) (n : Int) : 0 ≤ lack t n := by
  have := Bar_le g.o n
  have := g.i
  unfold lack; omega
/-- m times: bars -/
def pB (b e m : Int) : Int := if 0 < m then b + max 0 ((m - 1) * e) else 0
theorem pwr_spec {U : List Int} : ∀ (k : Nat) (f t : Thr) (m : Int), GdT U f → GdT U t → 0 ≤ m → m < 2 ^ k →
    GdT U (pwr k f t m) ∧ ∀ n, Bar (pwr k f t m).1 n = max (Bar f.1 n + m * bal t n) (pB (Bar t.1 n) (bal t n) m) ∧ bal (pwr k f t m) n = bal f n + m * bal t n
  | k, f, t, m, gf, gt, h0, hm => by
    by_cases hp : 0 < m
    · cases k with
      | zero => simp at hm; omega
      | succ k =>
        have gt2 := (bhd_spec gt gt).1
        have gf2 : GdT U (if m % 2 = 1 then bhd f t else f) := by split; exact (bhd_spec gf gt).1; exact gf
        obtain ⟨g, ih⟩ := pwr_spec k (if m % 2 = 1 then bhd f t else f) (bhd t t) (m / 2) gf2 gt2 (by omega) (by rw [Int.pow_succ] at hm; omega)
        unfold pwr
        rw [if_pos hp]
        refine ⟨g, fun n => ?_⟩
        obtain ⟨i1, i2⟩ := ih n
        obtain ⟨t1, t2⟩ := bhd_bar gt gt n
        obtain ⟨f1, f2⟩ := bhd_bar gf gt n
        have b0 := Bar_nonneg gt.l n
        have fb0 := Bar_nonneg gf.l n
        have l0 := lack_nonneg gt n
        have be : bal t n ≤ Bar t.1 n := by unfold bal; omega
        rw [i1, i2, t1, t2]
        generalize hq : m / 2 = q at *
        generalize bal t n = e at *
        generalize Bar t.1 n = b at *
        have eq2 : q * (e + e) = 2 * (q * e) := by rw [Int.mul_add]; omega
        have eq3 : (q - 1) * (e + e) = 2 * (q * e) - 2 * e := by rw [Int.mul_add, Int.sub_mul]; omega
        rw [eq2]
        have hqs : 0 ≤ q := by omega
        have sgn : (0 ≤ e → 0 ≤ q * e ∧ (0 < q → e ≤ q * e)) ∧ (e ≤ 0 → q * e ≤ 0 ∧ (0 < q → q * e ≤ e)) := by
          refine ⟨fun h => ⟨Int.mul_nonneg hqs h, fun h1 => ?_⟩, fun h => ⟨?_, fun h1 => ?_⟩⟩
          · have := Int.mul_nonneg (show 0 ≤ q - 1 by omega) h
            rw [Int.sub_mul] at this; omega
          · have := Int.mul_nonneg hqs (show 0 ≤ -e by omega)
            rw [Int.mul_neg] at this; omega
          · have := Int.mul_nonneg (show 0 ≤ q - 1 by omega) (show 0 ≤ -e by omega)
            rw [Int.mul_neg, Int.sub_mul] at this; omega
        unfold pB
        rw [eq3, if_pos hp]
        have q0 : q = 0 → q * e = 0 := fun h => by rw [h]; simp
        by_cases h2 : m % 2 = 1
        · have em : m = 2 * q + 1 := by omega
          have e1 : m * e = 2 * (q * e) + e := by rw [em, Int.add_mul, Int.mul_assoc]; omega
          have e2 : (m - 1) * e = 2 * (q * e) := by rw [em, show 2 * q + 1 - 1 = 2 * q by omega, Int.mul_assoc]
          rw [e1, e2]
          simp only [h2, if_true, f1, f2]
          generalize q * e = p at *
          by_cases hq0 : 0 < q
          · rw [if_pos hq0]
            rcases Int.le_total 0 e with he | he
            · have s1 := (sgn.1 he).1
              have s2 := (sgn.1 he).2 hq0
              constructor <;> first | omega | trivial
            · have s1 := (sgn.2 he).1
              have s2 := (sgn.2 he).2 hq0
              constructor <;> first | omega | trivial
          · rw [if_neg hq0]
            have := q0 (by omega)
            constructor <;> first | omega | trivial
        · have em : m = 2 * q := by omega
          have e1 : m * e = 2 * (q * e) := by rw [em, Int.mul_assoc]
          have e2 : (m - 1) * e = 2 * (q * e) - e := by rw [em, Int.sub_mul, Int.mul_assoc]; omega
          rw [e1, e2]
          simp only [h2, if_false]
          generalize q * e = p at *
          have hq0 : 0 < q := by omega
          rw [if_pos hq0]
          clear i1 i2 f1 f2 t1 t2 ih eq2 eq3 e1 e2 g gf2 gt2
          rcases Int.le_total 0 e with he | he
          · have s1 := (sgn.1 he).1
            have s2 := (sgn.1 he).2 hq0
            constructor <;> first | omega | trivial
          · have s1 := (sgn.2 he).1
            have s2 := (sgn.2 he).2 hq0
            constructor <;> first | omega | trivial
    · have hm0 : m = 0 := by omega
      have : pwr k f t m = f := by cases k with
        | zero => rfl
        | succ k => unfold pwr; rw [if_neg hp]
      rw [this, hm0]
      refine ⟨gf, fun n => ?_⟩
      have := Bar_nonneg gf.l n
      simp [pB]
      omega
theorem none_gd {U : List Int} : GdT U ([], [], 0) := ⟨.nil, .nil, fun _ h => (nomatch h), fun _ h => (nomatch h), Int.le_refl _⟩
theorem pwr_none {U : List Int} {t : Thr} {c : Int} (gt : GdT U t) (h0 : 0 ≤ c) (hc : c < 2 ^ 62) : GdT U (pwr 63 ([], [], 0) t c) ∧ ∀ n, Bar (pwr 63 ([], [], 0) t c).1 n = pB (Bar t.1 n) (bal t n) c ∧ bal (pwr 63 ([], [], 0) t c) n = c * bal t n := by
  obtain ⟨g, h⟩ := pwr_spec 63 ([], [], 0) t c none_gd gt h0 (by omega)
  refine ⟨g, fun n => ?_⟩
  obtain ⟨h1, h2⟩ := h n
  have b0 := Bar_nonneg gt.l n
  have l0 := lack_nonneg gt n
  have be : bal t n ≤ Bar t.1 n := by unfold bal; omega
  refine ⟨?_, by rw [h2]; simp [bal, Bar, lack, sumC]⟩
  rw [h1]
  have z : Bar (([], [], 0) : Thr).1 n = 0 := rfl
  rw [z]
  unfold pB
  by_cases hp : 0 < c
  · rw [if_pos hp]
    have : c * bal t n = (c - 1) * bal t n + bal t n := by rw [Int.sub_mul]; omega
    rw [this]
    omega
  · have : c = 0 := by omega
    subst this
    simp
/-! ### works -/
inductive Stp where
  | put (n : Int)
  | take
  | times (c : Int) (ws : List Stp)
mutual
def sD : Stp → D
  | .put n => .tuple [.str "put", .int n]
  | .take => .tuple [.str "take"]
  | .times c ws => .tuple [.str "times", .int c, .tuple (wsD ws)]
def wsD : List Stp → List D
  | [] => []
  | s :: ws => sD s :: wsD ws
end
abbrev wD (ws : List Stp) : D := .tuple (wsD ws)
theorem wsD_map : ∀ ws : List Stp, wsD ws = ws.map sD
  | [] => by simp [wsD]
  | s :: ws => by simp [wsD, wsD_map ws]
mutual
def thrS : Stp → Thr
  | .put n => ([(n, 1)], [], 0)
  | .take => ([], [], 1)
  | .times c ws => pwr 63 ([], [], 0) (thrW ([], [], 0) ws) c
def thrW : Thr → List Stp → Thr
  | f, [] => f
  | f, s :: ws => thrW (bhd f (thrS s)) ws
end
theorem thrW_fold : ∀ (ws : List Stp) (f : Thr), thrW f ws = ws.foldl (fun f s => bhd f (thrS s)) f
  | [], f => by simp [thrW]
  | s :: ws, f => by simp [thrW, thrW_fold ws]
mutual
/-- steps that can be: numbers of U, counts, no deeper than d, no more than n in all -/
def okS (U : List Int) : Nat → Stp → Prop
  | _, .put n => n ∈ U
  | _, .take => True
  | 0, .times _ _ => False
  | d + 1, .times c ws => 0 ≤ c ∧ c ≤ 1000000000000000000 ∧ okW U d ws
def okW (U : List Int) : Nat → List Stp → Prop
  | _, [] => True
  | d, s :: ws => okS U d s ∧ okW U d ws
end
mutual
def szS : Stp → Nat
  | .times _ ws => 1 + szW ws
  | _ => 1
def szW : List Stp → Nat
  | [] => 0
  | s :: ws => szS s + szW ws
end
theorem okW_mem {U : List Int} {d : Nat} : ∀ {ws : List Stp}, okW U d ws → ∀ s ∈ ws, okS U d s
  | [], _, s, h => nomatch h
  | s :: ws, h, s', hs => by
    simp only [okW] at h
    rcases List.mem_cons.mp hs with rfl | hs
    · exact h.1
    · exact okW_mem h.2 s' hs
theorem szW_len : ∀ ws : List Stp, ws.length ≤ szW ws
  | [] => Nat.zero_le _
  | s :: ws => by
    have := szW_len ws
    have : 1 ≤ szS s := by cases s <;> simp [szS]
    simp only [szW, List.length_cons]
    omega
mutual
def barS (x : Int) : Stp → Int × Int
  | .put n => if n ≤ x then (1, 1) else (0, 0)
  | .take => (-1, 0)
  | .times c ws => if c = 0 then (0, 0) else (c * (barW x (0, 0) ws).1, (barW x (0, 0) ws).2 + max 0 ((c - 1) * (barW x (0, 0) ws).1))
def barW (x : Int) : Int × Int → List Stp → Int × Int
  | f, [] => f
  | f, s :: ws => barW x (f.1 + (barS x s).1, max (f.2 + (barS x s).1) (barS x s).2) ws
end
mutual
theorem thrS_ok {U : List Int} : ∀ (d : Nat) (s : Stp), okS U d s → GdT U (thrS s) ∧ ∀ x, Bar (thrS s).1 x = (barS x s).2 ∧ bal (thrS s) x = (barS x s).1
  | d, .put n, h => by
    have hn : n ∈ U := by cases d <;> simpa [okS] using h
    refine ⟨⟨⟨by simp [thrS], fun z hz => ?_⟩, .nil, fun z hz => ?_, fun _ h => (nomatch h), Int.le_refl _⟩, fun x => ?_⟩
    · have : z = (n, 1) := by simpa [thrS] using hz
      rw [this]; exact Int.le_refl 1
    · have : z = (n, 1) := by simpa [thrS] using hz
      rw [this]; exact hn
    · simp only [thrS, barS, bal, lack, Bar_cons, Bar_nil, sumC, List.map_nil, List.sum_nil]
      split <;> simp
  | d, .take, h => by
    refine ⟨⟨.nil, .nil, fun _ h => (nomatch h), fun _ h => (nomatch h), by simp [thrS]⟩, fun x => ?_⟩
    simp [thrS, barS, bal, lack, Bar, sumC]
  | 0, .times _ _, h => by simp [okS] at h
  | d + 1, .times c ws, h => by
    simp only [okS] at h
    obtain ⟨h0, h1, h2⟩ := h
    obtain ⟨g, hb⟩ := thrW_ok d ws ([], [], 0) h2 none_gd
    obtain ⟨g2, hp⟩ := pwr_none g h0 (by omega)
    simp only [thrS]
    refine ⟨g2, fun x => ?_⟩
    obtain ⟨b1, b2⟩ := hb x
    obtain ⟨p1, p2⟩ := hp x
    have z1 : Bar (([], [], 0) : Thr).1 x = 0 := rfl
    have z2 : bal (([], [], 0) : Thr) x = 0 := by simp [bal, lack, Bar, sumC]
    rw [z1, z2] at b1 b2
    rw [p1, p2, b1, b2]
    simp only [barS]
    by_cases hc : c = 0
    · subst hc
      simp [pB]
    · rw [if_neg hc]
      unfold pB
      rw [if_pos (by omega)]
      constructor <;> first | rfl | trivial
theorem thrW_ok {U : List Int} : ∀ (d : Nat) (ws : List Stp) (f : Thr), okW U d ws → GdT U f → GdT U (thrW f ws) ∧ ∀ x, Bar (thrW f ws).1 x = (barW x (bal f x, Bar f.1 x) ws).2 ∧ bal (thrW f ws) x = (barW x (bal f x, Bar f.1 x) ws).1
  | d, [], f, h, g => by
    simp only [thrW, barW]
    exact ⟨g, fun x => by constructor <;> first | rfl | trivial⟩
  | d, s :: ws, f, h, g => by
    simp only [okW] at h
    obtain ⟨gs, hs⟩ := thrS_ok d s h.1
    obtain ⟨g2, h2⟩ := thrW_ok d ws (bhd f (thrS s)) h.2 (bhd_spec g gs).1
    simp only [thrW]
    refine ⟨g2, fun x => ?_⟩
    obtain ⟨a1, a2⟩ := h2 x
    obtain ⟨b1, b2⟩ := bhd_bar g gs x
    obtain ⟨c1, c2⟩ := hs x
    rw [a1, a2, b1, b2, c1, c2]
    simp only [barW]
    constructor <;> first | rfl | trivial
end
/-! ### the program's defs on works -/
theorem sD_depth : True := trivial
theorem three_ev {U : List Int} (u : Nar U) : ∀ (d : Nat) (ws : List Stp), okW U d ws → F_three_of (d + 1) [.d (wD ws)] = .ret (.d (tD (thrW ([], [], 0) ws))) [.d (wD ws)]
  | d, ws, h => by
    obtain ⟨st', key, v2, v3, rfl, g⟩ := loop_st (t := gN 2) (body := l_three_of_0 (F_three_of d)) sD (fun f s => bhd f (thrS s))
      (fun i f st => ∃ v2 v3, st = ⟨[some (.d (wD ws)), some (.d (tD f)), v2, v3], [none]⟩ ∧ GdT U f) ws 0
      (fun i f s st e r => by
        obtain ⟨v2, v3, rfl, g⟩ := r
        have hs := okW_mem h s (List.mem_of_getElem? e)
        obtain ⟨gs, _⟩ := thrS_ok d s hs
        have l1 := g.len u
        have l2 := gs.len u
        have e1 := behind_ev f (thrS s) l1.1 l1.2 l2.1 l2.2
        refine ⟨_, ⟨[some (.d (wD ws)), some (.d (tD (bhd f (thrS s)))), some (.d (sD s)), some (.d (tD (thrS s)))], [none]⟩, rfl, .inl ?_, _, _, rfl, (bhd_spec g gs).1⟩
        cases s with
        | put n =>
          simp only [thrS] at e1 ⊢
          have e1' : F_behind [.d (tD f), .d (.tuple [.tuple [.tuple [.int n, .int 1]], .tuple [], .int 0])] = .ret (.d (tD (bhd f ([(n, 1)], [], 0)))) [.d (tD f), .d (.tuple [.tuple [.tuple [.int n, .int 1]], .tuple [], .int 0])] := e1
          simp [l_three_of_0, fSeq, fAsg, fCall, fCons, fNil, fVar, fAug, fExpr, fExtend, fBin, fC, fIf, fIfS, fRet, fRetN, fNext, fTest, fAnd, fOr, fNot, fAndV, fOrV, fNotV, fOfT, fChain, fNeg, fPar, fParT, fMut, fSetIx, fDPut, fDGet, fDGet2, fDAug, fDNew, fCallF, fSl, fPart, fNoPart, gSl, gN, gT, gL, gsName, gsNil, gsCons, isVar, Rz.bind, gOrC, gMin2, gMax2, gLen, gLenS, gLenD, gInt, gAbs, gTuple, gList, gDict, gOr, gI, gAddT, gAddL, gAddS, gRepL, gEqN, gInN, gIsN, nonB, S.toD, gIx, gIxS, S.seq, S.lst, S.der, S.mlst, S.get, S.put, S.res, S.tgt, mkArgs, mkArg, apartB, owEq, back, gAppend, gPop, gPopAt, tyM, gLst, gTup, allD, fExtend.isSelf, Option.or, sizeLine_eq, encP, isiR, isiD, isL, fIsi, fSortIt, noX, mkF, bodyF, start0, slots0, slot0, ioM, ioOk, finA, eqvI, eqvS, depI, depS, depB, depN, mGetK, mPutK, keyK, isDK, s_tp, s_tm, s_pt, s_pm, s_mp, s_mt, fRev, fSortSet, fCount, fFrz, fSortTup, fIndex, isT, gIdx, gCount, gRemove, gRepT, atI, ixN, sD, e1']
        | take =>
          simp only [thrS] at e1 ⊢
          have e1' : F_behind [.d (tD f), .d (.tuple [.tuple [], .tuple [], .int 1])] = .ret (.d (tD (bhd f ([], [], 1)))) [.d (tD f), .d (.tuple [.tuple [], .tuple [], .int 1])] := e1
          simp [l_three_of_0, fSeq, fAsg, fCall, fCons, fNil, fVar, fAug, fExpr, fExtend, fBin, fC, fIf, fIfS, fRet, fRetN, fNext, fTest, fAnd, fOr, fNot, fAndV, fOrV, fNotV, fOfT, fChain, fNeg, fPar, fParT, fMut, fSetIx, fDPut, fDGet, fDGet2, fDAug, fDNew, fCallF, fSl, fPart, fNoPart, gSl, gN, gT, gL, gsName, gsNil, gsCons, isVar, Rz.bind, gOrC, gMin2, gMax2, gLen, gLenS, gLenD, gInt, gAbs, gTuple, gList, gDict, gOr, gI, gAddT, gAddL, gAddS, gRepL, gEqN, gInN, gIsN, nonB, S.toD, gIx, gIxS, S.seq, S.lst, S.der, S.mlst, S.get, S.put, S.res, S.tgt, mkArgs, mkArg, apartB, owEq, back, gAppend, gPop, gPopAt, tyM, gLst, gTup, allD, fExtend.isSelf, Option.or, sizeLine_eq, encP, isiR, isiD, isL, fIsi, fSortIt, noX, mkF, bodyF, start0, slots0, slot0, ioM, ioOk, finA, eqvI, eqvS, depI, depS, depB, depN, mGetK, mPutK, keyK, isDK, s_tp, s_tm, s_pt, s_pm, s_mp, s_mt, fRev, fSortSet, fCount, fFrz, fSortTup, fIndex, isT, gIdx, gCount, gRemove, gRepT, atI, ixN, sD, e1']
        | times c vs =>
          cases d with
          | zero => simp [okS] at hs
          | succ d =>
            simp only [okS] at hs
            have e2 := three_ev u d vs hs.2.2
            have e3 := power_ev u (thrW_ok d vs ([], [], 0) hs.2.2 none_gd).1 (c := c) (by omega)
            simp only [thrS] at e1 ⊢
            simp [l_three_of_0, fSeq, fAsg, fCall, fCons, fNil, fVar, fAug, fExpr, fExtend, fBin, fC, fIf, fIfS, fRet, fRetN, fNext, fTest, fAnd, fOr, fNot, fAndV, fOrV, fNotV, fOfT, fChain, fNeg, fPar, fParT, fMut, fSetIx, fDPut, fDGet, fDGet2, fDAug, fDNew, fCallF, fSl, fPart, fNoPart, gSl, gN, gT, gL, gsName, gsNil, gsCons, isVar, Rz.bind, gOrC, gMin2, gMax2, gLen, gLenS, gLenD, gInt, gAbs, gTuple, gList, gDict, gOr, gI, gAddT, gAddL, gAddS, gRepL, gEqN, gInN, gIsN, nonB, S.toD, gIx, gIxS, S.seq, S.lst, S.der, S.mlst, S.get, S.put, S.res, S.tgt, mkArgs, mkArg, apartB, owEq, back, gAppend, gPop, gPopAt, tyM, gLst, gTup, allD, fExtend.isSelf, Option.or, sizeLine_eq, encP, isiR, isiD, isL, fIsi, fSortIt, noX, mkF, bodyF, start0, slots0, slot0, ioM, ioOk, finA, eqvI, eqvS, depI, depS, depB, depN, mGetK, mPutK, keyK, isDK, s_tp, s_tm, s_pt, s_pm, s_mp, s_mt, fRev, fSortSet, fCount, fFrz, fSortTup, fIndex, isT, gIdx, gCount, gRemove, gRepT, atI, ixN, sD, e1, e2, e3])
      ([], [], 0) ⟨[some (.d (wD ws)), some (.d (tD ([], [], 0))), none, none], [none]⟩ ⟨none, none, rfl, none_gd⟩
    rw [← wsD_map] at key
    have e1 := for_ok (fi := fSeqI (fVar 0)) (st := ⟨[some (.d (wD ws)), some (.d (tD ([], [], 0))), none, none], [none]⟩) rfl key
    rw [← thrW_fold] at e1
    have e1' : fFor (gN 2) (fSeqI (fVar 0)) (l_three_of_0 (F_three_of d)) ⟨[some (.d (wD ws)), some (.d (.tuple [.tuple [], .tuple [], .int 0])), none, none], [none]⟩ = _ := e1
    simp [F_three_of, c_three_of, fSeq, fAsg, fCall, fCons, fNil, fVar, fAug, fExpr, fExtend, fBin, fC, fIf, fIfS, fRet, fRetN, fNext, fTest, fAnd, fOr, fNot, fAndV, fOrV, fNotV, fOfT, fChain, fNeg, fPar, fParT, fMut, fSetIx, fDPut, fDGet, fDGet2, fDAug, fDNew, fCallF, fSl, fPart, fNoPart, gSl, gN, gT, gL, gsName, gsNil, gsCons, isVar, Rz.bind, gOrC, gMin2, gMax2, gLen, gLenS, gLenD, gInt, gAbs, gTuple, gList, gDict, gOr, gI, gAddT, gAddL, gAddS, gRepL, gEqN, gInN, gIsN, nonB, S.toD, gIx, gIxS, S.seq, S.lst, S.der, S.mlst, S.get, S.put, S.res, S.tgt, mkArgs, mkArg, apartB, owEq, back, gAppend, gPop, gPopAt, tyM, gLst, gTup, allD, fExtend.isSelf, Option.or, sizeLine_eq, encP, isiR, isiD, isL, fIsi, fSortIt, noX, mkF, bodyF, start0, slots0, slot0, ioM, ioOk, finA, eqvI, eqvS, depI, depS, depB, depN, mGetK, mPutK, keyK, isDK, s_tp, s_tm, s_pt, s_pm, s_mp, s_mt, fRev, fSortSet, fCount, fFrz, fSortTup, fIndex, isT, gIdx, gCount, gRemove, gRepT, e1']
/-! ### works are taken -/
def Put (U : List Int) : Prop := ∀ n ∈ U, -999 ≤ n ∧ n ≤ 999
theorem Put.nar {U : List Int} (p : Put U) : Nar U := fun n h => by have := p n h; omega
theorem take_eq : PyData.eqv (.tuple [.str (Str.ofString "take")]) (.tuple [.str (Str.ofString "take")]) = true := by simp [PyData.eqv, PyData.eqvAll, eqvS]
theorem take_dep : (PyData.tuple [.str (Str.ofString "take")]).depth ≤ 60 := by simp [PyData.depth, PyData.depthAll]
theorem is_step_ev {U : List Int} (p : Put U) (d : Nat) (s : Stp) (h : okS U d s) : F_is_step [.d (sD s)] = .ret (.d (.bool true)) [.d (sD s)] := by
  cases s with
  | put n =>
    have hn : n ∈ U := by cases d <;> simpa [okS] using h
    have := p n hn
    have ha : (if n < 0 then -n else n) ≤ 999 := by split <;> omega
    simp [F_is_step, c_is_step, fSeq, fAsg, fCall, fCons, fNil, fVar, fAug, fExpr, fExtend, fBin, fC, fIf, fIfS, fRet, fRetN, fNext, fTest, fAnd, fOr, fNot, fAndV, fOrV, fNotV, fOfT, fChain, fNeg, fPar, fParT, fMut, fSetIx, fDPut, fDGet, fDGet2, fDAug, fDNew, fCallF, fSl, fPart, fNoPart, gSl, gN, gT, gL, gsName, gsNil, gsCons, isVar, Rz.bind, gOrC, gMin2, gMax2, gLen, gLenS, gLenD, gInt, gAbs, gTuple, gList, gDict, gOr, gI, gAddT, gAddL, gAddS, gRepL, gEqN, gInN, gIsN, nonB, S.toD, gIx, gIxS, S.seq, S.lst, S.der, S.mlst, S.get, S.put, S.res, S.tgt, mkArgs, mkArg, apartB, owEq, back, gAppend, gPop, gPopAt, tyM, gLst, gTup, allD, fExtend.isSelf, Option.or, sizeLine_eq, encP, isiR, isiD, isL, fIsi, fSortIt, noX, mkF, bodyF, start0, slots0, slot0, ioM, ioOk, finA, eqvI, eqvS, depI, depS, depB, depN, mGetK, mPutK, keyK, isDK, s_tp, s_tm, s_pt, s_pm, s_mp, s_mt, fRev, fSortSet, fCount, fFrz, fSortTup, fIndex, isT, gIdx, gCount, gRemove, gRepT, atI, ixN, sD, ha]
  | take =>
    simp [F_is_step, c_is_step, fSeq, fAsg, fCall, fCons, fNil, fVar, fAug, fExpr, fExtend, fBin, fC, fIf, fIfS, fRet, fRetN, fNext, fTest, fAnd, fOr, fNot, fAndV, fOrV, fNotV, fOfT, fChain, fNeg, fPar, fParT, fMut, fSetIx, fDPut, fDGet, fDGet2, fDAug, fDNew, fCallF, fSl, fPart, fNoPart, gSl, gN, gT, gL, gsName, gsNil, gsCons, isVar, Rz.bind, gOrC, gMin2, gMax2, gLen, gLenS, gLenD, gInt, gAbs, gTuple, gList, gDict, gOr, gI, gAddT, gAddL, gAddS, gRepL, gEqN, gInN, gIsN, nonB, S.toD, gIx, gIxS, S.seq, S.lst, S.der, S.mlst, S.get, S.put, S.res, S.tgt, mkArgs, mkArg, apartB, owEq, back, gAppend, gPop, gPopAt, tyM, gLst, gTup, allD, fExtend.isSelf, Option.or, sizeLine_eq, encP, isiR, isiD, isL, fIsi, fSortIt, noX, mkF, bodyF, start0, slots0, slot0, ioM, ioOk, finA, eqvI, eqvS, depI, depS, depB, depN, mGetK, mPutK, keyK, isDK, s_tp, s_tm, s_pt, s_pm, s_mp, s_mt, fRev, fSortSet, fCount, fFrz, fSortTup, fIndex, isT, gIdx, gCount, gRemove, gRepT, atI, ixN, sD, take_eq, take_dep]
  | times c ws =>
    cases d with
    | zero => simp [okS] at h
    | succ d =>
      simp only [okS] at h
      simp [F_is_step, c_is_step, fSeq, fAsg, fCall, fCons, fNil, fVar, fAug, fExpr, fExtend, fBin, fC, fIf, fIfS, fRet, fRetN, fNext, fTest, fAnd, fOr, fNot, fAndV, fOrV, fNotV, fOfT, fChain, fNeg, fPar, fParT, fMut, fSetIx, fDPut, fDGet, fDGet2, fDAug, fDNew, fCallF, fSl, fPart, fNoPart, gSl, gN, gT, gL, gsName, gsNil, gsCons, isVar, Rz.bind, gOrC, gMin2, gMax2, gLen, gLenS, gLenD, gInt, gAbs, gTuple, gList, gDict, gOr, gI, gAddT, gAddL, gAddS, gRepL, gEqN, gInN, gIsN, nonB, S.toD, gIx, gIxS, S.seq, S.lst, S.der, S.mlst, S.get, S.put, S.res, S.tgt, mkArgs, mkArg, apartB, owEq, back, gAppend, gPop, gPopAt, tyM, gLst, gTup, allD, fExtend.isSelf, Option.or, sizeLine_eq, encP, isiR, isiD, isL, fIsi, fSortIt, noX, mkF, bodyF, start0, slots0, slot0, ioM, ioOk, finA, eqvI, eqvS, depI, depS, depB, depN, mGetK, mPutK, keyK, isDK, s_tp, s_tm, s_pt, s_pm, s_mp, s_mt, fRev, fSortSet, fCount, fFrz, fSortTup, fIndex, isT, gIdx, gCount, gRemove, gRepT, atI, ixN, sD, h.1, h.2.1]
theorem sz_fold : ∀ (ws : List Stp) (n : Int), ws.foldl (fun n s => n + (szS s : Int)) n = n + (szW ws : Int)
  | [], n => by simp [szW]
  | s :: ws, n => by rw [List.foldl_cons, sz_fold ws]; simp only [szW]; omega
theorem need_steps_ev {U : List Int} (p : Put U) : ∀ (d : Nat) (ws : List Stp) (deep num : Int), okW U d ws → deep + d ≤ 3 → 0 ≤ num → num + szW ws ≤ 30 →
    F_need_steps (d + 1) [.d (wD ws), .d (.int deep), .d (.int num)] = .ret (.d (.int (num + szW ws))) [.d (wD ws), .d (.int deep), .d (.int num)]
  | d, ws, deep, num, h, hd, h0, hn => by
    obtain ⟨st', key, v3, rfl, _⟩ := loop_st (t := gN 3) (body := l_need_steps_0 (F_need_steps d)) sD (fun (n : Int) s => n + (szS s : Int))
      (fun i n st => ∃ v3, st = ⟨[some (.d (wD ws)), some (.d (.int deep)), some (.d (.int n)), v3], [none, none, none]⟩ ∧ (0 ≤ n ∧ n + szW (ws.drop i) ≤ 30)) ws 0
      (fun i n s st e r => by
        obtain ⟨v3, rfl, n0, b⟩ := r
        have hs := okW_mem h s (List.mem_of_getElem? e)
        have e1 := is_step_ev p d s hs
        have hi := (List.getElem?_eq_some_iff.mp e).1
        have ed : ws.drop (0 + i) = s :: ws.drop (i + 1) := by
          rw [Nat.zero_add, List.drop_eq_getElem_cons hi, (List.getElem?_eq_some_iff.mp e).2]
        rw [ed] at b
        simp only [szW] at b
        have s1 : 1 ≤ szS s := by cases s <;> simp [szS]
        have c1 : ¬ n = 30 := by omega
        have c2 : ¬ 3 < deep := by omega
        refine ⟨_, ⟨[some (.d (wD ws)), some (.d (.int deep)), some (.d (.int (n + szS s))), some (.d (sD s))], [none, none, none]⟩, rfl, .inl ?_, _, rfl, by omega, by
          rw [show 0 + i + 1 = i + 1 by omega]; omega⟩
        cases s with
        | put k =>
          simp only [sD] at e1
          simp [l_need_steps_0, fSeq, fAsg, fCall, fCons, fNil, fVar, fAug, fExpr, fExtend, fBin, fC, fIf, fIfS, fRet, fRetN, fNext, fTest, fAnd, fOr, fNot, fAndV, fOrV, fNotV, fOfT, fChain, fNeg, fPar, fParT, fMut, fSetIx, fDPut, fDGet, fDGet2, fDAug, fDNew, fCallF, fSl, fPart, fNoPart, gSl, gN, gT, gL, gsName, gsNil, gsCons, isVar, Rz.bind, gOrC, gMin2, gMax2, gLen, gLenS, gLenD, gInt, gAbs, gTuple, gList, gDict, gOr, gI, gAddT, gAddL, gAddS, gRepL, gEqN, gInN, gIsN, nonB, S.toD, gIx, gIxS, S.seq, S.lst, S.der, S.mlst, S.get, S.put, S.res, S.tgt, mkArgs, mkArg, apartB, owEq, back, gAppend, gPop, gPopAt, tyM, gLst, gTup, allD, fExtend.isSelf, Option.or, sizeLine_eq, encP, isiR, isiD, isL, fIsi, fSortIt, noX, mkF, bodyF, start0, slots0, slot0, ioM, ioOk, finA, eqvI, eqvS, depI, depS, depB, depN, mGetK, mPutK, keyK, isDK, s_tp, s_tm, s_pt, s_pm, s_mp, s_mt, fRev, fSortSet, fCount, fFrz, fSortTup, fIndex, isT, gIdx, gCount, gRemove, gRepT, atI, ixN, sD, e1, c1, c2, szS]
        | take =>
          simp only [sD] at e1
          simp [l_need_steps_0, fSeq, fAsg, fCall, fCons, fNil, fVar, fAug, fExpr, fExtend, fBin, fC, fIf, fIfS, fRet, fRetN, fNext, fTest, fAnd, fOr, fNot, fAndV, fOrV, fNotV, fOfT, fChain, fNeg, fPar, fParT, fMut, fSetIx, fDPut, fDGet, fDGet2, fDAug, fDNew, fCallF, fSl, fPart, fNoPart, gSl, gN, gT, gL, gsName, gsNil, gsCons, isVar, Rz.bind, gOrC, gMin2, gMax2, gLen, gLenS, gLenD, gInt, gAbs, gTuple, gList, gDict, gOr, gI, gAddT, gAddL, gAddS, gRepL, gEqN, gInN, gIsN, nonB, S.toD, gIx, gIxS, S.seq, S.lst, S.der, S.mlst, S.get, S.put, S.res, S.tgt, mkArgs, mkArg, apartB, owEq, back, gAppend, gPop, gPopAt, tyM, gLst, gTup, allD, fExtend.isSelf, Option.or, sizeLine_eq, encP, isiR, isiD, isL, fIsi, fSortIt, noX, mkF, bodyF, start0, slots0, slot0, ioM, ioOk, finA, eqvI, eqvS, depI, depS, depB, depN, mGetK, mPutK, keyK, isDK, s_tp, s_tm, s_pt, s_pm, s_mp, s_mt, fRev, fSortSet, fCount, fFrz, fSortTup, fIndex, isT, gIdx, gCount, gRemove, gRepT, atI, ixN, sD, e1, c1, c2, szS]
        | times c vs =>
          cases d with
          | zero => simp [okS] at hs
          | succ d =>
            simp only [okS] at hs
            simp only [szS] at b
            have e2 := need_steps_ev p d vs (deep + 1) (n + 1) hs.2.2 (by omega) (by omega) (by omega)
            have e3 : n + 1 + (szW vs : Int) = n + ((1 + szW vs : Nat) : Int) := by omega
            rw [e3] at e2
            simp only [sD] at e1
            simp [l_need_steps_0, fSeq, fAsg, fCall, fCons, fNil, fVar, fAug, fExpr, fExtend, fBin, fC, fIf, fIfS, fRet, fRetN, fNext, fTest, fAnd, fOr, fNot, fAndV, fOrV, fNotV, fOfT, fChain, fNeg, fPar, fParT, fMut, fSetIx, fDPut, fDGet, fDGet2, fDAug, fDNew, fCallF, fSl, fPart, fNoPart, gSl, gN, gT, gL, gsName, gsNil, gsCons, isVar, Rz.bind, gOrC, gMin2, gMax2, gLen, gLenS, gLenD, gInt, gAbs, gTuple, gList, gDict, gOr, gI, gAddT, gAddL, gAddS, gRepL, gEqN, gInN, gIsN, nonB, S.toD, gIx, gIxS, S.seq, S.lst, S.der, S.mlst, S.get, S.put, S.res, S.tgt, mkArgs, mkArg, apartB, owEq, back, gAppend, gPop, gPopAt, tyM, gLst, gTup, allD, fExtend.isSelf, Option.or, sizeLine_eq, encP, isiR, isiD, isL, fIsi, fSortIt, noX, mkF, bodyF, start0, slots0, slot0, ioM, ioOk, finA, eqvI, eqvS, depI, depS, depB, depN, mGetK, mPutK, keyK, isDK, s_tp, s_tm, s_pt, s_pm, s_mp, s_mt, fRev, fSortSet, fCount, fFrz, fSortTup, fIndex, isT, gIdx, gCount, gRemove, gRepT, atI, ixN, sD, e1, c1, c2, szS, e2])
      num ⟨[some (.d (wD ws)), some (.d (.int deep)), some (.d (.int num)), none], [none, none, none]⟩ ⟨none, rfl, h0, by simpa using hn⟩
    rw [← wsD_map, sz_fold] at key
    have e1 := for_ok (fi := fSeqI (fVar 0)) (st := ⟨[some (.d (wD ws)), some (.d (.int deep)), some (.d (.int num)), none], [none, none, none]⟩) rfl key
    simp [F_need_steps, c_need_steps, fSeq, fAsg, fCall, fCons, fNil, fVar, fAug, fExpr, fExtend, fBin, fC, fIf, fIfS, fRet, fRetN, fNext, fTest, fAnd, fOr, fNot, fAndV, fOrV, fNotV, fOfT, fChain, fNeg, fPar, fParT, fMut, fSetIx, fDPut, fDGet, fDGet2, fDAug, fDNew, fCallF, fSl, fPart, fNoPart, gSl, gN, gT, gL, gsName, gsNil, gsCons, isVar, Rz.bind, gOrC, gMin2, gMax2, gLen, gLenS, gLenD, gInt, gAbs, gTuple, gList, gDict, gOr, gI, gAddT, gAddL, gAddS, gRepL, gEqN, gInN, gIsN, nonB, S.toD, gIx, gIxS, S.seq, S.lst, S.der, S.mlst, S.get, S.put, S.res, S.tgt, mkArgs, mkArg, apartB, owEq, back, gAppend, gPop, gPopAt, tyM, gLst, gTup, allD, fExtend.isSelf, Option.or, sizeLine_eq, encP, isiR, isiD, isL, fIsi, fSortIt, noX, mkF, bodyF, start0, slots0, slot0, ioM, ioOk, finA, eqvI, eqvS, depI, depS, depB, depN, mGetK, mPutK, keyK, isDK, s_tp, s_tm, s_pt, s_pm, s_mp, s_mt, fRev, fSortSet, fCount, fFrz, fSortTup, fIndex, isT, gIdx, gCount, gRemove, gRepT, e1]
theorem okW_up {U : List Int} : True := trivial
theorem heaps_ev {U : List Int} (p : Put U) (ws : List Stp) (h : okW U 2 ws) (hs : szW ws ≤ 30) : F_heaps [.d (wD ws)] = .ret (.d (tD (thrW ([], [], 0) ws))) [.d (wD ws)] := by
  have e1 := need_steps_ev p 2 ws 1 0 h (by omega) (by omega) (by omega)
  have e2 := three_ev p.nar 2 ws h
  simp [F_heaps, c_heaps, F_need_work, c_need_work, fSeq, fAsg, fCall, fCons, fNil, fVar, fAug, fExpr, fExtend, fBin, fC, fIf, fIfS, fRet, fRetN, fNext, fTest, fAnd, fOr, fNot, fAndV, fOrV, fNotV, fOfT, fChain, fNeg, fPar, fParT, fMut, fSetIx, fDPut, fDGet, fDGet2, fDAug, fDNew, fCallF, fSl, fPart, fNoPart, gSl, gN, gT, gL, gsName, gsNil, gsCons, isVar, Rz.bind, gOrC, gMin2, gMax2, gLen, gLenS, gLenD, gInt, gAbs, gTuple, gList, gDict, gOr, gI, gAddT, gAddL, gAddS, gRepL, gEqN, gInN, gIsN, nonB, S.toD, gIx, gIxS, S.seq, S.lst, S.der, S.mlst, S.get, S.put, S.res, S.tgt, mkArgs, mkArg, apartB, owEq, back, gAppend, gPop, gPopAt, tyM, gLst, gTup, allD, fExtend.isSelf, Option.or, sizeLine_eq, encP, isiR, isiD, isL, fIsi, fSortIt, noX, mkF, bodyF, start0, slots0, slot0, ioM, ioOk, finA, eqvI, eqvS, depI, depS, depB, depN, mGetK, mPutK, keyK, isDK, s_tp, s_tm, s_pt, s_pm, s_mp, s_mt, fRev, fSortSet, fCount, fFrz, fSortTup, fIndex, isT, gIdx, gCount, gRemove, gRepT, e1, e2]
/-! ### bars told by the law -/
theorem max_ite (a b : Int) : (if a < b then b else a) = max a b := by omega
theorem barW_fold (x : Int) : ∀ (ws : List Stp) (f : Int × Int), barW x f ws = ws.foldl (fun f s => (f.1 + (barS x s).1, max (f.2 + (barS x s).1) (barS x s).2)) f
  | [], f => by simp [barW]
  | s :: ws, f => by simp only [barW, barW_fold x ws, List.foldl_cons]
/-! ### all numbers put -/
mutual
def putsS : Stp → List Int
  | .put n => [n]
  | .take => []
  | .times _ ws => isort (putsW ws)
def putsW : List Stp → List Int
  | [] => []
  | s :: ws => putsS s ++ putsW ws
end
mutual
theorem putsS_len : ∀ s : Stp, (putsS s).length ≤ szS s
  | .put n => by simp [putsS, szS]
  | .take => by simp [putsS, szS]
  | .times c ws => by
    have := putsW_len ws
    have := (isort_perm (putsW ws)).length_eq
    simp only [putsS, szS]
    omega
theorem putsW_len : ∀ ws : List Stp, (putsW ws).length ≤ szW ws
  | [] => by simp [putsW]
  | s :: ws => by
    have := putsS_len s
    have := putsW_len ws
    simp only [putsW, szW, List.length_append]
    omega
end
mutual
theorem okS_re {U V : List Int} : ∀ (d : Nat) (s : Stp), okS U d s → (∀ n ∈ putsS s, n ∈ V) → okS V d s
  | d, .put n, h, k => by
    have : n ∈ V := k n (by simp [putsS])
    cases d <;> simpa [okS] using this
  | d, .take, h, k => by cases d <;> simp [okS]
  | 0, .times c ws, h, k => by simp [okS] at h
  | d + 1, .times c ws, h, k => by
    simp only [okS] at h ⊢
    exact ⟨h.1, h.2.1, okW_re d ws h.2.2 fun n hn => k n (by simp only [putsS]; exact (isort_perm _).mem_iff.mpr hn)⟩
theorem okW_re {U V : List Int} : ∀ (d : Nat) (ws : List Stp), okW U d ws → (∀ n ∈ putsW ws, n ∈ V) → okW V d ws
  | d, [], h, k => by simp [okW]
  | d, s :: ws, h, k => by
    simp only [okW] at h ⊢
    exact ⟨okS_re d s h.1 fun n hn => k n (by simp [putsW, hn]), okW_re d ws h.2 fun n hn => k n (by simp [putsW, hn])⟩
end
mutual
theorem putsS_U {U : List Int} : ∀ (d : Nat) (s : Stp), okS U d s → ∀ n ∈ putsS s, n ∈ U
  | d, .put k, h, n, hn => by
    have h1 : k ∈ U := by cases d <;> simpa [okS] using h
    have h2 : n = k := by simpa [putsS] using hn
    rw [h2]; exact h1
  | d, .take, h, n, hn => by simp [putsS] at hn
  | 0, .times c ws, h, _, _ => by simp [okS] at h
  | d + 1, .times c ws, h, n, hn => by
    simp only [okS] at h
    simp only [putsS] at hn
    exact putsW_U d ws h.2.2 n ((isort_perm _).mem_iff.mp hn)
theorem putsW_U {U : List Int} : ∀ (d : Nat) (ws : List Stp), okW U d ws → ∀ n ∈ putsW ws, n ∈ U
  | d, [], h, n, hn => by simp [putsW] at hn
  | d, s :: ws, h, n, hn => by
    simp only [okW] at h
    simp only [putsW, List.mem_append] at hn
    exact hn.elim (putsS_U d s h.1 n) (putsW_U d ws h.2 n)
end
theorem puts_fold : ∀ (ws : List Stp) (a : List Int), ws.foldl (fun a s => a ++ putsS s) a = a ++ putsW ws
  | [], a => by simp [putsW]
  | s :: ws, a => by simp [putsW, puts_fold ws]
/-! ### bars -/
def addK (ks : List Int) (n : Int) : List Int := if n ∈ ks then ks else ks ++ [n]
def dd (ns : List Int) : List Int := ns.foldl addK []
def bs (ns : List Int) : List Int := isort (dd ns)
abbrev kT (n : Int) : Key × D := (Sum.inl n, .bool true)
theorem putA_T (ks : List Int) (n : Int) : putA (ks.map kT) (Sum.inl n : Key) (.bool true) = (addK ks n).map kT := by
  unfold putA addK
  have h1 : ((ks.map kT).any fun kv => decide (kv.1 = (Sum.inl n : Key))) = decide (n ∈ ks) := by
    rw [List.any_map, Bool.eq_iff_iff]
    simp [Function.comp]
  rw [h1]
  by_cases h : n ∈ ks
  · rw [if_pos (by simpa using h), if_pos h, List.map_map]
    apply List.map_congr_left
    intro k _
    by_cases hk : k = n <;> simp [hk]
  · rw [if_neg (by simpa using h), if_neg h]
    simp
theorem mergeA_T (ks l : List Int) : mergeA (ks.map kT) (l.map kT) = (l.foldl addK ks).map kT := by
  unfold mergeA
  induction l generalizing ks with
  | nil => rfl
  | cons z l ih =>
    simp only [List.map_cons, List.foldl_cons]
    rw [putA_T]
    exact ih _
theorem addK_spec {ks : List Int} (nd : ks.Nodup) (n : Int) : (addK ks n).Nodup ∧ ∀ m, m ∈ addK ks n ↔ m ∈ ks ∨ m = n := by
  unfold addK
  split
  · rename_i h
    exact ⟨nd, fun m => ⟨.inl, fun h' => h'.elim id fun e => by rw [e]; exact h⟩⟩
  · rename_i h
    refine ⟨List.nodup_append.mpr ⟨nd, by simp, fun a ha b hb e => ?_⟩, fun m => by simp⟩
    have : b = n := by simpa using hb
    exact h (by rw [← this, ← e]; exact ha)
theorem dd_go : ∀ (ns ks : List Int), ks.Nodup → (ns.foldl addK ks).Nodup ∧ (∀ m, m ∈ ns.foldl addK ks ↔ m ∈ ks ∨ m ∈ ns) ∧ (ns.foldl addK ks).length ≤ ks.length + ns.length
  | [], ks, h => ⟨h, fun m => by simp, by simp⟩
  | n :: ns, ks, h => by
    obtain ⟨h1, h2⟩ := addK_spec h n
    obtain ⟨h3, h4, h5⟩ := dd_go ns (addK ks n) h1
    have : (addK ks n).length ≤ ks.length + 1 := by unfold addK; split <;> simp
    refine ⟨h3, fun m => ?_, by simp only [List.foldl_cons, List.length_cons]; omega⟩
    rw [List.foldl_cons, h4, h2, List.mem_cons]
    constructor
    · rintro ((h | h) | h)
      · exact .inl h
      · exact .inr (.inl h)
      · exact .inr (.inr h)
    · rintro (h | h | h)
      · exact .inl (.inl h)
      · exact .inl (.inr h)
      · exact .inr h
theorem bs_spec (ns : List Int) : (bs ns).Pairwise (· < ·) ∧ (∀ m, m ∈ bs ns ↔ m ∈ ns) ∧ (bs ns).length ≤ ns.length := by
  obtain ⟨h1, h2, h3⟩ := dd_go ns [] .nil
  have p := isort_perm (dd ns)
  have nd : (bs ns).Nodup := p.nodup_iff.mpr h1
  refine ⟨(isort_le (dd ns)).imp₂ (fun a b h k => ?_) nd, fun m => ?_, ?_⟩
  · have : a ≠ b := k
    omega
  · unfold bs
    rw [p.mem_iff]
    unfold dd
    rw [h2]
    simp
  · unfold bs
    rw [p.length_eq]
    simpa [dd] using h3
theorem pairsOf_T (l : List Int) : pairsOf (l.map fun n => .tuple [.int n, .bool true]) = some (l.map kT) := by
  induction l with
  | nil => rfl
  | cons z l ih => simp [pairsOf, keyK, ih]
theorem intKeys_T (l : List Int) : intKeys (l.map kT) = some l := by
  induction l with
  | nil => rfl
  | cons z l ih => simp [intKeys, ih]
/-! ### heaps from bars -/
def hstep (f : Hea × Int) (z : Int × Int) : Hea × Int := (if z.2 ≠ f.2 then f.1 ++ [(z.1, z.2 - f.2)] else f.1, z.2)
def heapOf (bars cs : List Int) : Hea := ((bars.zip cs).foldl hstep ([], 0)).1
theorem range_zip {σ : Type} (g : σ → Int × Int → σ) : ∀ (bars cs : List Int) (s : σ), bars.length = cs.length →
    (List.range bars.length).foldl (fun s i => g s (bars.getD i 0, cs.getD i 0)) s = (bars.zip cs).foldl g s
  | [], [], s, _ => rfl
  | [], _ :: _, _, h => by simp at h
  | _ :: _, [], _, h => by simp at h
  | b :: bars, c :: cs, s, h => by
    have ih := range_zip g bars cs (g s (b, c)) (by simpa using h)
    rw [List.length_cons, List.range_succ_eq_map, List.foldl_cons, List.foldl_map]
    simpa using ih
theorem rangeD_map (n : Nat) : rangeD 0 n = (List.range n).map fun i => (.int (i : Nat) : D) := by
  unfold rangeD
  apply List.map_congr_left
  intro i _
  simp
theorem atI_nat (l : List D) (i : Nat) : atI l (i : Int) = l[i]? := by
  unfold atI
  by_cases h : i < l.length
  · simp [ixN, h]
  · simp [ixN, h]
theorem ints_atI {l : List Int} {i : Nat} (h : i < l.length) : atI (l.map (.int : Int → D)) (i : Int) = some (.int (l.getD i 0)) := by
  rw [atI_nat, List.getElem?_map, List.getElem?_eq_getElem h, List.getD_eq_getElem?_getD, List.getElem?_eq_getElem h]
  rfl
theorem p62 : (2 : Int) ^ 62 = 4611686018427387904 := by decide +kernel
theorem range1_go {fa : S → Rz (List Rs)} {st st1 : S} {j : Int} (h : fa st = .ok [.d (.int j)] st1) (c1 : -(2 ^ 62) ≤ j ∧ j < 2 ^ 62) : fRange1 fa st = .ok (rangeD 0 j.toNat) st1 := by
  unfold fRange1
  rw [h]
  exact if_pos c1
theorem range_lim (n : Nat) (hn : n ≤ 1000000) : -(2 ^ 62) ≤ (n : Int) ∧ (n : Int) < 2 ^ 62 := by
  rw [p62]
  omega
theorem range1_ok {fa : S → Rz (List Rs)} {st st1 : S} {n : Nat} (h : fa st = .ok [.d (.int (n : Nat))] st1) (hn : n ≤ 1000000) : fRange1 fa st = .ok ((List.range n).map fun i => (.int (i : Nat) : D)) st1 := by
  rw [range1_go h (range_lim n hn), Int.toNat_natCast, rangeD_map]
theorem range_at {n i k : Nat} (e : (List.range n)[i]? = some k) : k < n ∧ k = i := by
  obtain ⟨h2, h3⟩ := List.getElem?_eq_some_iff.mp e
  have : i < n := by simpa using h2
  have e2 : i = k := by simpa using h3
  omega
theorem mk_ret {p n : Nat} {g : S → Rz Fl} {args fin : List Arg} {st0 st : S} {r r' : Rs} (hl : args.length = p) (hs : start0 n args = st0) (hg : g st0 = .ok (.rt r) st) (ho : ioOk args st.γ = true) (hr : st.res r = some r') (hf : finA args st.γ = fin) : mkF p n g args = .ret r' fin := by
  unfold mkF
  rw [if_pos hl]
  unfold bodyF
  rw [hs, hg]
  simp only [ho, if_true, hr, hf, noX]
/-! the mathematics of it -/
def recon (f : Int → Int) : Int → List Int → Hea
  | _, [] => []
  | v, x :: xs => if f x ≠ v then (x, f x - v) :: recon f (f x) xs else recon f (f x) xs
theorem recon_cons (f : Int → Int) (v x : Int) (xs : List Int) : recon f v (x :: xs) = if f x ≠ v then (x, f x - v) :: recon f (f x) xs else recon f (f x) xs := rfl
theorem recon_fold (f : Int → Int) : ∀ (xs : List Int) (h : Hea) (v : Int), ((xs.zip (xs.map f)).foldl hstep (h, v)).1 = h ++ recon f v xs
  | [], h, v => by simp [recon]
  | x :: xs, h, v => by
    rw [List.map_cons, List.zip_cons_cons, List.foldl_cons]
    show ((xs.zip (xs.map f)).foldl hstep (if f x ≠ v then h ++ [(x, f x - v)] else h, f x)).1 = _
    rw [recon_fold f xs, recon_cons]
    split <;> simp
theorem recon_congr {f g : Int → Int} : ∀ {xs : List Int} {v : Int}, (∀ x ∈ xs, f x = g x) → recon f v xs = recon g v xs
  | [], _, _ => rfl
  | x :: xs, v, h => by
    rw [recon_cons, recon_cons, h x (List.mem_cons_self ..), recon_congr fun y hy => h y (List.mem_cons_of_mem _ hy)]
theorem recon_eq : ∀ (xs : List Int) (h : Hea) (c : Int), xs.Pairwise (· < ·) → Gd h → (∀ y ∈ h, y.1 ∈ xs) → recon (fun x => c + Bar h x) c xs = h
  | [], h, c, _, _, m => by
    cases h with
    | nil => rfl
    | cons z h => exact absurd (m z (List.mem_cons_self ..)) (by simp)
  | x :: xs, h, c, s, g, m => by
    obtain ⟨s1, s2⟩ := List.pairwise_cons.mp s
    cases h with
    | nil =>
      have ih := recon_eq xs [] c s2 .nil fun _ h => (nomatch h)
      rw [recon_cons]
      simp only [Bar_nil, Int.add_zero, ne_eq, not_true, if_false] at ih ⊢
      exact ih
    | cons z h =>
      have hz := g.head
      by_cases e : z.1 = x
      · have b : Bar (z :: h) x = z.2 := by
          rw [Bar_cons, if_pos (by omega), Bar_low fun y hy => by have := hz.1 y hy; omega]
          omega
        rw [recon_cons]
        simp only [b]
        rw [if_pos (by omega)]
        have ih := recon_eq xs h (c + z.2) s2 g.tail fun y hy => by
          have h1 := m y (List.mem_cons_of_mem _ hy)
          have h2 := hz.1 y hy
          rcases List.mem_cons.mp h1 with h3 | h3
          · omega
          · exact h3
        have e2 : recon (fun x => c + Bar (z :: h) x) (c + z.2) xs = recon (fun x => c + z.2 + Bar h x) (c + z.2) xs := recon_congr fun y hy => by
          have := s1 y hy
          rw [Bar_cons, if_pos (by omega)]
          omega
        rw [e2, ih]
        have : (x, c + z.2 - c) = z := Prod.ext e.symm (by simp; omega)
        rw [this]
      · have hx : ∀ y ∈ z :: h, x < y.1 := fun y hy => by
          have h1 := m z (List.mem_cons_self ..)
          rcases List.mem_cons.mp h1 with h3 | h3
          · exact absurd h3 e
          · have := s1 z.1 h3
            rcases List.mem_cons.mp hy with rfl | hy
            · exact this
            · have := hz.1 y hy; omega
        have b : Bar (z :: h) x = 0 := Bar_low hx
        have ih := recon_eq xs (z :: h) c s2 g fun y hy => by
          have h1 := m y hy
          have h2 := hx y hy
          rcases List.mem_cons.mp h1 with h3 | h3
          · omega
          · exact h3
        rw [recon_cons]
        simp only [b, Int.add_zero, ne_eq, not_true, if_false]
        exact ih
theorem heapOf_bars {h : Hea} {xs : List Int} (s : xs.Pairwise (· < ·)) (g : Gd h) (m : ∀ y ∈ h, y.1 ∈ xs) : heapOf xs (xs.map (Bar h)) = h := by
  unfold heapOf
  rw [recon_fold]
  have := recon_eq xs h 0 s g m
  simp only [Int.zero_add] at this
  simpa using this
theorem seq_nx {f g : S → Rz Fl} {st st1 : S} (h : f st = .ok .nx st1) : fSeq f g st = g st1 := by
  unfold fSeq
  rw [h]
theorem asg_N {i : Nat} {f : S → Rz Rs} {st st1 : S} {m : M} (h : f st = .ok (.own m) st1) (hi : i < st1.δ.length) : fAsg (gN i) f st = .ok .nx { st1 with δ := st1.δ.set i (some (.own m)) } := by
  unfold fAsg
  rw [h]
  simp only [Rz.bind, gN, if_pos hi]
theorem asg_ok {t : Rs → S → Option S} {f : S → Rz Rs} {st st1 st2 : S} {r : Rs} (h : f st = .ok r st1) (hg : t r st1 = some st2) : fAsg t f st = .ok .nx st2 := by
  unfold fAsg
  rw [h]
  simp only [Rz.bind, hg]
abbrev eb (ws : List Stp) (x : Int) : Int × Int := barW x (0, 0) ws
abbrev lkf (ws : List Stp) (x : Int) : Int := (eb ws x).2 - (eb ws x).1
abbrev gOut (ws : List Stp) (x : Int) : Int := -(lkf ws x)
def outOf (ws : List Stp) (X : List Int) : Hea := ((X.zip (X.map (gOut ws))).foldl hstep ([], gOut ws (-5000))).1
def lastL (ws : List Stp) (X : List Int) : Int := lkf ws ((-5000 :: X).getD X.length 0)
theorem cut_one (p : D) (l : List D) : cutD (p :: l) (some 1) none = l := by
  unfold cutD
  rw [show HT.sIx (p :: l).length 0 (some 1) = min 1 (p :: l).length from HT.sIx_nat (p :: l).length 0 1, HT.sIx_none]
  simp
theorem last_at (ws : List Stp) (X : List Int) : atI ((-5000 :: X).map fun x => (.int (lkf ws x) : D)) (-1) = some (.int (lastL ws X)) := by
  unfold atI lastL
  have e : ixN ((-5000 :: X).map fun x => (.int (lkf ws x) : D)).length (-1) = some X.length := by
    simp [ixN]
    omega
  rw [e]
  show ((-5000 :: X).map fun x => (.int (lkf ws x) : D))[X.length]? = _
  rw [List.getElem?_map, List.getElem?_eq_getElem (by simp), List.getD_eq_getElem?_getD, List.getElem?_eq_getElem (by simp)]
  rfl
abbrev tupE (ws : List Stp) (x : Int) : D := .tuple [.int (eb ws x).1, .int (eb ws x).2]
theorem last_ge : ∀ (X : List Int) (p : Int), (p :: X).Pairwise (· < ·) → p ≤ (p :: X).getD X.length 0 ∧ ∀ y ∈ X, y ≤ (p :: X).getD X.length 0
  | [], p, _ => ⟨Int.le_refl _, fun _ h => (nomatch h)⟩
  | x :: X, p, h => by
    obtain ⟨h1, h2⟩ := List.pairwise_cons.mp h
    obtain ⟨a, b⟩ := last_ge X x h2
    have e : (p :: x :: X).getD (x :: X).length 0 = (x :: X).getD X.length 0 := rfl
    rw [e]
    have := h1 x (List.mem_cons_self ..)
    refine ⟨by omega, fun y hy => ?_⟩
    rcases List.mem_cons.mp hy with rfl | hy
    · exact a
    · exact b y hy
/-- what the program tells is what the law tells -/
theorem three_same {U : List Int} (p : Put U) (d : Nat) (ws : List Stp) (h : okW U d ws) (X : List Int) (hX : X = bs (isort (putsW ws))) :
    (heapOf X (X.map fun x => (eb ws x).2), outOf ws X, lastL ws X) = thrW ([], [], 0) ws := by
  have hV : okW (putsW ws) d ws := okW_re d ws h fun n hn => hn
  obtain ⟨g, hb⟩ := thrW_ok d ws ([], [], 0) hV none_gd
  obtain ⟨x1, x2, _⟩ := bs_spec (isort (putsW ws))
  rw [← hX] at x1 x2
  have mem : ∀ n ∈ putsW ws, n ∈ X := fun n hn => (x2 n).mpr ((isort_perm _).mem_iff.mpr hn)
  have memU : ∀ n ∈ X, n ∈ U := fun n hn => putsW_U d ws h n ((isort_perm _).mem_iff.mp ((x2 n).mp hn))
  have z1 : ∀ x, Bar (([], [], 0) : Thr).1 x = 0 := fun _ => rfl
  have z2 : ∀ x, bal (([], [], 0) : Thr) x = 0 := fun x => by simp [bal, lack, Bar, sumC]
  have hb1 : ∀ x, (eb ws x).2 = Bar (thrW ([], [], 0) ws).1 x := fun x => by have := (hb x).1; rw [z1, z2] at this; exact this.symm
  have hb2 : ∀ x, (eb ws x).1 = bal (thrW ([], [], 0) ws) x := fun x => by have := (hb x).2; rw [z1, z2] at this; exact this.symm
  generalize thrW ([], [], 0) ws = t at *
  have hl : ∀ x, lkf ws x = lack t x := fun x => by unfold lkf; rw [hb1, hb2]; unfold bal; omega
  have e1 : heapOf X (X.map fun x => (eb ws x).2) = t.1 := by
    have : (X.map fun x => (eb ws x).2) = X.map (Bar t.1) := List.map_congr_left fun x _ => hb1 x
    rw [this]
    exact heapOf_bars x1 g.l fun y hy => mem _ (g.lU y hy)
  have low : Bar t.2.1 (-5000) = 0 := Bar_low fun y hy => by
    have := p _ (memU _ (mem _ (g.oU y hy)))
    omega
  have eg : gOut ws = fun x => -(t.2.2 + sumC t.2.1) + Bar t.2.1 x := by
    funext x
    unfold gOut
    rw [hl]
    unfold lack
    omega
  have e2 : outOf ws X = t.2.1 := by
    unfold outOf
    rw [recon_fold, eg]
    simp only [low, Int.add_zero, List.nil_append]
    exact recon_eq X t.2.1 _ x1 g.o fun y hy => mem _ (g.oU y hy)
  have e3 : lastL ws X = t.2.2 := by
    unfold lastL
    rw [hl]
    have hs : ((-5000 : Int) :: X).Pairwise (· < ·) := List.pairwise_cons.mpr ⟨fun y hy => by have := p _ (memU y hy); omega, x1⟩
    obtain ⟨_, hge⟩ := last_ge X (-5000) hs
    unfold lack
    rw [Bar_high fun y hy => hge _ (mem _ (g.oU y hy))]
    omega
  rw [e1, e2, e3]
/-! ### alike -/
def fits : Nat → D → Prop
  | 0, _ => False
  | _ + 1, .int _ => True
  | _ + 1, .bool _ => True
  | _ + 1, .str _ => True
  | _ + 1, .none => True
  | n + 1, .tuple xs => xs.length ≤ 1000000 ∧ ∀ x ∈ xs, fits n x
  | _ + 1, _ => False
theorem eqvB (a b : Bool) : PyData.eqv (.bool a) (.bool b) = decide (a = b) := by rw [Bool.eq_iff_iff]; simp [PyData.eqv]
theorem eqvN : PyData.eqv .none .none = true := by simp [PyData.eqv]
theorem eqvL : PyData.eqv (.list []) (.list []) = true := by simp [PyData.eqv, PyData.eqvAll]
theorem depL : (PyData.list []).depth ≤ 60 := by simp [PyData.depth, PyData.depthAll]
theorem fm_none {α β : Type} (l : List α) : l.filterMap (fun _ => (none : Option β)) = [] := by
  induction l with
  | nil => rfl
  | cons a l ih => simp [ih]
theorem seq_rt {f g : S → Rz Fl} {st st1 : S} {r : Rs} (h : f st = .ok (.rt r) st1) : fSeq f g st = .ok (.rt r) st1 := by
  unfold fSeq
  rw [h]
theorem ifS_t {ft : S → Rz Bool} {f g : S → Rz Fl} {st st1 : S} (h : ft st = .ok true st1) : fIfS ft f g st = f st1 := by
  unfold fIfS
  rw [h]
  rfl
theorem bin_ok {g : S → Rs → Rs → Option Rs} {fa fb : S → Rz Rs} {st st1 st2 : S} {x y z : Rs} (h1 : fa st = .ok x st1) (h2 : fb st1 = .ok y st2) (h3 : g st2 x y = some z) : fBin g fa fb st = .ok z st2 := by
  unfold fBin
  rw [h1]
  simp only [Rz.bind, h2, h3]
theorem ret_ok {f : S → Rz Rs} {st st1 : S} {r : Rs} (h : f st = .ok r st1) : fRet f st = .ok (.rt r) st1 := by
  unfold fRet
  rw [h]
  rfl
/-! ### dice -/
abbrev dc (ns : List Int) (p : Nat) (m r : Int) : M := .lst [.list (ns.map .int), .int (p : Nat), .int m, .int r]
def Dok (d : M) : Prop := ∃ ns p m r, d = dc ns p m r ∧ 0 ≤ m ∧ m < 2147483647 ∧ 0 ≤ r
theorem at4_0 (a b c d : D) : atI [a, b, c, d] (0 : Int) = some a := rfl
theorem at4_1 (a b c d : D) : atI [a, b, c, d] (1 : Int) = some b := rfl
theorem at4_2 (a b c d : D) : atI [a, b, c, d] (2 : Int) = some c := rfl
theorem at4_3 (a b c d : D) : atI [a, b, c, d] (3 : Int) = some d := rfl
theorem next_ev {d : M} (hd : Dok d) (many : Int) (h0 : 0 < many) (h1 : many < 18446744073709551616) : ∃ v d', (0 ≤ v ∧ v < many) ∧ Dok d' ∧ F__law_next [.io d, .d (.int many)] = .ret (.d (.int v)) [.io d', .d (.int many)] := by
  obtain ⟨ns, p, m, r, rfl, m0, m1, r0⟩ := hd
  have hm : ∀ x : Int, 0 ≤ x % many ∧ x % many < many := fun x => ⟨Int.emod_nonneg x (by omega), Int.emod_lt_of_pos x h0⟩
  by_cases hr : 0 < r
  · refine ⟨r % many, dc ns p m (r / many), hm r, ⟨ns, p, m, r / many, rfl, m0, m1, Int.ediv_nonneg r0 (by omega)⟩, ?_⟩
    simp [F__law_next, c__law_next, fSeq, fAsg, fCall, fCons, fNil, fVar, fAug, fExpr, fExtend, fBin, fC, fIf, fIfS, fRet, fRetN, fNext, fTest, fAnd, fOr, fNot, fAndV, fOrV, fNotV, fOfT, fChain, fNeg, fPar, fParT, fMut, fSetIx, fDPut, fDGet, fDGet2, fDAug, fDNew, fCallF, fSl, fPart, fNoPart, gSl, gN, gT, gL, gsName, gsNil, gsCons, isVar, Rz.bind, gOrC, gMin2, gMax2, gLen, gLenS, gLenD, gInt, gAbs, gTuple, gList, gDict, gOr, gI, gAddT, gAddL, gAddS, gRepL, gEqN, gInN, gIsN, nonB, S.toD, gIx, gIxS, S.seq, S.lst, S.der, S.mlst, S.get, S.put, S.res, S.tgt, mkArgs, mkArg, apartB, owEq, back, gAppend, gPop, gPopAt, tyM, gLst, gTup, allD, fExtend.isSelf, Option.or, sizeLine_eq, encP, isiR, isiD, isL, fIsi, fSortIt, noX, mkF, bodyF, start0, slots0, slot0, ioM, ioOk, finA, eqvI, eqvS, depI, depS, depB, depN, mGetK, mPutK, keyK, isDK, s_tp, s_tm, s_pt, s_pm, s_mp, s_mt, fRev, fSortSet, fCount, fFrz, fSortTup, fIndex, isT, gIdx, gCount, gRemove, gRepT, atI, ixN, hr, h0, h1]
  · by_cases hp : p + 1 ≤ ns.length
    · have hp' : (p : Int) + 1 ≤ (ns.length : Int) := by omega
      have ha := ints_atI (l := ns) (i := p) (by omega)
      generalize ns.getD p 0 = x at *
      by_cases hx : 1000000000000000000 ≤ x
      · refine ⟨x % many, dc ns (p + 1) m (x / many), hm x, ⟨ns, p + 1, m, x / many, rfl, m0, m1, Int.ediv_nonneg (by omega) (by omega)⟩, ?_⟩
        simp [F__law_next, c__law_next, fSeq, fAsg, fCall, fCons, fNil, fVar, fAug, fExpr, fExtend, fBin, fC, fIf, fIfS, fRet, fRetN, fNext, fTest, fAnd, fOr, fNot, fAndV, fOrV, fNotV, fOfT, fChain, fNeg, fPar, fParT, fMut, fSetIx, fDPut, fDGet, fDGet2, fDAug, fDNew, fCallF, fSl, fPart, fNoPart, gSl, gN, gT, gL, gsName, gsNil, gsCons, isVar, Rz.bind, gOrC, gMin2, gMax2, gLen, gLenS, gLenD, gInt, gAbs, gTuple, gList, gDict, gOr, gI, gAddT, gAddL, gAddS, gRepL, gEqN, gInN, gIsN, nonB, S.toD, gIx, gIxS, S.seq, S.lst, S.der, S.mlst, S.get, S.put, S.res, S.tgt, mkArgs, mkArg, apartB, owEq, back, gAppend, gPop, gPopAt, tyM, gLst, gTup, allD, fExtend.isSelf, Option.or, sizeLine_eq, encP, isiR, isiD, isL, fIsi, fSortIt, noX, mkF, bodyF, start0, slots0, slot0, ioM, ioOk, finA, eqvI, eqvS, depI, depS, depB, depN, mGetK, mPutK, keyK, isDK, s_tp, s_tm, s_pt, s_pm, s_mp, s_mt, fRev, fSortSet, fCount, fFrz, fSortTup, fIndex, isT, gIdx, gCount, gRemove, gRepT, ixN, at4_0, at4_1, at4_2, at4_3, hr, h0, h1, hp', ha, hx]
      · refine ⟨x % many, dc ns (p + 1) m 0, hm x, ⟨ns, p + 1, m, 0, rfl, m0, m1, Int.le_refl _⟩, ?_⟩
        simp [F__law_next, c__law_next, fSeq, fAsg, fCall, fCons, fNil, fVar, fAug, fExpr, fExtend, fBin, fC, fIf, fIfS, fRet, fRetN, fNext, fTest, fAnd, fOr, fNot, fAndV, fOrV, fNotV, fOfT, fChain, fNeg, fPar, fParT, fMut, fSetIx, fDPut, fDGet, fDGet2, fDAug, fDNew, fCallF, fSl, fPart, fNoPart, gSl, gN, gT, gL, gsName, gsNil, gsCons, isVar, Rz.bind, gOrC, gMin2, gMax2, gLen, gLenS, gLenD, gInt, gAbs, gTuple, gList, gDict, gOr, gI, gAddT, gAddL, gAddS, gRepL, gEqN, gInN, gIsN, nonB, S.toD, gIx, gIxS, S.seq, S.lst, S.der, S.mlst, S.get, S.put, S.res, S.tgt, mkArgs, mkArg, apartB, owEq, back, gAppend, gPop, gPopAt, tyM, gLst, gTup, allD, fExtend.isSelf, Option.or, sizeLine_eq, encP, isiR, isiD, isL, fIsi, fSortIt, noX, mkF, bodyF, start0, slots0, slot0, ioM, ioOk, finA, eqvI, eqvS, depI, depS, depB, depN, mGetK, mPutK, keyK, isDK, s_tp, s_tm, s_pt, s_pm, s_mp, s_mt, fRev, fSortSet, fCount, fFrz, fSortTup, fIndex, isT, gIdx, gCount, gRemove, gRepT, ixN, at4_0, at4_1, at4_2, at4_3, hr, h0, h1, hp', ha, hx]
    · have hp' : ¬ (p : Int) + 1 ≤ (ns.length : Int) := by omega
      refine ⟨(m * 48271 % 2147483647) / 7 % many, dc ns (p + 1) (m * 48271 % 2147483647) r, hm _, ⟨ns, p + 1, _, r, rfl, Int.emod_nonneg _ (by omega), Int.emod_lt_of_pos _ (by omega), r0⟩, ?_⟩
      simp [F__law_next, c__law_next, fSeq, fAsg, fCall, fCons, fNil, fVar, fAug, fExpr, fExtend, fBin, fC, fIf, fIfS, fRet, fRetN, fNext, fTest, fAnd, fOr, fNot, fAndV, fOrV, fNotV, fOfT, fChain, fNeg, fPar, fParT, fMut, fSetIx, fDPut, fDGet, fDGet2, fDAug, fDNew, fCallF, fSl, fPart, fNoPart, gSl, gN, gT, gL, gsName, gsNil, gsCons, isVar, Rz.bind, gOrC, gMin2, gMax2, gLen, gLenS, gLenD, gInt, gAbs, gTuple, gList, gDict, gOr, gI, gAddT, gAddL, gAddS, gRepL, gEqN, gInN, gIsN, nonB, S.toD, gIx, gIxS, S.seq, S.lst, S.der, S.mlst, S.get, S.put, S.res, S.tgt, mkArgs, mkArg, apartB, owEq, back, gAppend, gPop, gPopAt, tyM, gLst, gTup, allD, fExtend.isSelf, Option.or, sizeLine_eq, encP, isiR, isiD, isL, fIsi, fSortIt, noX, mkF, bodyF, start0, slots0, slot0, ioM, ioOk, finA, eqvI, eqvS, depI, depS, depB, depN, mGetK, mPutK, keyK, isDK, s_tp, s_tm, s_pt, s_pm, s_mp, s_mt, fRev, fSortSet, fCount, fFrz, fSortTup, fIndex, isT, gIdx, gCount, gRemove, gRepT, atI, ixN, hr, h0, h1, hp']
theorem next_call {d : M} (hd : Dok d) (many : Int) (h0 : 0 < many) (h1 : many < 18446744073709551616) : ∃ v d', (0 ≤ v ∧ v < many) ∧ Dok d' ∧ ∀ (δ : List (Option R)) (γ : List (Option M)),
    fCallF F__law_next [.w, .r] (fCons (fVar 0) (fCons (fC (.int many)) fNil)) ⟨some (.io 0) :: δ, some d :: γ⟩ = .ok (.d (.int v)) ⟨some (.io 0) :: δ, some d' :: γ⟩ := by
  obtain ⟨v, d', h2, h3, h4⟩ := next_ev hd many h0 h1
  refine ⟨v, d', h2, h3, fun δ γ => ?_⟩
  simp [fSeq, fAsg, fCall, fCons, fNil, fVar, fAug, fExpr, fExtend, fBin, fC, fIf, fIfS, fRet, fRetN, fNext, fTest, fAnd, fOr, fNot, fAndV, fOrV, fNotV, fOfT, fChain, fNeg, fPar, fParT, fMut, fSetIx, fDPut, fDGet, fDGet2, fDAug, fDNew, fCallF, fSl, fPart, fNoPart, gSl, gN, gT, gL, gsName, gsNil, gsCons, isVar, Rz.bind, gOrC, gMin2, gMax2, gLen, gLenS, gLenD, gInt, gAbs, gTuple, gList, gDict, gOr, gI, gAddT, gAddL, gAddS, gRepL, gEqN, gInN, gIsN, nonB, S.toD, gIx, gIxS, S.seq, S.lst, S.der, S.mlst, S.get, S.put, S.res, S.tgt, mkArgs, mkArg, apartB, owEq, back, gAppend, gPop, gPopAt, tyM, gLst, gTup, allD, fExtend.isSelf, Option.or, sizeLine_eq, encP, isiR, isiD, isL, fIsi, fSortIt, noX, mkF, bodyF, start0, slots0, slot0, ioM, ioOk, finA, eqvI, eqvS, depI, depS, depB, depN, mGetK, mPutK, keyK, isDK, s_tp, s_tm, s_pt, s_pm, s_mp, s_mt, fRev, fSortSet, fCount, fFrz, fSortTup, fIndex, isT, gIdx, gCount, gRemove, gRepT, h4]
theorem number_ev {d : M} (hd : Dok d) : ∃ v d', (-999 ≤ v ∧ v ≤ 999) ∧ Dok d' ∧ F__law_number [.io d] = .ret (.d (.int v)) [.io d'] := by
  obtain ⟨v1, d1, b1, k1, e1⟩ := next_call hd 5 (by omega) (by omega)
  obtain ⟨v2, d2, b2, k2, e2⟩ := next_call k1 9 (by omega) (by omega)
  obtain ⟨v3, d3, b3, k3, e3⟩ := next_call k2 1999 (by omega) (by omega)
  obtain ⟨v4, d4, b4, k4, e4⟩ := next_call k3 5 (by omega) (by omega)
  have hc : v4 / 2 = 0 ∨ v4 / 2 = 1 ∨ v4 / 2 = 2 := by omega
  rcases hc with hc | hc | hc
  · exact ⟨v1 - 2, d4, by omega, k4, by simp [F__law_number, c__law_number, fSeq, fAsg, fCall, fCons, fNil, fVar, fAug, fExpr, fExtend, fBin, fC, fIf, fIfS, fRet, fRetN, fNext, fTest, fAnd, fOr, fNot, fAndV, fOrV, fNotV, fOfT, fChain, fNeg, fPar, fParT, fMut, fSetIx, fDPut, fDGet, fDGet2, fDAug, fDNew, fSl, fPart, fNoPart, gSl, gN, gT, gL, gsName, gsNil, gsCons, isVar, Rz.bind, gOrC, gMin2, gMax2, gLen, gLenS, gLenD, gInt, gAbs, gTuple, gList, gDict, gOr, gI, gAddT, gAddL, gAddS, gRepL, gEqN, gInN, gIsN, nonB, S.toD, gIx, gIxS, S.seq, S.lst, S.der, S.mlst, S.get, S.put, S.res, S.tgt, mkArgs, mkArg, apartB, owEq, back, gAppend, gPop, gPopAt, tyM, gLst, gTup, allD, fExtend.isSelf, Option.or, sizeLine_eq, encP, isiR, isiD, isL, fIsi, fSortIt, noX, mkF, bodyF, start0, slots0, slot0, ioM, ioOk, finA, eqvI, eqvS, depI, depS, depB, depN, mGetK, mPutK, keyK, isDK, s_tp, s_tm, s_pt, s_pm, s_mp, s_mt, fRev, fSortSet, fCount, fFrz, fSortTup, fIndex, isT, gIdx, gCount, gRemove, gRepT, e1, e2, e3, e4, hc, atI, ixN]⟩
  · exact ⟨v2 - 4, d4, by omega, k4, by simp [F__law_number, c__law_number, fSeq, fAsg, fCall, fCons, fNil, fVar, fAug, fExpr, fExtend, fBin, fC, fIf, fIfS, fRet, fRetN, fNext, fTest, fAnd, fOr, fNot, fAndV, fOrV, fNotV, fOfT, fChain, fNeg, fPar, fParT, fMut, fSetIx, fDPut, fDGet, fDGet2, fDAug, fDNew, fSl, fPart, fNoPart, gSl, gN, gT, gL, gsName, gsNil, gsCons, isVar, Rz.bind, gOrC, gMin2, gMax2, gLen, gLenS, gLenD, gInt, gAbs, gTuple, gList, gDict, gOr, gI, gAddT, gAddL, gAddS, gRepL, gEqN, gInN, gIsN, nonB, S.toD, gIx, gIxS, S.seq, S.lst, S.der, S.mlst, S.get, S.put, S.res, S.tgt, mkArgs, mkArg, apartB, owEq, back, gAppend, gPop, gPopAt, tyM, gLst, gTup, allD, fExtend.isSelf, Option.or, sizeLine_eq, encP, isiR, isiD, isL, fIsi, fSortIt, noX, mkF, bodyF, start0, slots0, slot0, ioM, ioOk, finA, eqvI, eqvS, depI, depS, depB, depN, mGetK, mPutK, keyK, isDK, s_tp, s_tm, s_pt, s_pm, s_mp, s_mt, fRev, fSortSet, fCount, fFrz, fSortTup, fIndex, isT, gIdx, gCount, gRemove, gRepT, e1, e2, e3, e4, hc, atI, ixN]⟩
  · exact ⟨v3 - 999, d4, by omega, k4, by simp [F__law_number, c__law_number, fSeq, fAsg, fCall, fCons, fNil, fVar, fAug, fExpr, fExtend, fBin, fC, fIf, fIfS, fRet, fRetN, fNext, fTest, fAnd, fOr, fNot, fAndV, fOrV, fNotV, fOfT, fChain, fNeg, fPar, fParT, fMut, fSetIx, fDPut, fDGet, fDGet2, fDAug, fDNew, fSl, fPart, fNoPart, gSl, gN, gT, gL, gsName, gsNil, gsCons, isVar, Rz.bind, gOrC, gMin2, gMax2, gLen, gLenS, gLenD, gInt, gAbs, gTuple, gList, gDict, gOr, gI, gAddT, gAddL, gAddS, gRepL, gEqN, gInN, gIsN, nonB, S.toD, gIx, gIxS, S.seq, S.lst, S.der, S.mlst, S.get, S.put, S.res, S.tgt, mkArgs, mkArg, apartB, owEq, back, gAppend, gPop, gPopAt, tyM, gLst, gTup, allD, fExtend.isSelf, Option.or, sizeLine_eq, encP, isiR, isiD, isL, fIsi, fSortIt, noX, mkF, bodyF, start0, slots0, slot0, ioM, ioOk, finA, eqvI, eqvS, depI, depS, depB, depN, mGetK, mPutK, keyK, isDK, s_tp, s_tm, s_pt, s_pm, s_mp, s_mt, fRev, fSortSet, fCount, fFrz, fSortTup, fIndex, isT, gIdx, gCount, gRemove, gRepT, e1, e2, e3, e4, hc, atI, ixN]⟩
def U0 : List Int := (List.range 1999).map fun (i : Nat) => (i : Int) - 999
theorem U0_mem (n : Int) : n ∈ U0 ↔ -999 ≤ n ∧ n ≤ 999 := by
  unfold U0
  rw [List.mem_map]
  constructor
  · rintro ⟨i, hi, rfl⟩
    have := List.mem_range.mp hi
    omega
  · intro h
    exact ⟨(n + 999).toNat, List.mem_range.mpr (by omega), by omega⟩
theorem U0_put : Put U0 := fun n h => (U0_mem n).mp h
theorem okW_app {U : List Int} {d : Nat} {s : Stp} : ∀ {ws : List Stp}, okW U d ws → okS U d s → okW U d (ws ++ [s])
  | [], _, h => by simp [okW, h]
  | w :: ws, h, hs => by
    simp only [okW] at h
    simp only [List.cons_append, okW]
    exact ⟨h.1, okW_app h.2 hs⟩
theorem szW_app (s : Stp) : ∀ ws : List Stp, szW (ws ++ [s]) = szW ws + szS s
  | [] => by simp [szW]
  | w :: ws => by simp only [List.cons_append, szW, szW_app s ws]; omega
theorem wsD_app (ws : List Stp) (s : Stp) : wsD (ws ++ [s]) = wsD ws ++ [sD s] := by rw [wsD_map, wsD_map]; simp
theorem number_call {d : M} (hd : Dok d) : ∃ v d', (-999 ≤ v ∧ v ≤ 999) ∧ Dok d' ∧ ∀ (δ : List (Option R)) (γ : List (Option M)),
    fCallF F__law_number [.w] (fCons (fVar 0) fNil) ⟨some (.io 0) :: δ, some d :: γ⟩ = .ok (.d (.int v)) ⟨some (.io 0) :: δ, some d' :: γ⟩ := by
  obtain ⟨v, d', h2, h3, h4⟩ := number_ev hd
  refine ⟨v, d', h2, h3, fun δ γ => ?_⟩
  simp [fSeq, fAsg, fCall, fCons, fNil, fVar, fAug, fExpr, fExtend, fBin, fC, fIf, fIfS, fRet, fRetN, fNext, fTest, fAnd, fOr, fNot, fAndV, fOrV, fNotV, fOfT, fChain, fNeg, fPar, fParT, fMut, fSetIx, fDPut, fDGet, fDGet2, fDAug, fDNew, fCallF, fSl, fPart, fNoPart, gSl, gN, gT, gL, gsName, gsNil, gsCons, isVar, Rz.bind, gOrC, gMin2, gMax2, gLen, gLenS, gLenD, gInt, gAbs, gTuple, gList, gDict, gOr, gI, gAddT, gAddL, gAddS, gRepL, gEqN, gInN, gIsN, nonB, S.toD, gIx, gIxS, S.seq, S.lst, S.der, S.mlst, S.get, S.put, S.res, S.tgt, mkArgs, mkArg, apartB, owEq, back, gAppend, gPop, gPopAt, tyM, gLst, gTup, allD, fExtend.isSelf, Option.or, sizeLine_eq, encP, isiR, isiD, isL, fIsi, fSortIt, noX, mkF, bodyF, start0, slots0, slot0, ioM, ioOk, finA, eqvI, eqvS, depI, depS, depB, depN, mGetK, mPutK, keyK, isDK, s_tp, s_tm, s_pt, s_pm, s_mp, s_mt, fRev, fSortSet, fCount, fFrz, fSortTup, fIndex, isT, gIdx, gCount, gRemove, gRepT, h4]
abbrev stS (deep : Int) (d : M) (ws : List Stp) (k : Int) (v4 v5 v6 : Option R) : S := ⟨[some (.io 0), some (.io 1), some (.d (.int deep)), some (.own (.lst (wsD ws))), v4, v5, v6], [some d, some (.lst [.int k]), none]⟩
def Steps (n : Nat) (F : List Arg → Out) (deep : Int) : Prop := ∀ (d : M) (k : Int), Dok d → 0 ≤ k → k ≤ 1000 → ∃ ws d' k', Dok d' ∧ 0 ≤ k' ∧ okW U0 n ws ∧ (szW ws : Int) + k' ≤ k ∧
  F [.io d, .io (.lst [.int k]), .d (.int deep)] = .ret (.d (wD ws)) [.io d', .io (.lst [.int k']), .d (.int deep)]
theorem steps_call {n : Nat} {F : List Arg → Out} {deep : Int} (h : Steps n F (deep + 1)) {d : M} {k : Int} (hd : Dok d) (h0 : 0 ≤ k) (h1 : k ≤ 1000) : ∃ ws d' k', Dok d' ∧ 0 ≤ k' ∧ okW U0 n ws ∧ (szW ws : Int) + k' ≤ k ∧ ∀ (δ : List (Option R)) (γ : List (Option M)),
    fCallF F [.w, .w, .r] (fCons (fVar 0) (fCons (fVar 1) (fCons (fBin gAdd (fVar 2) (fC (.int 1))) fNil))) ⟨some (.io 0) :: some (.io 1) :: some (.d (.int deep)) :: δ, some d :: some (.lst [.int k]) :: γ⟩ = .ok (.d (wD ws)) ⟨some (.io 0) :: some (.io 1) :: some (.d (.int deep)) :: δ, some d' :: some (.lst [.int k']) :: γ⟩ := by
  obtain ⟨ws, d', k', h2, h3, h4, h5, h6⟩ := h d k hd h0 h1
  refine ⟨ws, d', k', h2, h3, h4, h5, fun δ γ => ?_⟩
  generalize wD ws = w at *
  simp [fSeq, fAsg, fCall, fCons, fNil, fVar, fAug, fExpr, fExtend, fBin, fC, fIf, fIfS, fRet, fRetN, fNext, fTest, fAnd, fOr, fNot, fAndV, fOrV, fNotV, fOfT, fChain, fNeg, fPar, fParT, fMut, fSetIx, fDPut, fDGet, fDGet2, fDAug, fDNew, fCallF, fSl, fPart, fNoPart, gSl, gN, gT, gL, gsName, gsNil, gsCons, isVar, Rz.bind, gOrC, gMin2, gMax2, gLen, gLenS, gLenD, gInt, gAbs, gTuple, gList, gDict, gOr, gI, gAddT, gAddL, gAddS, gRepL, gEqN, gInN, gIsN, nonB, S.toD, gIx, gIxS, S.seq, S.lst, S.der, S.mlst, S.get, S.put, S.res, S.tgt, mkArgs, mkArg, apartB, owEq, back, gAppend, gPop, gPopAt, tyM, gLst, gTup, allD, fExtend.isSelf, Option.or, sizeLine_eq, encP, isiR, isiD, isL, fIsi, fSortIt, noX, mkF, bodyF, start0, slots0, slot0, ioM, ioOk, finA, eqvI, eqvS, depI, depS, depB, depN, mGetK, mPutK, keyK, isDK, s_tp, s_tm, s_pt, s_pm, s_mp, s_mt, fRev, fSortSet, fCount, fFrz, fSortTup, fIndex, isT, gIdx, gCount, gRemove, gRepT, h6]
theorem pow18 (st : S) : fBin gPow (fC (.int 10)) (fC (.int 18)) st = .ok (.d (.int 1000000000000000000)) st := rfl
theorem pick3 {d : M} (hd : Dok d) : ∃ v d', (0 ≤ v ∧ v ≤ 1000000000000000000) ∧ Dok d' ∧ ∀ (δ : List (Option R)) (γ : List (Option M)),
    fBin gIxX (fCall gLst (fCons (fCallF F__law_next [.w, .r] (fCons (fVar 0) (fCons (fC (.int 5)) fNil))) (fCons (fCallF F__law_next [.w, .r] (fCons (fVar 0) (fCons (fC (.int 60)) fNil))) (fCons (fBin gSub (fBin gPow (fC (.int 10)) (fC (.int 18))) (fCallF F__law_next [.w, .r] (fCons (fVar 0) (fCons (fC (.int 3)) fNil)))) fNil)))) (fBin gFdiv (fCallF F__law_next [.w, .r] (fCons (fVar 0) (fCons (fC (.int 5)) fNil))) (fC (.int 2))) ⟨some (.io 0) :: δ, some d :: γ⟩ = .ok (.d (.int v)) ⟨some (.io 0) :: δ, some d' :: γ⟩ := by
  obtain ⟨v1, d1, b1, k1, e1⟩ := next_call hd 5 (by omega) (by omega)
  obtain ⟨v2, d2, b2, k2, e2⟩ := next_call k1 60 (by omega) (by omega)
  obtain ⟨v3, d3, b3, k3, e3⟩ := next_call k2 3 (by omega) (by omega)
  obtain ⟨v4, d4, b4, k4, e4⟩ := next_call k3 5 (by omega) (by omega)
  have hc : v4 / 2 = 0 ∨ v4 / 2 = 1 ∨ v4 / 2 = 2 := by omega
  rcases hc with hc | hc | hc
  · exact ⟨v1, d4, by omega, k4, fun δ γ => by
      have p := pow18 ⟨some (.io 0) :: δ, some d2 :: γ⟩
      generalize fBin gPow (fC (.int 10)) (fC (.int 18)) = P at *
      simp [fSeq, fAsg, fCall, fCons, fNil, fVar, fAug, fExpr, fExtend, fBin, fC, fIf, fIfS, fRet, fRetN, fNext, fTest, fAnd, fOr, fNot, fAndV, fOrV, fNotV, fOfT, fChain, fNeg, fPar, fParT, fMut, fSetIx, fDPut, fDGet, fDGet2, fDAug, fDNew, fSl, fPart, fNoPart, gSl, gN, gT, gL, gsName, gsNil, gsCons, isVar, Rz.bind, gOrC, gMin2, gMax2, gLen, gLenS, gLenD, gInt, gAbs, gTuple, gList, gDict, gOr, gI, gAddT, gAddL, gAddS, gRepL, gEqN, gInN, gIsN, nonB, S.toD, gIx, gIxS, S.seq, S.lst, S.der, S.mlst, S.get, S.put, S.res, S.tgt, mkArgs, mkArg, apartB, owEq, back, gAppend, gPop, gPopAt, tyM, gLst, gTup, allD, fExtend.isSelf, Option.or, sizeLine_eq, encP, isiR, isiD, isL, fIsi, fSortIt, noX, mkF, bodyF, start0, slots0, slot0, ioM, ioOk, finA, eqvI, eqvS, depI, depS, depB, depN, mGetK, mPutK, keyK, isDK, s_tp, s_tm, s_pt, s_pm, s_mp, s_mt, fRev, fSortSet, fCount, fFrz, fSortTup, fIndex, isT, gIdx, gCount, gRemove, gRepT, e1, e2, e3, e4, p, hc, atI, ixN]⟩
  · exact ⟨v2, d4, by omega, k4, fun δ γ => by
      have p := pow18 ⟨some (.io 0) :: δ, some d2 :: γ⟩
      generalize fBin gPow (fC (.int 10)) (fC (.int 18)) = P at *
      simp [fSeq, fAsg, fCall, fCons, fNil, fVar, fAug, fExpr, fExtend, fBin, fC, fIf, fIfS, fRet, fRetN, fNext, fTest, fAnd, fOr, fNot, fAndV, fOrV, fNotV, fOfT, fChain, fNeg, fPar, fParT, fMut, fSetIx, fDPut, fDGet, fDGet2, fDAug, fDNew, fSl, fPart, fNoPart, gSl, gN, gT, gL, gsName, gsNil, gsCons, isVar, Rz.bind, gOrC, gMin2, gMax2, gLen, gLenS, gLenD, gInt, gAbs, gTuple, gList, gDict, gOr, gI, gAddT, gAddL, gAddS, gRepL, gEqN, gInN, gIsN, nonB, S.toD, gIx, gIxS, S.seq, S.lst, S.der, S.mlst, S.get, S.put, S.res, S.tgt, mkArgs, mkArg, apartB, owEq, back, gAppend, gPop, gPopAt, tyM, gLst, gTup, allD, fExtend.isSelf, Option.or, sizeLine_eq, encP, isiR, isiD, isL, fIsi, fSortIt, noX, mkF, bodyF, start0, slots0, slot0, ioM, ioOk, finA, eqvI, eqvS, depI, depS, depB, depN, mGetK, mPutK, keyK, isDK, s_tp, s_tm, s_pt, s_pm, s_mp, s_mt, fRev, fSortSet, fCount, fFrz, fSortTup, fIndex, isT, gIdx, gCount, gRemove, gRepT, e1, e2, e3, e4, p, hc, atI, ixN]⟩
  · exact ⟨1000000000000000000 - v3, d4, by omega, k4, fun δ γ => by
      have p := pow18 ⟨some (.io 0) :: δ, some d2 :: γ⟩
      generalize fBin gPow (fC (.int 10)) (fC (.int 18)) = P at *
      simp [fSeq, fAsg, fCall, fCons, fNil, fVar, fAug, fExpr, fExtend, fBin, fC, fIf, fIfS, fRet, fRetN, fNext, fTest, fAnd, fOr, fNot, fAndV, fOrV, fNotV, fOfT, fChain, fNeg, fPar, fParT, fMut, fSetIx, fDPut, fDGet, fDGet2, fDAug, fDNew, fSl, fPart, fNoPart, gSl, gN, gT, gL, gsName, gsNil, gsCons, isVar, Rz.bind, gOrC, gMin2, gMax2, gLen, gLenS, gLenD, gInt, gAbs, gTuple, gList, gDict, gOr, gI, gAddT, gAddL, gAddS, gRepL, gEqN, gInN, gIsN, nonB, S.toD, gIx, gIxS, S.seq, S.lst, S.der, S.mlst, S.get, S.put, S.res, S.tgt, mkArgs, mkArg, apartB, owEq, back, gAppend, gPop, gPopAt, tyM, gLst, gTup, allD, fExtend.isSelf, Option.or, sizeLine_eq, encP, isiR, isiD, isL, fIsi, fSortIt, noX, mkF, bodyF, start0, slots0, slot0, ioM, ioOk, finA, eqvI, eqvS, depI, depS, depB, depN, mGetK, mPutK, keyK, isDK, s_tp, s_tm, s_pt, s_pm, s_mp, s_mt, fRev, fSortSet, fCount, fFrz, fSortTup, fIndex, isT, gIdx, gCount, gRemove, gRepT, e1, e2, e3, e4, p, hc, atI, ixN]⟩
theorem range1_int {fa : S → Rz (List Rs)} {st st1 : S} {j : Int} (h : fa st = .ok [.d (.int j)] st1) (h0 : 0 ≤ j) (h1 : j ≤ 1000000) : fRange1 fa st = .ok ((List.range j.toNat).map fun i => (.int (i : Nat) : D)) st1 := by
  have e : j = (j.toNat : Int) := by omega
  rw [e] at h
  exact range1_ok h (by omega)
def dstep (m n : Int) : Int := (m * 48271 + n % 2147483647 * 69621 + 11) % 2147483647
theorem dice_ev (ns : List Int) : ∃ d, Dok d ∧ F__law_dice [.d (.list (ns.map .int))] = .ret (.own d) [.d (.list (ns.map .int))] := by
  obtain ⟨st', h2, m, v2, rfl, h3, h4⟩ := loop_rel (t := gN 2) (body := l__law_dice_0)
      (fun xs st => ∃ m v2, st = ⟨[some (.d (.list (ns.map .int))), some (.d (.int m)), v2], [none]⟩ ∧ (0 ≤ m ∧ m < 2147483647) ∧ ∃ zs : List Int, xs = zs.map .int)
      (fun x xs st ⟨m, v2, e, h3, zs, h4⟩ => by
        subst e
        cases zs with
        | nil => cases h4
        | cons z zs =>
          obtain ⟨rfl, rfl⟩ := List.cons.inj h4
          refine ⟨⟨[some (.d (.list (ns.map .int))), some (.d (.int m)), some (.d (.int z))], [none]⟩, ⟨[some (.d (.list (ns.map .int))), some (.d (.int (dstep m z))), some (.d (.int z))], [none]⟩, rfl, .inl (by simp [l__law_dice_0, fSeq, fAsg, fCall, fCons, fNil, fVar, fAug, fExpr, fExtend, fBin, fC, fIf, fIfS, fRet, fRetN, fNext, fTest, fAnd, fOr, fNot, fAndV, fOrV, fNotV, fOfT, fChain, fNeg, fPar, fParT, fMut, fSetIx, fDPut, fDGet, fDGet2, fDAug, fDNew, fCallF, fSl, fPart, fNoPart, gSl, gN, gT, gL, gsName, gsNil, gsCons, isVar, Rz.bind, gOrC, gMin2, gMax2, gLen, gLenS, gLenD, gInt, gAbs, gTuple, gList, gDict, gOr, gI, gAddT, gAddL, gAddS, gRepL, gEqN, gInN, gIsN, nonB, S.toD, gIx, gIxS, S.seq, S.lst, S.der, S.mlst, S.get, S.put, S.res, S.tgt, mkArgs, mkArg, apartB, owEq, back, gAppend, gPop, gPopAt, tyM, gLst, gTup, allD, fExtend.isSelf, Option.or, sizeLine_eq, encP, isiR, isiD, isL, fIsi, fSortIt, noX, mkF, bodyF, start0, slots0, slot0, ioM, ioOk, finA, eqvI, eqvS, depI, depS, depB, depN, mGetK, mPutK, keyK, isDK, s_tp, s_tm, s_pt, s_pm, s_mp, s_mt, fRev, fSortSet, fCount, fFrz, fSortTup, fIndex, isT, gIdx, gCount, gRemove, gRepT, dstep]), dstep m z, _, rfl, ?_, zs, rfl⟩
          unfold dstep
          omega)
      (ns.map .int) ⟨[some (.d (.list (ns.map .int))), some (.d (.int 0)), none], [none]⟩ ⟨0, none, rfl, by omega, ns, rfl⟩
  have hg : ∃ r, (0 ≤ r ∧ r < 2147483647) ∧ fRet (fCall gLst (fCons (fVar 0) (fCons (fC (.int 0)) (fCons (fBin gMul (fVar 1) (fCall gInt (fCons (fBin gGt (fCall gLenX (fCons (fVar 0) fNil)) (fC (.int 2))) fNil))) (fCons (fC (.int 0)) fNil))))) ⟨[some (.d (.list (ns.map .int))), some (.d (.int m)), v2], [none]⟩ = .ok (.rt (.own (dc ns 0 r 0))) ⟨[some (.d (.list (ns.map .int))), some (.d (.int m)), v2], [none]⟩ := by
    by_cases h : (2 : Int) < (ns.length : Nat)
    · exact ⟨m, h3, by simp [fSeq, fAsg, fCall, fCons, fNil, fVar, fAug, fExpr, fExtend, fBin, fC, fIf, fIfS, fRet, fRetN, fNext, fTest, fAnd, fOr, fNot, fAndV, fOrV, fNotV, fOfT, fChain, fNeg, fPar, fParT, fMut, fSetIx, fDPut, fDGet, fDGet2, fDAug, fDNew, fCallF, fSl, fPart, fNoPart, gSl, gN, gT, gL, gsName, gsNil, gsCons, isVar, Rz.bind, gOrC, gMin2, gMax2, gLen, gLenS, gLenD, gInt, gAbs, gTuple, gList, gDict, gOr, gI, gAddT, gAddL, gAddS, gRepL, gEqN, gInN, gIsN, nonB, S.toD, gIx, gIxS, S.seq, S.lst, S.der, S.mlst, S.get, S.put, S.res, S.tgt, mkArgs, mkArg, apartB, owEq, back, gAppend, gPop, gPopAt, tyM, gLst, gTup, allD, fExtend.isSelf, Option.or, sizeLine_eq, encP, isiR, isiD, isL, fIsi, fSortIt, noX, mkF, bodyF, start0, slots0, slot0, ioM, ioOk, finA, eqvI, eqvS, depI, depS, depB, depN, mGetK, mPutK, keyK, isDK, s_tp, s_tm, s_pt, s_pm, s_mp, s_mt, fRev, fSortSet, fCount, fFrz, fSortTup, fIndex, isT, gIdx, gCount, gRemove, gRepT, h]⟩
    · exact ⟨0, by omega, by simp [fSeq, fAsg, fCall, fCons, fNil, fVar, fAug, fExpr, fExtend, fBin, fC, fIf, fIfS, fRet, fRetN, fNext, fTest, fAnd, fOr, fNot, fAndV, fOrV, fNotV, fOfT, fChain, fNeg, fPar, fParT, fMut, fSetIx, fDPut, fDGet, fDGet2, fDAug, fDNew, fCallF, fSl, fPart, fNoPart, gSl, gN, gT, gL, gsName, gsNil, gsCons, isVar, Rz.bind, gOrC, gMin2, gMax2, gLen, gLenS, gLenD, gInt, gAbs, gTuple, gList, gDict, gOr, gI, gAddT, gAddL, gAddS, gRepL, gEqN, gInN, gIsN, nonB, S.toD, gIx, gIxS, S.seq, S.lst, S.der, S.mlst, S.get, S.put, S.res, S.tgt, mkArgs, mkArg, apartB, owEq, back, gAppend, gPop, gPopAt, tyM, gLst, gTup, allD, fExtend.isSelf, Option.or, sizeLine_eq, encP, isiR, isiD, isL, fIsi, fSortIt, noX, mkF, bodyF, start0, slots0, slot0, ioM, ioOk, finA, eqvI, eqvS, depI, depS, depB, depN, mGetK, mPutK, keyK, isDK, s_tp, s_tm, s_pt, s_pm, s_mp, s_mt, fRev, fSortSet, fCount, fFrz, fSortTup, fIndex, isT, gIdx, gCount, gRemove, gRepT, h]⟩
  obtain ⟨r, hr, hg⟩ := hg
  have i0 : fAsg (gN 1) (fC (.int 0)) ⟨[some (.d (.list (ns.map .int))), none, none], [none]⟩ = .ok .nx ⟨[some (.d (.list (ns.map .int))), some (.d (.int 0)), none], [none]⟩ := rfl
  have i1 := for_ok (t := gN 2) (fi := fSeqI (fVar 0)) (st := ⟨[some (.d (.list (ns.map .int))), some (.d (.int 0)), none], [none]⟩) rfl h2
  exact ⟨dc ns 0 r 0, ⟨ns, 0, r, 0, rfl, hr.1, hr.2, Int.le_refl _⟩, mk_ret (g := c__law_dice) (p := 1) (n := 3) rfl rfl ((seq_nx i0).trans ((seq_nx i1).trans hg)) rfl rfl rfl⟩
theorem fits_int (n : Nat) (i : Int) : fits (n + 1) (.int i) := trivial
theorem fits_hea (n : Nat) (h : Hea) (hl : h.length ≤ 1000000) : fits (n + 3) (hD h) := by
  refine ⟨by rw [List.length_map]; exact hl, fun x hx => ?_⟩
  obtain ⟨z, _, rfl⟩ := List.mem_map.mp hx
  refine ⟨Nat.le_trans (m := 2) (Nat.le_refl _) (by omega), fun y hy => ?_⟩
  rcases List.mem_cons.mp hy with rfl | hy
  · trivial
  rcases List.mem_cons.mp hy with rfl | hy
  · trivial
  exact absurd hy (by simp)
theorem fits_thr {t : Thr} (g : GdT U0 t) : fits 6 (tD t) := by
  have a : t.1.length ≤ 1000000 := Nat.le_trans (gd_len (a := -999) (b := 999) g.l fun y hy => (U0_mem _).mp (g.lU y hy)) (by decide)
  have b : t.2.1.length ≤ 1000000 := Nat.le_trans (gd_len (a := -999) (b := 999) g.o fun y hy => (U0_mem _).mp (g.oU y hy)) (by decide)
  refine ⟨Nat.le_trans (m := 3) (Nat.le_refl _) (by omega), fun y hy => ?_⟩
  rcases List.mem_cons.mp hy with rfl | hy
  · exact fits_hea 2 _ a
  rcases List.mem_cons.mp hy with rfl | hy
  · exact fits_hea 2 _ b
  rcases List.mem_cons.mp hy with rfl | hy
  · trivial
  exact absurd hy (by simp)
/-! ### what fits is like itself -/
theorem all_eqv : ∀ {xs : List D}, (∀ x ∈ xs, PyData.eqv x x = true) → PyData.eqvAll xs xs = true
  | [], _ => by simp [PyData.eqvAll]
  | x :: xs, h => by rw [PyData.eqvAll, h x (List.mem_cons_self ..), all_eqv fun y hy => h y (List.mem_cons_of_mem _ hy)]; rfl
theorem all_dep {n : Nat} : ∀ {xs : List D}, (∀ x ∈ xs, x.depth ≤ n) → PyData.depthAll xs ≤ n
  | [], _ => by simp [PyData.depthAll]
  | x :: xs, h => by
    have := h x (List.mem_cons_self ..)
    have := all_dep fun y hy => h y (List.mem_cons_of_mem _ hy)
    rw [PyData.depthAll]
    omega
theorem fits_like : ∀ (n : Nat) (d : D), fits n d → PyData.eqv d d = true ∧ d.depth ≤ n
  | 0, _, h => h.elim
  | n + 1, .int i, _ => by simp [PyData.eqv, PyData.depth]
  | n + 1, .bool i, _ => by simp [PyData.eqv, PyData.depth]
  | n + 1, .str i, _ => by simp [PyData.eqv, PyData.depth]
  | n + 1, .none, _ => by simp [PyData.eqv, PyData.depth]
  | n + 1, .list _, h => h.elim
  | n + 1, .dict _, h => h.elim
  | n + 1, .tuple xs, h => by
    have ih := fun x hx => fits_like n x (h.2 x hx)
    have a := all_eqv fun x hx => (ih x hx).1
    have b := all_dep fun x hx => (ih x hx).2
    simp [PyData.eqv, PyData.depth, a]
    omega
/-! ### how many numbers, how many of them -/
theorem nodup_len : ∀ {l V : List Int}, l.Nodup → (∀ x ∈ l, x ∈ V) → l.length ≤ V.length
  | [], _, _, _ => Nat.zero_le _
  | x :: l, V, nd, h => by
    obtain ⟨h1, h2⟩ := List.nodup_cons.mp nd
    have ih := nodup_len (V := V.erase x) h2 fun y hy => (List.mem_erase_of_ne (fun e : y = x => h1 (by rw [← e]; exact hy))).mpr (h y (List.mem_cons_of_mem _ hy))
    have hx := h x (List.mem_cons_self ..)
    rw [List.length_erase_of_mem hx] at ih
    have : 0 < V.length := List.length_pos_of_mem hx
    simp only [List.length_cons]
    omega
theorem gd_lenV {V : List Int} {h : Hea} (g : Gd h) (hV : ∀ y ∈ h, y.1 ∈ V) : h.length ≤ V.length := by
  have := nodup_len (l := h.map (·.1)) (List.pairwise_map.mpr (g.rise.imp fun q => Int.ne_of_lt q)) fun x hx => by
    obtain ⟨z, hz, rfl⟩ := List.mem_map.mp hx
    exact hV z hz
  simpa using this
theorem le_sumC {h : Hea} (g : Gd h) : ∀ y ∈ h, y.2 ≤ sumC h := by
  induction h with
  | nil => exact fun _ h => (nomatch h)
  | cons z h ih =>
    intro y hy
    rw [sumC_cons]
    have := sumC_nonneg g.tail
    have := g.head.2
    rcases List.mem_cons.mp hy with rfl | hy
    · omega
    · have := ih g.tail y hy
      omega
theorem sumC_le {h : Hea} {m : Int} (hm : 0 ≤ m) (b : ∀ y ∈ h, y.2 ≤ m) : sumC h ≤ m * h.length := by
  induction h with
  | nil => simp [sumC]
  | cons z h ih =>
    have h1 := b z (List.mem_cons_self ..)
    have h2 := ih fun y hy => b y (List.mem_cons_of_mem _ hy)
    rw [sumC_cons, List.length_cons]
    have e : m * ((h.length + 1 : Nat) : Int) = m * (h.length : Int) + m := by rw [Int.natCast_add, Int.mul_add]; simp
    omega
theorem at2_0 (a b : D) : atI [a, b] (0 : Int) = some a := rfl
theorem bad_step (m : Int) (h : Hea) (g : Gd h) (k : Nat) (z : Int × Int) (hz : h[k]? = some z) (h1 : k < 40) (h2 : -m ≤ z.1 ∧ z.1 ≤ m) (h3 : z.2 ≤ 1000000000000000000) : l_bad_place_0 ⟨[some (.d (hD h)), some (.d (.int m)), some (.d (.int (k : Nat))), some (.d (.int z.1)), some (.d (.int z.2))], [none, none]⟩ = .ok .nx ⟨[some (.d (hD h)), some (.d (.int m)), some (.d (.int (k : Nat))), some (.d (.int z.1)), some (.d (.int z.2))], [none, none]⟩ := by
  have hp := g.pos z (List.mem_of_getElem? hz)
  have h40 : ¬ ((k : Int) = 40) := by omega
  cases k with
  | zero =>
    obtain ⟨n, c⟩ := z
    simp [l_bad_place_0, fSeq, fAsg, fCall, fCons, fNil, fVar, fAug, fExpr, fExtend, fBin, fC, fIf, fIfS, fRet, fRetN, fNext, fTest, fAnd, fOr, fNot, fAndV, fOrV, fNotV, fOfT, fChain, fNeg, fPar, fParT, fMut, fSetIx, fDPut, fDGet, fDGet2, fDAug, fDNew, fCallF, fSl, fPart, fNoPart, gSl, gN, gT, gL, gsName, gsNil, gsCons, isVar, Rz.bind, gOrC, gMin2, gMax2, gLen, gLenS, gLenD, gInt, gAbs, gTuple, gList, gDict, gOr, gI, gAddT, gAddL, gAddS, gRepL, gEqN, gInN, gIsN, nonB, S.toD, gIx, gIxS, S.seq, S.lst, S.der, S.mlst, S.get, S.put, S.res, S.tgt, mkArgs, mkArg, apartB, owEq, back, gAppend, gPop, gPopAt, tyM, gLst, gTup, allD, fExtend.isSelf, Option.or, sizeLine_eq, encP, isiR, isiD, isL, fIsi, fSortIt, noX, mkF, bodyF, start0, slots0, slot0, ioM, ioOk, finA, eqvI, eqvS, depI, depS, depB, depN, mGetK, mPutK, keyK, isDK, s_tp, s_tm, s_pt, s_pm, s_mp, s_mt, fRev, fSortSet, fCount, fFrz, fSortTup, fIndex, isT, gIdx, gCount, gRemove, gRepT, h2.1, h2.2, h3, hp]
  | succ j =>
    obtain ⟨hj, ez⟩ := List.getElem?_eq_some_iff.mp hz
    have hy : h[j]? = some h[j] := List.getElem?_eq_getElem (by omega)
    have hr := List.pairwise_iff_getElem.mp g.rise j (j + 1) (by omega) hj (by omega)
    rw [ez] at hr
    have ea : atI (h.map encP) ((j + 1 : Nat) - 1 : Int) = some (encP h[j]) := by
      have : ((j + 1 : Nat) - 1 : Int) = (j : Nat) := by omega
      rw [this, atI_nat, List.getElem?_map, hy]
      rfl
    generalize h[j] = y at *
    unfold hD
    generalize h.map encP = hl at *
    have hn : ¬ z.1 ≤ y.1 := by omega
    have hk : (0 : Int) < ((j + 1 : Nat) : Int) := by omega
    generalize ((j + 1 : Nat) : Int) = kk at *
    obtain ⟨n, c⟩ := z
    simp only at hn
    simp [l_bad_place_0, fSeq, fAsg, fCall, fCons, fNil, fVar, fAug, fExpr, fExtend, fBin, fC, fIf, fIfS, fRet, fRetN, fNext, fTest, fAnd, fOr, fNot, fAndV, fOrV, fNotV, fOfT, fChain, fNeg, fPar, fParT, fMut, fSetIx, fDPut, fDGet, fDGet2, fDAug, fDNew, fCallF, fSl, fPart, fNoPart, gSl, gN, gT, gL, gsName, gsNil, gsCons, isVar, Rz.bind, gOrC, gMin2, gMax2, gLen, gLenS, gLenD, gInt, gAbs, gTuple, gList, gDict, gOr, gI, gAddT, gAddL, gAddS, gRepL, gEqN, gInN, gIsN, nonB, S.toD, gIx, gIxS, S.seq, S.lst, S.der, S.mlst, S.get, S.put, S.res, S.tgt, mkArgs, mkArg, apartB, owEq, back, gAppend, gPop, gPopAt, tyM, gLst, gTup, allD, fExtend.isSelf, Option.or, sizeLine_eq, encP, isiR, isiD, isL, fIsi, fSortIt, noX, mkF, bodyF, start0, slots0, slot0, ioM, ioOk, finA, eqvI, eqvS, depI, depS, depB, depN, mGetK, mPutK, keyK, isDK, s_tp, s_tm, s_pt, s_pm, s_mp, s_mt, fRev, fSortSet, fCount, fFrz, fSortTup, fIndex, isT, gIdx, gCount, gRemove, gRepT, h2.1, h2.2, h3, hp, h40, hk, ea, hn, at2_0]
theorem bad_place_ev (m : Int) (h : Hea) (g : Gd h) (hl : h.length ≤ 40) (hk : ∀ y ∈ h, -m ≤ y.1 ∧ y.1 ≤ m) (hc : ∀ y ∈ h, y.2 ≤ 1000000000000000000) : F_bad_place [.d (hD h), .d (.int m)] = .ret (.d .none) [.d (hD h), .d (.int m)] := by
  have ee : enumD (h.map encP) = h.zipIdx.map fun z => (.tuple [.int (z.2 : Nat), encP z.1] : D) := by
    unfold enumD
    rw [List.zipIdx_map, List.map_map]
    rfl
  obtain ⟨st', key, v2, v3, v4, rfl⟩ := loop_st (t := gT 2 (gsName 2 (gsCons (gT 2 (gsName 3 (gsName 4 gsNil))) gsNil))) (body := l_bad_place_0) (fun z : (Int × Int) × Nat => (.tuple [.int (z.2 : Nat), encP z.1] : D)) (fun (u : Unit) _ => u)
    (fun i _ st => ∃ v2 v3 v4, st = ⟨[some (.d (hD h)), some (.d (.int m)), v2, v3, v4], [none, none]⟩) h.zipIdx 0
    (fun i u z st e ⟨v2, v3, v4, es⟩ => by
      subst es
      rw [List.getElem?_zipIdx] at e
      obtain ⟨y, hy, rfl⟩ := Option.map_eq_some_iff.mp e
      have hi : i < h.length := (List.getElem?_eq_some_iff.mp hy).1
      have hm := List.mem_of_getElem? hy
      have e0 : 0 + i = i := by omega
      simp only [e0]
      exact ⟨_, _, rfl, .inl (bad_step m h g i y hy (by omega) (hk y hm) (hc y hm)), _, _, _, rfl⟩)
    () ⟨[some (.d (hD h)), some (.d (.int m)), none, none, none], [none, none]⟩ ⟨none, none, none, rfl⟩
  have ei : fEnum (fCons (fVar 0) fNil) ⟨[some (.d (hD h)), some (.d (.int m)), none, none, none], [none, none]⟩ = .ok (enumD (h.map encP)) ⟨[some (.d (hD h)), some (.d (.int m)), none, none, none], [none, none]⟩ := rfl
  rw [ee] at ei
  exact mk_ret (g := c_bad_place) (p := 2) (n := 5) rfl rfl ((seq_nx (for_ok ei key)).trans (ret_ok (r := .d .none) rfl)) rfl rfl rfl
/-- what a three must be to be taken -/
structure TkC (t : Thr) : Prop where
  g : GdT U0 t
  a : t.1.length ≤ 40
  b : t.2.1.length ≤ 40
  c : ∀ y ∈ t.1, y.2 ≤ 1000000000000000000
  d : ∀ y ∈ t.2.1, y.2 ≤ 1000000000000000000
  i : t.2.2 ≤ 1000000000000000000
theorem thr_ext {U : List Int} {x y : Thr} (gx : GdT U x) (gy : GdT U y) (h1 : ∀ n, Bar x.1 n = Bar y.1 n) (h2 : ∀ n, bal x n = bal y n) : x = y :=
  thr_uniq gx gy h1 fun n => by
    have a := h1 n
    have b := h2 n
    unfold bal at b
    omega
theorem bhd_gd {U : List Int} {x y : Thr} (gx : GdT U x) (gy : GdT U y) : GdT U (bhd x y) := (bhd_spec gx gy).1
theorem bhd_assoc {U : List Int} {x y z : Thr} (gx : GdT U x) (gy : GdT U y) (gz : GdT U z) : bhd (bhd x y) z = bhd x (bhd y z) :=
  thr_ext (bhd_gd (bhd_gd gx gy) gz) (bhd_gd gx (bhd_gd gy gz))
    (fun n => by
      rw [(bhd_bar (bhd_gd gx gy) gz n).1, (bhd_bar gx gy n).1, (bhd_bar gx (bhd_gd gy gz) n).1, (bhd_bar gy gz n).1, (bhd_bar gy gz n).2]
      omega)
    fun n => by
      rw [(bhd_bar (bhd_gd gx gy) gz n).2, (bhd_bar gx gy n).2, (bhd_bar gx (bhd_gd gy gz) n).2, (bhd_bar gy gz n).2]
      omega
theorem none_bar (n : Int) : Bar (([], [], 0) : Thr).1 n = 0 := rfl
theorem none_bal (n : Int) : bal ([], [], 0) n = 0 := by simp [bal, lack, Bar, sumC]
theorem none_bhd {U : List Int} {t : Thr} (g : GdT U t) : bhd ([], [], 0) t = t :=
  thr_ext (bhd_gd none_gd g) g
    (fun n => by
      rw [(bhd_bar (U := U) none_gd g n).1, none_bar]
      have := lack_nonneg g n
      unfold bal
      omega)
    fun n => by rw [(bhd_bar (U := U) none_gd g n).2, none_bal]; omega
theorem bhd_none {U : List Int} {t : Thr} (g : GdT U t) : bhd t ([], [], 0) = t :=
  thr_ext (bhd_gd g none_gd) g
    (fun n => by
      rw [(bhd_bar (U := U) g none_gd n).1, none_bar, none_bal]
      have := Bar_nonneg g.l n
      omega)
    fun n => by rw [(bhd_bar (U := U) g none_gd n).2, none_bal]; omega
theorem thrW_out {U : List Int} {f : Thr} (gf : GdT U f) (d : Nat) : ∀ (ws : List Stp) (g : Thr), GdT U g → okW U d ws → thrW (bhd f g) ws = bhd f (thrW g ws)
  | [], g, _, _ => by simp [thrW]
  | s :: ws, g, gg, h => by
    simp only [okW] at h
    have gs := (thrS_ok d s h.1).1
    simp only [thrW]
    rw [bhd_assoc gf gg gs]
    exact thrW_out gf d ws (bhd g (thrS s)) (bhd_gd gg gs) h.2
theorem thrW_app {U : List Int} (d : Nat) (a b : List Stp) (ha : okW U d a) (hb : okW U d b) : thrW ([], [], 0) (a ++ b) = bhd (thrW ([], [], 0) a) (thrW ([], [], 0) b) := by
  have ga := (thrW_ok d a ([], [], 0) ha none_gd).1
  have e : ∀ (a : List Stp) (f : Thr), thrW f (a ++ b) = thrW (thrW f a) b := fun a f => by rw [thrW_fold, thrW_fold, thrW_fold, List.foldl_append]
  rw [e, ← thrW_out ga d b ([], [], 0) none_gd hb, bhd_none ga]
theorem okW_cat {U : List Int} {d : Nat} : ∀ {a b : List Stp}, okW U d a → okW U d b → okW U d (a ++ b)
  | [], _, _, h => h
  | s :: a, b, h, hb => by
    simp only [okW] at h
    simp only [List.cons_append, okW]
    exact ⟨h.1, okW_cat h.2 hb⟩
theorem szW_cat : ∀ a b : List Stp, szW (a ++ b) = szW a + szW b
  | [], b => by simp [szW]
  | s :: a, b => by simp only [List.cons_append, szW, szW_cat a b]; omega
theorem wsD_cat (a b : List Stp) : wsD (a ++ b) = wsD a ++ wsD b := by rw [wsD_map, wsD_map, wsD_map, List.map_append]
theorem GdT.wide {U V : List Int} {t : Thr} (g : GdT U t) (h : ∀ n ∈ U, n ∈ V) : GdT V t := ⟨g.l, g.o, fun y hy => h _ (g.lU y hy), fun y hy => h _ (g.oU y hy), g.i⟩
end FL
end
section
set_option Elab.async false
set_option linter.all false
set_option maxRecDepth 100000
namespace FL
open PySem PySem.Spec PyProof.Rows L2
/-! ### encodings that stay closed -/
def hh (h : Hea) : D := hD h
def ww (ws : List Stp) : D := wD ws
abbrev tt (t : Thr) : D := .tuple [hh t.1, hh t.2.1, .int t.2.2]
theorem hh_tup (h : Hea) : hh h = .tuple (h.map encP) := rfl
theorem ww_tup (ws : List Stp) : ww ws = .tuple (wsD ws) := rfl
theorem eqv_encP (a b : Int × Int) : PyData.eqv (encP a) (encP b) = decide (a = b) := by
  rw [Bool.eq_iff_iff]
  obtain ⟨a1, a2⟩ := a
  obtain ⟨b1, b2⟩ := b
  simp [PyData.eqv, PyData.eqvAll, eqvI]
theorem eqvAll_encP : ∀ a b : Hea, PyData.eqvAll (a.map encP) (b.map encP) = decide (a = b)
  | [], [] => by simp [PyData.eqvAll]
  | [], _ :: _ => by simp [PyData.eqvAll]
  | _ :: _, [] => by simp [PyData.eqvAll]
  | x :: a, y :: b => by
    rw [List.map_cons, List.map_cons, PyData.eqvAll, eqv_encP, eqvAll_encP a b, Bool.eq_iff_iff]
    simp
theorem eqv_hh (a b : Hea) : PyData.eqv (hh a) (hh b) = decide (a = b) := by
  unfold hh hD
  rw [← eqvAll_encP, PyData.eqv]
theorem dep_encP (a : Int × Int) : (encP a).depth = 1 := by simp [PyData.depth, PyData.depthAll]
theorem depAll_encP : ∀ a : Hea, PyData.depthAll (a.map encP) ≤ 1
  | [] => by simp [PyData.depthAll]
  | x :: a => by
    have := depAll_encP a
    rw [List.map_cons, PyData.depthAll, dep_encP]
    omega
theorem dep_hh (a : Hea) : (hh a).depth ≤ 2 := by
  have := depAll_encP a
  unfold hh hD
  rw [PyData.depth]
  omega
theorem min_hh (a : Hea) (x : Nat) : min (hh a).depth x ≤ 60 := by have := dep_hh a; omega
theorem le_hh (a : Hea) : (hh a).depth ≤ 60 := by have := dep_hh a; omega
theorem dep_tt (t : Thr) : (tt t).depth ≤ 3 := by
  have := dep_hh t.1
  have := dep_hh t.2.1
  simp only [PyData.depth, PyData.depthAll]
  omega
theorem min_tt (a : Thr) (x : Nat) : min (tt a).depth x ≤ 60 := by have := dep_tt a; omega
theorem le_tt (a : Thr) : (tt a).depth ≤ 60 := by have := dep_tt a; omega
theorem eqv_tt (a b : Thr) : PyData.eqv (tt a) (tt b) = decide (a = b) := by
  rw [Bool.eq_iff_iff]
  obtain ⟨a1, a2, a3⟩ := a
  obtain ⟨b1, b2, b3⟩ := b
  simp [PyData.eqv, PyData.eqvAll, eqvI, eqv_hh]
/-! ### dice -/
structure Die where
  m : M
  ok : Dok m
theorem next_die (d : Die) (k : Int) : ∃ (v : Int) (d' : Die), 0 < k → k < 18446744073709551616 → (0 ≤ v ∧ v < k) ∧ F__law_next [.io d.m, .d (.int k)] = .ret (.d (.int v)) [.io d'.m, .d (.int k)] := by
  by_cases h0 : 0 < k
  · by_cases h1 : k < 18446744073709551616
    · obtain ⟨v, d', b, k', e⟩ := next_ev d.ok k h0 h1
      exact ⟨v, ⟨d', k'⟩, fun _ _ => ⟨b, e⟩⟩
    · exact ⟨0, d, fun _ h => absurd h h1⟩
  · exact ⟨0, d, fun h => absurd h h0⟩
noncomputable def Die.v (d : Die) (k : Int) : Int := Classical.choose (next_die d k)
noncomputable def Die.n (d : Die) (k : Int) : Die := Classical.choose (Classical.choose_spec (next_die d k))
theorem Die.b (d : Die) (k : Int) (h0 : 0 < k) (h1 : k < 18446744073709551616) : 0 ≤ d.v k ∧ d.v k < k := (Classical.choose_spec (Classical.choose_spec (next_die d k)) h0 h1).1
theorem next_rw (d : Die) (k : Int) (h0 : 0 < k) (h1 : k < 18446744073709551616) : F__law_next [.io d.m, .d (.int k)] = .ret (.d (.int (d.v k))) [.io (d.n k).m, .d (.int k)] := (Classical.choose_spec (Classical.choose_spec (next_die d k)) h0 h1).2
theorem dice_die (ns : List Int) : ∃ d : Die, F__law_dice [.d (.list (ns.map .int))] = .ret (.own d.m) [.d (.list (ns.map .int))] :=
  let ⟨d, h, e⟩ := dice_ev ns
  ⟨⟨d, h⟩, e⟩
theorem num_die (d : Die) : ∃ (v : Int) (d' : Die), (-999 ≤ v ∧ v ≤ 999) ∧ F__law_number [.io d.m] = .ret (.d (.int v)) [.io d'.m] :=
  let ⟨v, d', b, k, e⟩ := number_ev d.ok
  ⟨v, ⟨d', k⟩, b, e⟩
noncomputable def Die.numV (d : Die) : Int := Classical.choose (num_die d)
noncomputable def Die.numN (d : Die) : Die := Classical.choose (Classical.choose_spec (num_die d))
theorem Die.numB (d : Die) : -999 ≤ d.numV ∧ d.numV ≤ 999 := (Classical.choose_spec (Classical.choose_spec (num_die d))).1
theorem num_rw (d : Die) : F__law_number [.io d.m] = .ret (.d (.int d.numV)) [.io d.numN.m] := (Classical.choose_spec (Classical.choose_spec (num_die d))).2
/-- the program's own tellings of works -/
theorem need_work_rw (ws : List Stp) (h : okW U0 2 ws) (hs : szW ws ≤ 30) : F_need_work [.d (ww ws)] = .ret (.d .none) [.d (ww ws)] := by
  have e1 := need_steps_ev U0_put 2 ws 1 0 h (by omega) (by omega) (by omega)
  unfold ww
  simp [F_need_work, c_need_work, fSeq, fAsg, fCall, fCons, fNil, fVar, fAug, fExpr, fExtend, fBin, fC, fIf, fIfS, fRet, fRetN, fNext, fTest, fAnd, fOr, fNot, fAndV, fOrV, fNotV, fOfT, fChain, fNeg, fPar, fParT, fMut, fSetIx, fDPut, fDGet, fDGet2, fDAug, fDNew, fCallF, fSl, fPart, fNoPart, gSl, gN, gT, gL, gsName, gsNil, gsCons, isVar, Rz.bind, gOrC, gMin2, gMax2, gLen, gLenS, gLenD, gInt, gAbs, gTuple, gList, gDict, gOr, gI, gAddT, gAddL, gAddS, gRepL, gEqN, gInN, gIsN, nonB, S.toD, gIx, gIxS, S.seq, S.lst, S.der, S.mlst, S.get, S.put, S.res, S.tgt, mkArgs, mkArg, apartB, owEq, back, gAppend, gPop, gPopAt, tyM, gLst, gTup, allD, fExtend.isSelf, Option.or, sizeLine_eq, encP, isiR, isiD, isL, fIsi, fSortIt, noX, mkF, bodyF, start0, slots0, slot0, ioM, ioOk, finA, eqvI, eqvS, depI, depS, depB, depN, mGetK, mPutK, keyK, isDK, s_tp, s_tm, s_pt, s_pm, s_mp, s_mt, fRev, fSortSet, fCount, fFrz, fSortTup, fIndex, isT, gIdx, gCount, gRemove, gRepT, e1]
theorem three_rw (ws : List Stp) (h : okW U0 2 ws) : F_three_of 3 [.d (ww ws)] = .ret (.d (tt (thrW ([], [], 0) ws))) [.d (ww ws)] := three_ev U0_put.nar 2 ws h
theorem heaps_rw (ws : List Stp) (h : okW U0 2 ws) (hs : szW ws ≤ 30) : F_heaps [.d (ww ws)] = .ret (.d (tt (thrW ([], [], 0) ws))) [.d (ww ws)] := heaps_ev U0_put ws h hs
theorem behind_rw (x y : Thr) (h1 : x.1.length ≤ 2000001) (h2 : x.2.1.length ≤ 2000001) (h3 : y.1.length ≤ 2000001) (h4 : y.2.1.length ≤ 2000001) : F_behind [.d (tt x), .d (tt y)] = .ret (.d (tt (bhd x y))) [.d (tt x), .d (tt y)] := behind_ev x y h1 h2 h3 h4
theorem size_rw (h : Hea) (hl : h.length ≤ 16777216) : F_size_of [.d (hh h)] = .ret (.d (.int (sumC h))) [.d (hh h)] := size_of_ev h hl
theorem both_rw (a b : Hea) (hl : a.length + b.length ≤ 10000000) : F_both [.d (hh a), .d (hh b)] = .ret (.d (hh (bothM a b))) [.d (hh a), .d (hh b)] := both_ev a b hl
theorem parted_rw (h : Hea) (m : Int) (hl : h.length ≤ 5000000) : F_parted [.d (hh h), .d (.int m)] = .ret (.d (.tuple [hh (ptd h m).1, hh (ptd h m).2.1, .int (ptd h m).2.2])) [.d (hh h), .d (.int m)] := parted_ev h m hl
theorem bad_place_rw (m : Int) (h : Hea) (g : Gd h) (hl : h.length ≤ 40) (hk : ∀ y ∈ h, -m ≤ y.1 ∧ y.1 ≤ m) (hc : ∀ y ∈ h, y.2 ≤ 1000000000000000000) : F_bad_place [.d (hh h), .d (.int m)] = .ret (.d .none) [.d (hh h), .d (.int m)] := bad_place_ev m h g hl hk hc
theorem power_rw {U : List Int} (u : Nar U) {t : Thr} {c : Int} (gt : GdT U t) (hc : c < 2 ^ 62) : F_power [.d (tt t), .d (.int c)] = .ret (.d (tt (pwr 63 ([], [], 0) t c))) [.d (tt t), .d (.int c)] := power_ev u gt hc
/-- what can be a store -/
structure Sto (h : Hea) : Prop where
  g : Gd h
  l : h.length ≤ 40
  k : ∀ y ∈ h, -1000000 ≤ y.1 ∧ y.1 ≤ 1000000
  c : ∀ y ∈ h, y.2 ≤ 1000000000000000000
theorem need_heap_rw {h : Hea} (s : Sto h) : F_need_heap [.d (hh h)] = .ret (.d .none) [.d (hh h)] := by
  have e := bad_place_rw 1000000 h s.g s.l s.k s.c
  simp [F_need_heap, c_need_heap, fSeq, fAsg, fCall, fCons, fNil, fVar, fAug, fExpr, fExtend, fBin, fC, fIf, fIfS, fRet, fRetN, fNext, fTest, fAnd, fOr, fNot, fAndV, fOrV, fNotV, fOfT, fChain, fNeg, fPar, fParT, fMut, fSetIx, fDPut, fDGet, fDGet2, fDAug, fDNew, fCallF, fSl, fPart, fNoPart, gSl, gN, gT, gL, gsName, gsNil, gsCons, isVar, Rz.bind, gOrC, gMin2, gMax2, gLen, gLenS, gLenD, gInt, gAbs, gTuple, gList, gDict, gOr, gI, gAddT, gAddL, gAddS, gRepL, gEqN, gInN, gIsN, nonB, S.toD, gIx, gIxS, S.seq, S.lst, S.der, S.mlst, S.get, S.put, S.res, S.tgt, mkArgs, mkArg, apartB, owEq, back, gAppend, gPop, gPopAt, tyM, gLst, gTup, allD, fExtend.isSelf, Option.or, sizeLine_eq, encP, isiR, isiD, isL, fIsi, fSortIt, noX, mkF, bodyF, start0, slots0, slot0, ioM, ioOk, finA, eqvI, eqvS, depI, depS, depB, depN, mGetK, mPutK, keyK, isDK, s_tp, s_tm, s_pt, s_pm, s_mp, s_mt, fRev, fSortSet, fCount, fFrz, fSortTup, fIndex, isT, gIdx, gCount, gRemove, gRepT, e]
def U1 : List Int := (List.range 2000001).map fun (i : Nat) => (i : Int) - 1000000
theorem U1_mem (n : Int) : n ∈ U1 ↔ -1000000 ≤ n ∧ n ≤ 1000000 := by
  unfold U1
  rw [List.mem_map]
  constructor
  · rintro ⟨i, hi, rfl⟩
    have := List.mem_range.mp hi
    omega
  · intro h
    exact ⟨(n + 1000000).toNat, List.mem_range.mpr (by omega), by omega⟩
theorem U1_nar : Nar U1 := fun n h => (U1_mem n).mp h
theorem U01 : ∀ n ∈ U0, n ∈ U1 := fun n h => (U1_mem n).mpr (by have := (U0_mem n).mp h; omega)
theorem Sto.gd {h : Hea} (s : Sto h) : GdT U1 (h, [], 0) := ⟨s.g, .nil, fun y hy => (U1_mem _).mpr (s.k y hy), fun _ h => (nomatch h), Int.le_refl _⟩
abbrev th (ws : List Stp) : Thr := thrW ([], [], 0) ws
theorem th_gd {ws : List Stp} {d : Nat} (h : okW U0 d ws) : GdT U0 (th ws) := (thrW_ok d ws ([], [], 0) h none_gd).1
/-- (the store behind, what went out, idle) -/
def dn (ws : List Stp) (h : Hea) : Thr := bhd (h, [], 0) (th ws)
theorem done_rw {ws : List Stp} {h : Hea} (ho : okW U0 2 ws) (s : Sto h) : F_done [.d (tt (th ws)), .d (hh h)] = .ret (.d (tt (dn ws h))) [.d (tt (th ws)), .d (hh h)] := by
  have l1 := s.gd.len U1_nar
  have l2 := (th_gd ho).len U0_put.nar
  have e : F_behind [.d (.tuple [hh h, .tuple [], .int 0]), .d (tt (th ws))] = .ret (.d (tt (bhd (h, [], 0) (th ws)))) [.d (.tuple [hh h, .tuple [], .int 0]), .d (tt (th ws))] := behind_rw (h, [], 0) (th ws) l1.1 l1.2 l2.1 l2.2
  unfold dn
  simp [F_done, c_done, fSeq, fAsg, fCall, fCons, fNil, fVar, fAug, fExpr, fExtend, fBin, fC, fIf, fIfS, fRet, fRetN, fNext, fTest, fAnd, fOr, fNot, fAndV, fOrV, fNotV, fOfT, fChain, fNeg, fPar, fParT, fMut, fSetIx, fDPut, fDGet, fDGet2, fDAug, fDNew, fCallF, fSl, fPart, fNoPart, gSl, gN, gT, gL, gsName, gsNil, gsCons, isVar, Rz.bind, gOrC, gMin2, gMax2, gLen, gLenS, gLenD, gInt, gAbs, gTuple, gList, gDict, gOr, gI, gAddT, gAddL, gAddS, gRepL, gEqN, gInN, gIsN, nonB, S.toD, gIx, gIxS, S.seq, S.lst, S.der, S.mlst, S.get, S.put, S.res, S.tgt, mkArgs, mkArg, apartB, owEq, back, gAppend, gPop, gPopAt, tyM, gLst, gTup, allD, fExtend.isSelf, Option.or, sizeLine_eq, encP, isiR, isiD, isL, fIsi, fSortIt, noX, mkF, bodyF, start0, slots0, slot0, ioM, ioOk, finA, eqvI, eqvS, depI, depS, depB, depN, mGetK, mPutK, keyK, isDK, s_tp, s_tm, s_pt, s_pm, s_mp, s_mt, fRev, fSortSet, fCount, fFrz, fSortTup, fIndex, isT, gIdx, gCount, gRemove, gRepT, e]
theorem run_rw {ws : List Stp} {h : Hea} (ho : okW U0 2 ws) (hs : szW ws ≤ 30) (s : Sto h) : F_run [.d (ww ws), .d (hh h)] = .ret (.d (hh (dn ws h).1)) [.d (ww ws), .d (hh h)] := by
  have e1 := need_work_rw ws ho hs
  have e2 := need_heap_rw s
  have e3 := three_rw ws ho
  have e4 := done_rw ho s
  simp [F_run, c_run, fSeq, fAsg, fCall, fCons, fNil, fVar, fAug, fExpr, fExtend, fBin, fC, fIf, fIfS, fRet, fRetN, fNext, fTest, fAnd, fOr, fNot, fAndV, fOrV, fNotV, fOfT, fChain, fNeg, fPar, fParT, fMut, fSetIx, fDPut, fDGet, fDGet2, fDAug, fDNew, fCallF, fSl, fPart, fNoPart, gSl, gN, gT, gL, gsName, gsNil, gsCons, isVar, Rz.bind, gOrC, gMin2, gMax2, gLen, gLenS, gLenD, gInt, gAbs, gTuple, gList, gDict, gOr, gI, gAddT, gAddL, gAddS, gRepL, gEqN, gInN, gIsN, nonB, S.toD, gIx, gIxS, S.seq, S.lst, S.der, S.mlst, S.get, S.put, S.res, S.tgt, mkArgs, mkArg, apartB, owEq, back, gAppend, gPop, gPopAt, tyM, gLst, gTup, allD, fExtend.isSelf, Option.or, sizeLine_eq, encP, isiR, isiD, isL, fIsi, fSortIt, noX, mkF, bodyF, start0, slots0, slot0, ioM, ioOk, finA, eqvI, eqvS, depI, depS, depB, depN, mGetK, mPutK, keyK, isDK, s_tp, s_tm, s_pt, s_pm, s_mp, s_mt, fRev, fSortSet, fCount, fFrz, fSortTup, fIndex, isT, gIdx, gCount, gRemove, gRepT, e1, e2, e3, e4, atI, ixN]
theorem dn_gd {ws : List Stp} {h : Hea} (ho : okW U0 2 ws) (s : Sto h) : GdT U1 (dn ws h) := bhd_gd s.gd ((th_gd ho).wide U01)
/-- a good work's (e, b) are its three's -/
theorem eb_th {ws : List Stp} {d : Nat} (ho : okW U0 d ws) (x : Int) : eb ws x = (bal (th ws) x, Bar (th ws).1 x) := by
  obtain ⟨_, hb⟩ := thrW_ok d ws ([], [], 0) ho none_gd
  obtain ⟨h1, h2⟩ := hb x
  have z2 : bal (([], [], 0) : Thr) x = 0 := by simp [bal, lack, Bar, sumC]
  rw [z2, show Bar (([], [], 0) : Thr).1 x = 0 from rfl] at h1 h2
  exact Prod.ext h2.symm h1.symm
theorem dn_bar {ws : List Stp} {h : Hea} (ho : okW U0 2 ws) (s : Sto h) (x : Int) : Bar (dn ws h).1 x = max (Bar h x + (eb ws x).1) (eb ws x).2 := by
  rw [eb_th ho]
  exact (bhd_bar s.gd ((th_gd ho).wide U01) x).1
/-! ### a dict's pairs by their keys -/
def byKey (l : Hea) : Hea := (isort (l.map (·.1))).map fun k => (k, (getI l k).getD 0)
theorem getI_mem : ∀ {l : Hea} {z : Int × Int}, Nd l → z ∈ l → getI l z.1 = some z.2
  | w :: l, z, nd, h => by
    obtain ⟨n1, n2⟩ := List.nodup_cons.mp nd
    have n1 : w.1 ∉ l.map (·.1) := n1
    unfold getI
    rcases List.mem_cons.mp h with rfl | h
    · simp
    · have : ¬ w.1 = z.1 := fun e => n1 (by rw [e]; exact List.mem_map_of_mem h)
      rw [List.find?_cons]
      simp only [this, decide_false]
      exact getI_mem n2 h
theorem byKey_perm {l : Hea} (nd : Nd l) : (byKey l).Perm l := by
  have p : (byKey l).Perm ((l.map (·.1)).map fun k => (k, (getI l k).getD 0)) := (isort_perm _).map _
  refine p.trans ?_
  rw [List.map_map]
  have : l.map ((fun k => (k, (getI l k).getD 0)) ∘ (·.1)) = l.map id := List.map_congr_left fun z hz => by
    show (z.1, (getI l z.1).getD 0) = z
    rw [getI_mem nd hz]
    rfl
  rw [this, List.map_id]
theorem byKey_gd {l : Hea} (nd : Nd l) (hp : ∀ z ∈ l, 1 ≤ z.2) : Gd (byKey l) := by
  have p := byKey_perm nd
  refine ⟨?_, fun z hz => hp z (p.mem_iff.mp hz)⟩
  have h1 : ((byKey l).map (·.1)).Pairwise (· ≤ ·) := by
    unfold byKey
    rw [List.map_map]
    have : ((isort (l.map (·.1))).map ((fun z : Int × Int => z.1) ∘ fun k => (k, (getI l k).getD 0))) = (isort (l.map (·.1))).map id := List.map_congr_left fun _ _ => rfl
    rw [this, List.map_id]
    exact isort_le _
  have h2 : ((byKey l).map (·.1)).Nodup := (p.map (fun z : Int × Int => z.1)).nodup_iff.mpr nd
  rw [List.pairwise_map] at h1
  rw [List.Nodup, List.pairwise_map] at h2
  exact h1.imp₂ (fun a b x y => by omega) h2
theorem intKeys_I (l : Hea) : intKeys (l.map kvI) = some (l.map (·.1)) := by
  induction l with
  | nil => rfl
  | cons z l ih => simp [intKeys, ih]
theorem putI_nd {l : Hea} (nd : Nd l) (k v : Int) : Nd (putI l k v) := by
  cases h : getI l k with
  | none =>
    have hn := getI_none h
    rw [putI_new hn]
    unfold Nd
    rw [List.map_append, List.nodup_append]
    refine ⟨nd, by simp, fun a ha b hb => ?_⟩
    obtain ⟨y, hy, rfl⟩ := List.mem_map.mp ha
    have hb' : b = k := by simpa using hb
    rw [hb']
    exact hn y hy
  | some w =>
    obtain ⟨_, h2, _⟩ := putI_old (v := v) nd h
    unfold Nd
    rw [h2]
    exact nd
theorem putI_all {P : Int × Int → Prop} {l : Hea} {k v : Int} (h : ∀ z ∈ l, P z) (hp : P (k, v)) : ∀ z ∈ putI l k v, P z := by
  intro z hz
  unfold putI at hz
  split at hz
  · obtain ⟨y, hy, rfl⟩ := List.mem_map.mp hz
    split
    · rename_i e
      rw [e]; exact hp
    · exact h y hy
  · rcases List.mem_append.mp hz with hz | hz
    · exact h z hz
    · have : z = (k, v) := by simpa using hz
      rw [this]; exact hp
theorem getI_some {l : Hea} {k : Int} (h : k ∈ l.map (·.1)) : ∃ v, getI l k = some v := by
  cases e : getI l k with
  | some v => exact ⟨v, rfl⟩
  | none =>
    obtain ⟨z, hz, rfl⟩ := List.mem_map.mp h
    exact absurd rfl (getI_none e z hz)
/-! ### a drawn store -/
theorem q_store (a b v3 : Option R) (v4 : Option D) (l : Hea) (γ : List (Option M)) (hl : l.length ≤ 1000) :
    q__law_store_3 ⟨[a, b, some (.own (.dicK (l.map kvI))), v3, v4.map .d], γ⟩ = .ok (.own (.lst ((byKey l).map encP))) ⟨[a, b, some (.own (.dicK (l.map kvI))), v3, v4.map .d], γ⟩ := by
  have hk := intKeys_I l
  have e := fLc_list (ks := [4]) (t := gN 4) (ft := fTrue) (fe := e__law_store_2) (fi := fSeqI (fCall gSorted (fCons (fVar 2) fNil))) (st := ⟨[a, b, some (.own (.dicK (l.map kvI))), v3, v4.map .d], γ⟩) (fun k : Int => (.int k : D)) (fun k => some (encP (k, (getI l k).getD 0))) (isort (l.map (·.1)))
    (by simp [fSeqI, fSeq, fAsg, fCall, fCons, fNil, fVar, fAug, fExpr, fExtend, fBin, fC, fIf, fIfS, fRet, fRetN, fNext, fTest, fAnd, fOr, fNot, fAndV, fOrV, fNotV, fOfT, fChain, fNeg, fPar, fParT, fMut, fSetIx, fDPut, fDGet, fDGet2, fDAug, fDNew, fCallF, fSl, fPart, fNoPart, gSl, gN, gT, gL, gsName, gsNil, gsCons, isVar, Rz.bind, gOrC, gMin2, gMax2, gLen, gLenS, gLenD, gInt, gAbs, gTuple, gList, gDict, gOr, gI, gAddT, gAddL, gAddS, gRepL, gEqN, gInN, gIsN, nonB, S.toD, gIx, gIxS, S.seq, S.lst, S.der, S.mlst, S.get, S.put, S.res, S.tgt, mkArgs, mkArg, apartB, owEq, back, gAppend, gPop, gPopAt, tyM, gLst, gTup, allD, fExtend.isSelf, Option.or, sizeLine_eq, encP, isiR, isiD, isL, fIsi, fSortIt, noX, mkF, bodyF, start0, slots0, slot0, ioM, ioOk, finA, eqvI, eqvS, depI, depS, depB, depN, mGetK, mPutK, keyK, isDK, s_tp, s_tm, s_pt, s_pm, s_mp, s_mt, fRev, fSortSet, fCount, fFrz, fSortTup, fIndex, isT, gIdx, gCount, gRemove, gRepT, gSorted, gSortedI, gSortDI, hk]; rfl) (by cases v4 <;> rfl) (by rw [(isort_perm _).length_eq, List.length_map]; omega)
    (fun k hk => by
      obtain ⟨v, hv⟩ := getI_some ((isort_perm _).mem_iff.mp hk)
      have hA := valA_I l k
      rw [hv] at hA
      exact ⟨_, rfl, by simp [fTrue, e__law_store_2, encP, gSl, gN, gT, gL, gsName, gsNil, gsCons, isVar, gOrC, gMin2, gMax2, gLen, gLenS, gLenD, gInt, gAbs, gTuple, gList, gDict, gOr, gI, gAddT, gAddL, gAddS, gRepL, gEqN, gInN, gIsN, nonB, S.toD, gIx, gIxS, S.seq, S.lst, S.der, S.mlst, S.get, S.put, S.res, S.tgt, mkArgs, mkArg, apartB, owEq, back, gAppend, gPop, gPopAt, tyM, gLst, gTup, allD, fExtend.isSelf, Option.or, sizeLine_eq, isiR, isiD, isL, start0, slots0, slot0, ioM, ioOk, finA, eqvI, eqvS, depI, depS, depB, depN, mGetK, mPutK, keyK, isDK, s_tp, s_tm, s_pt, s_pm, s_mp, s_mt, isT, gIdx, gCount, gRemove, gRepT, u_fAsg, u_fCall, u_fCons, u_fNil, u_fVar, u_fAug, u_fExpr, u_fExtend, u_fBin, u_fC, u_fRet, u_fRetN, u_fNext, u_fTest, u_fNot, u_fChain, u_fNeg, u_fPar, u_fParT, u_fMut, u_fSetIx, u_fDPut, u_fDGet, u_fDGet2, u_fDAug, u_fDNew, u_fSl, u_fPart, u_fNoPart, u_fOfT, u_fNotV, u_fIsi, u_fSortIt, u_fTrue, u_fBrk, u_fCnt, u_fEnum, u_fRev, u_fSortSet, u_fCount, u_fFrz, u_fSortTup, u_fIndex, u_fCallF, callB_some, callD_ret, callE_some, b_ok, b_no, W_ok, W_no, W_bind, W_ite, bind_ite, thenQ_nx, thenQ_rt, thenQ_bk, thenQ_ct, W_seq, fIfS_eq, fIf_eq, fAnd_eq, fOr_eq, fAndV_eq, fOrV_eq, andK_b, orK_b, ite_okT, ite_okF, ite_okTd, ite_okFd, turnQ_nx, turnQ_ct, turnQ_bk, turnQ_rt, cutQ_nx, cutQ_rt, cutQ_bk, cutQ_ct, endOut, wipeS, wipeD, hA, hv]⟩)
  rw [filterMap_some] at e
  have e2 : (isort (l.map (·.1))).map (fun k => encP (k, (getI l k).getD 0)) = (byKey l).map encP := by unfold byKey; rw [List.map_map]; rfl
  rw [e2] at e
  unfold q__law_store_3
  rw [e]
  rfl
structure StoF (far : Int) (h : Hea) : Prop where
  g : Gd h
  l : h.length ≤ 8
  k : ∀ y ∈ h, -1000000 ≤ y.1 ∧ y.1 ≤ 1000000
  c : ∀ y ∈ h, y.2 ≤ far
theorem store_die (d : Die) (far : Int) : ∃ (h : Hea) (d' : Die), 3 ≤ far → far < 18446744073709551616 → StoF far h ∧ F__law_store [.io d.m, .d (.int far)] = .ret (.d (hh h)) [.io d'.m, .d (.int far)] := by
  by_cases h0 : 3 ≤ far
  rotate_left
  · exact ⟨[], d, fun h => absurd h h0⟩
  by_cases h1 : far < 18446744073709551616
  rotate_left
  · exact ⟨[], d, fun _ h => absurd h h1⟩
  suffices h : ∃ r fin, mkF 2 5 c__law_store [.io d.m, .d (.int far)] = .ret r fin ∧ ∃ (h : Hea) (d' : Die), StoF far h ∧ r = .d (hh h) ∧ fin = [.io d'.m, .d (.int far)] by
    obtain ⟨_, _, e, h, d', k, rfl, rfl⟩ := h
    exact ⟨h, d', fun _ _ => ⟨k, e⟩⟩
  refine F_ex rfl fun Q hQ => ?_
  have b2 := d.b 2 (by omega) (by omega)
  have hv : d.v 2 = 0 ∨ d.v 2 = 1 := by omega
  obtain ⟨n, d1, hn, en⟩ : ∃ (n : Nat) (d1 : Die), n ≤ 8 ∧ fRange1 (fCons (fCallF F__law_next [.w, .r] (fCons (fVar 0) (fCons (fBin gIxX (fCall gLst (fCons (fC (.int 4)) (fCons (fC (.int 9)) fNil))) (fCallF F__law_next [.w, .r] (fCons (fVar 0) (fCons (fC (.int 2)) fNil)))) fNil))) fNil) ⟨[some (.io 0), some (.d (.int far)), some (.own (.dicK [])), none, none], [some d.m, none]⟩ = .ok ((List.range n).map fun i => (.int (i : Nat) : D)) ⟨[some (.io 0), some (.d (.int far)), some (.own (.dicK [])), none, none], [some d1.m, none]⟩ := by
    have r2 := next_rw d 2 (by omega) (by omega)
    rcases hv with hv | hv
    · have b4 := (d.n 2).b 4 (by omega) (by omega)
      have r4 := next_rw (d.n 2) 4 (by omega) (by omega)
      exact ⟨((d.n 2).v 4).toNat, (d.n 2).n 4, by omega, range1_int (by simp [fSeq, fAsg, fCall, fCons, fNil, fVar, fAug, fExpr, fExtend, fBin, fC, fIf, fIfS, fRet, fRetN, fNext, fTest, fAnd, fOr, fNot, fAndV, fOrV, fNotV, fOfT, fChain, fNeg, fPar, fParT, fMut, fSetIx, fDPut, fDGet, fDGet2, fDAug, fDNew, fCallF, fSl, fPart, fNoPart, gSl, gN, gT, gL, gsName, gsNil, gsCons, isVar, Rz.bind, gOrC, gMin2, gMax2, gLen, gLenS, gLenD, gInt, gAbs, gTuple, gList, gDict, gOr, gI, gAddT, gAddL, gAddS, gRepL, gEqN, gInN, gIsN, nonB, S.toD, gIx, gIxS, S.seq, S.lst, S.der, S.mlst, S.get, S.put, S.res, S.tgt, mkArgs, mkArg, apartB, owEq, back, gAppend, gPop, gPopAt, tyM, gLst, gTup, allD, fExtend.isSelf, Option.or, sizeLine_eq, encP, isiR, isiD, isL, fIsi, fSortIt, noX, mkF, bodyF, start0, slots0, slot0, ioM, ioOk, finA, eqvI, eqvS, depI, depS, depB, depN, mGetK, mPutK, keyK, isDK, s_tp, s_tm, s_pt, s_pm, s_mp, s_mt, fRev, fSortSet, fCount, fFrz, fSortTup, fIndex, isT, gIdx, gCount, gRemove, gRepT, r2, r4, hv, atI, ixN]) b4.1 (by omega)⟩
    · have b4 := (d.n 2).b 9 (by omega) (by omega)
      have r4 := next_rw (d.n 2) 9 (by omega) (by omega)
      exact ⟨((d.n 2).v 9).toNat, (d.n 2).n 9, by omega, range1_int (by simp [fSeq, fAsg, fCall, fCons, fNil, fVar, fAug, fExpr, fExtend, fBin, fC, fIf, fIfS, fRet, fRetN, fNext, fTest, fAnd, fOr, fNot, fAndV, fOrV, fNotV, fOfT, fChain, fNeg, fPar, fParT, fMut, fSetIx, fDPut, fDGet, fDGet2, fDAug, fDNew, fCallF, fSl, fPart, fNoPart, gSl, gN, gT, gL, gsName, gsNil, gsCons, isVar, Rz.bind, gOrC, gMin2, gMax2, gLen, gLenS, gLenD, gInt, gAbs, gTuple, gList, gDict, gOr, gI, gAddT, gAddL, gAddS, gRepL, gEqN, gInN, gIsN, nonB, S.toD, gIx, gIxS, S.seq, S.lst, S.der, S.mlst, S.get, S.put, S.res, S.tgt, mkArgs, mkArg, apartB, owEq, back, gAppend, gPop, gPopAt, tyM, gLst, gTup, allD, fExtend.isSelf, Option.or, sizeLine_eq, encP, isiR, isiD, isL, fIsi, fSortIt, noX, mkF, bodyF, start0, slots0, slot0, ioM, ioOk, finA, eqvI, eqvS, depI, depS, depB, depN, mGetK, mPutK, keyK, isDK, s_tp, s_tm, s_pt, s_pm, s_mp, s_mt, fRev, fSortSet, fCount, fFrz, fSortTup, fIndex, isT, gIdx, gCount, gRemove, gRepT, r2, r4, hv, atI, ixN]) b4.1 (by omega)⟩
  simp [c__law_store, gSl, gN, gT, gL, gsName, gsNil, gsCons, isVar, gOrC, gMin2, gMax2, gLen, gLenS, gLenD, gInt, gAbs, gTuple, gList, gDict, gOr, gI, gAddT, gAddL, gAddS, gRepL, gEqN, gInN, gIsN, nonB, S.toD, gIx, gIxS, S.seq, S.lst, S.der, S.mlst, S.get, S.put, S.res, S.tgt, mkArgs, mkArg, apartB, owEq, back, gAppend, gPop, gPopAt, tyM, gLst, gTup, allD, fExtend.isSelf, Option.or, sizeLine_eq, isiR, isiD, isL, start0, slots0, slot0, ioM, ioOk, finA, eqvI, eqvS, depI, depS, depB, depN, mGetK, mPutK, keyK, isDK, s_tp, s_tm, s_pt, s_pm, s_mp, s_mt, isT, gIdx, gCount, gRemove, gRepT, u_fAsg, u_fCall, u_fCons, u_fNil, u_fVar, u_fAug, u_fExpr, u_fExtend, u_fBin, u_fC, u_fRet, u_fRetN, u_fNext, u_fTest, u_fNot, u_fChain, u_fNeg, u_fPar, u_fParT, u_fMut, u_fSetIx, u_fDPut, u_fDGet, u_fDGet2, u_fDAug, u_fDNew, u_fSl, u_fPart, u_fNoPart, u_fOfT, u_fNotV, u_fIsi, u_fSortIt, u_fTrue, u_fBrk, u_fCnt, u_fEnum, u_fRev, u_fSortSet, u_fCount, u_fFrz, u_fSortTup, u_fIndex, u_fCallF, callB_some, callD_ret, callE_some, b_ok, b_no, W_ok, W_no, W_bind, W_ite, bind_ite, thenQ_nx, thenQ_rt, thenQ_bk, thenQ_ct, W_seq, fIfS_eq, fIf_eq, fAnd_eq, fOr_eq, fAndV_eq, fOrV_eq, andK_b, orK_b, ite_okT, ite_okF, ite_okTd, ite_okFd, turnQ_nx, turnQ_ct, turnQ_bk, turnQ_rt, cutQ_nx, cutQ_rt, cutQ_bk, cutQ_ct, endOut]
  unfold s__law_store_1
  refine W_for (fun i : Nat => (.int (i : Nat) : D)) (List.range n) (fun pre _ st => ∃ (d : Die) (l : Hea) (v3 v4 : Option D), st = ⟨[some (.io 0), some (.d (.int far)), some (.own (.dicK (l.map kvI))), v3.map .d, v4.map .d], [some d.m, none]⟩ ∧ Nd l ∧ (∀ z ∈ l, 1 ≤ z.2 ∧ z.2 ≤ far ∧ -1000000 ≤ z.1 ∧ z.1 ≤ 1000000) ∧ l.length ≤ pre.length)
    en ⟨d1, [], none, none, rfl, List.nodup_nil, fun _ h => (nomatch h), Nat.le_refl _⟩ ?_ ?_
  · rintro st ⟨d2, l, v3, v4, rfl, nd, hb, hl⟩
    rw [List.length_range] at hl
    have q := q_store (some (.io 0)) (some (.d (.int far))) (v3.map .d) v4 l [some d2.m, none] (by omega)
    simp [gSl, gN, gT, gL, gsName, gsNil, gsCons, isVar, gOrC, gMin2, gMax2, gLen, gLenS, gLenD, gInt, gAbs, gTuple, gList, gDict, gOr, gI, gAddT, gAddL, gAddS, gRepL, gEqN, gInN, gIsN, nonB, S.toD, gIx, gIxS, S.seq, S.lst, S.der, S.mlst, S.get, S.put, S.res, S.tgt, mkArgs, mkArg, apartB, owEq, back, gAppend, gPop, gPopAt, tyM, gLst, gTup, allD, fExtend.isSelf, Option.or, sizeLine_eq, isiR, isiD, isL, start0, slots0, slot0, ioM, ioOk, finA, eqvI, eqvS, depI, depS, depB, depN, mGetK, mPutK, keyK, isDK, s_tp, s_tm, s_pt, s_pm, s_mp, s_mt, isT, gIdx, gCount, gRemove, gRepT, u_fAsg, u_fCall, u_fCons, u_fNil, u_fVar, u_fAug, u_fExpr, u_fExtend, u_fBin, u_fC, u_fRet, u_fRetN, u_fNext, u_fTest, u_fNot, u_fChain, u_fNeg, u_fPar, u_fParT, u_fMut, u_fSetIx, u_fDPut, u_fDGet, u_fDGet2, u_fDAug, u_fDNew, u_fSl, u_fPart, u_fNoPart, u_fOfT, u_fNotV, u_fIsi, u_fSortIt, u_fTrue, u_fBrk, u_fCnt, u_fEnum, u_fRev, u_fSortSet, u_fCount, u_fFrz, u_fSortTup, u_fIndex, u_fCallF, callB_some, callD_ret, callE_some, b_ok, b_no, W_ok, W_no, W_bind, W_ite, bind_ite, thenQ_nx, thenQ_rt, thenQ_bk, thenQ_ct, W_seq, fIfS_eq, fIf_eq, fAnd_eq, fOr_eq, fAndV_eq, fOrV_eq, andK_b, orK_b, ite_okT, ite_okF, ite_okTd, ite_okFd, turnQ_nx, turnQ_ct, turnQ_bk, turnQ_rt, cutQ_nx, cutQ_rt, cutQ_bk, cutQ_ct, endOut, q]
    have p := byKey_perm nd
    refine hQ _ _ _ _ rfl ⟨byKey l, d2, ⟨byKey_gd nd fun z hz => (hb z hz).1, by rw [p.length_eq]; omega, fun z hz => (hb z (p.mem_iff.mp hz)).2.2, fun z hz => (hb z (p.mem_iff.mp hz)).2.1⟩, rfl, rfl⟩
  · rintro pre a post st N e ⟨d2, l, v3, v4, rfl, nd, hb, hl⟩ hN
    refine ⟨_, rfl, ?_⟩
    have hpre : pre.length < n := by
      have := congrArg List.length e
      simp at this
      omega
    have r1 := num_rw d2
    have B1 := d2.numB
    have r2 := next_rw d2.numN 2000001 (by omega) (by omega)
    have B2 := d2.numN.b 2000001 (by omega) (by omega)
    have r3 := next_rw (d2.numN.n 2000001) 6 (by omega) (by omega)
    generalize hd3 : (d2.numN.n 2000001).n 6 = d3 at *
    have r4 := next_rw d3 3 (by omega) (by omega)
    have B4 := d3.b 3 (by omega) (by omega)
    have r5 := next_rw (d3.n 3) 3 (by omega) (by omega)
    have B5 := (d3.n 3).b 3 (by omega) (by omega)
    have r6 := next_rw (d3.n 3) far (by omega) (by omega)
    have B6 := (d3.n 3).b far (by omega) (by omega)
    have hv : d3.v 3 = 0 ∨ d3.v 3 = 1 ∨ d3.v 3 = 2 := by omega
    have hll : l.length < 16777216 := by omega
    have fin : ∀ (d' : Die) (x c : Int), -1000000 ≤ x ∧ x ≤ 1000000 → 1 ≤ c → c ≤ far → N ⟨[some (.io 0), some (.d (.int far)), some (.own (.dicK (putA (l.map kvI) (Sum.inl x) (.int c)))), some (.d (.int (a : Nat))), some (.d (.int x))], [some d'.m, none]⟩ := by
      intro d' x c hx hc hf
      exact hN _ ⟨d', putI l x c, some (.int (a : Nat)), some (.int x), by rw [putA_I]; rfl, putI_nd nd x c, putI_all hb ⟨hc, hf, hx⟩, by have := putI_len l x c; simp; omega⟩
    by_cases h6 : (d2.numN.n 2000001).v 6 = 5 <;> rcases hv with hv | hv | hv <;> simp [l__law_store_0, gSl, gN, gT, gL, gsName, gsNil, gsCons, isVar, gOrC, gMin2, gMax2, gLen, gLenS, gLenD, gInt, gAbs, gTuple, gList, gDict, gOr, gI, gAddT, gAddL, gAddS, gRepL, gEqN, gInN, gIsN, nonB, S.toD, gIx, gIxS, S.seq, S.lst, S.der, S.mlst, S.get, S.put, S.res, S.tgt, mkArgs, mkArg, apartB, owEq, back, gAppend, gPop, gPopAt, tyM, gLst, gTup, allD, fExtend.isSelf, Option.or, sizeLine_eq, isiR, isiD, isL, start0, slots0, slot0, ioM, ioOk, finA, eqvI, eqvS, depI, depS, depB, depN, mGetK, mPutK, keyK, isDK, s_tp, s_tm, s_pt, s_pm, s_mp, s_mt, isT, gIdx, gCount, gRemove, gRepT, u_fAsg, u_fCall, u_fCons, u_fNil, u_fVar, u_fAug, u_fExpr, u_fExtend, u_fBin, u_fC, u_fRet, u_fRetN, u_fNext, u_fTest, u_fNot, u_fChain, u_fNeg, u_fPar, u_fParT, u_fMut, u_fSetIx, u_fDPut, u_fDGet, u_fDGet2, u_fDAug, u_fDNew, u_fSl, u_fPart, u_fNoPart, u_fOfT, u_fNotV, u_fIsi, u_fSortIt, u_fTrue, u_fBrk, u_fCnt, u_fEnum, u_fRev, u_fSortSet, u_fCount, u_fFrz, u_fSortTup, u_fIndex, u_fCallF, callB_some, callD_ret, callE_some, b_ok, b_no, W_ok, W_no, W_bind, W_ite, bind_ite, thenQ_nx, thenQ_rt, thenQ_bk, thenQ_ct, W_seq, fIfS_eq, fIf_eq, fAnd_eq, fOr_eq, fAndV_eq, fOrV_eq, andK_b, orK_b, ite_okT, ite_okF, ite_okTd, ite_okFd, turnQ_nx, turnQ_ct, turnQ_bk, turnQ_rt, cutQ_nx, cutQ_rt, cutQ_bk, cutQ_ct, endOut, r1, r2, r3, r4, r5, r6, h6, hv, atI, ixN, hll] <;> refine fin _ _ _ ?_ ?_ ?_ <;> omega
noncomputable def Die.stV (d : Die) (far : Int) : Hea := Classical.choose (store_die d far)
noncomputable def Die.stN (d : Die) (far : Int) : Die := Classical.choose (Classical.choose_spec (store_die d far))
theorem Die.stB (d : Die) (far : Int) (h0 : 3 ≤ far) (h1 : far < 18446744073709551616) : StoF far (d.stV far) := (Classical.choose_spec (Classical.choose_spec (store_die d far)) h0 h1).1
theorem st_rw (d : Die) (far : Int) (h0 : 3 ≤ far) (h1 : far < 18446744073709551616) : F__law_store [.io d.m, .d (.int far)] = .ret (.d (hh (d.stV far))) [.io (d.stN far).m, .d (.int far)] := (Classical.choose_spec (Classical.choose_spec (store_die d far)) h0 h1).2
theorem StoF.sto {far : Int} {h : Hea} (s : StoF far h) (hf : far ≤ 1000000000000000000) : Sto h := ⟨s.g, by have := s.l; omega, s.k, fun y hy => by have := s.c y hy; omega⟩
theorem dn_len {ws : List Stp} {h : Hea} (ho : okW U0 2 ws) (hs : szW ws ≤ 30) (s : Sto h) (X : List Int) (hX : X = bs (isort (putsW ws) ++ h.map (·.1))) : heapOf X (X.map (Bar (dn ws h).1)) = (dn ws h).1 := by
  obtain ⟨x1, x2, _⟩ := bs_spec (isort (putsW ws) ++ h.map (·.1))
  rw [← hX] at x1 x2
  have hV : okW (putsW ws) 2 ws := okW_re 2 ws ho fun n hn => hn
  have g1 : GdT X (th ws) := ((thrW_ok 2 ws ([], [], 0) hV none_gd).1).wide fun n hn => (x2 n).mpr (List.mem_append_left _ ((isort_perm _).mem_iff.mpr hn))
  have g2 : GdT X (h, [], 0) := ⟨s.g, .nil, fun y hy => (x2 _).mpr (List.mem_append_right _ (List.mem_map_of_mem hy)), fun _ h => (nomatch h), Int.le_refl _⟩
  have g := bhd_gd g2 g1
  exact heapOf_bars x1 g.l g.lU
theorem dn_small {ws : List Stp} {h : Hea} (ho : okW U0 2 ws) (hs : szW ws ≤ 30) (s : Sto h) : (dn ws h).1.length ≤ 100 ∧ (dn ws h).2.1.length ≤ 100 := by
  have hV : okW (putsW ws) 2 ws := okW_re 2 ws ho fun n hn => hn
  have g1 : GdT (putsW ws ++ h.map (·.1)) (th ws) := ((thrW_ok 2 ws ([], [], 0) hV none_gd).1).wide fun n hn => List.mem_append_left _ hn
  have g2 : GdT (putsW ws ++ h.map (·.1)) (h, [], 0) := ⟨s.g, .nil, fun y hy => List.mem_append_right _ (List.mem_map_of_mem hy), fun _ h => (nomatch h), Int.le_refl _⟩
  have g : GdT (putsW ws ++ h.map (·.1)) (dn ws h) := bhd_gd g2 g1
  have a := gd_lenV g.l g.lU
  have b := gd_lenV g.o g.oU
  have c := putsW_len ws
  have d := s.l
  rw [List.length_append, List.length_map] at a b
  omega
/-! ### sums as the laws make them -/
theorem seq_hh (st : S) (h : Hea) : st.seq (.d (hh h)) = some (h.map encP) := rfl
theorem sumM_both {a b : Hea} (ga : Gd a) (gb : Gd b) : byKey (b.foldl addI (mrgI a)) = bothM a b := by
  rw [mrgI_gd ga]
  obtain ⟨h1, h2, h3, h4, h5⟩ := foldAdd_spec b ga.nd
  obtain ⟨g, b1, _⟩ := both_spec ga gb
  exact (byKey_gd h1 (h5 ga.pos gb.pos)).uniq g fun x => by rw [Bar_perm (byKey_perm h1), h2, b1]
theorem lsize_rw (h : Hea) (hl : h.length ≤ 16777216) : F__law_size [.d (hh h)] = .ret (.d (.int (sumC h))) [.d (hh h)] := by
  have e := fLc_list (ks := [1, 2]) (t := gT 2 (gsName 1 (gsName 2 gsNil))) (ft := fTrue) (fe := e__law_size_0) (fi := fSeqI (fVar 0)) (st := ⟨[some (.d (hh h)), none, none], [none]⟩) encP (fun z => some (.int z.2)) h
    rfl rfl hl (fun z hz => ⟨_, rfl, by simp [e__law_size_0, gSl, gN, gT, gL, gsName, gsNil, gsCons, isVar, gOrC, gMin2, gMax2, gLen, gLenS, gLenD, gInt, gAbs, gTuple, gList, gDict, gOr, gI, gAddT, gAddL, gAddS, gRepL, gEqN, gInN, gIsN, nonB, S.toD, gIx, gIxS, S.seq, S.lst, S.der, S.mlst, S.get, S.put, S.res, S.tgt, mkArgs, mkArg, apartB, owEq, back, gAppend, gPop, gPopAt, tyM, gLst, gTup, allD, fExtend.isSelf, Option.or, sizeLine_eq, isiR, isiD, isL, start0, slots0, slot0, ioM, ioOk, finA, eqvI, eqvS, depI, depS, depB, depN, mGetK, mPutK, keyK, isDK, s_tp, s_tm, s_pt, s_pm, s_mp, s_mt, isT, gIdx, gCount, gRemove, gRepT, u_fAsg, u_fCall, u_fCons, u_fNil, u_fVar, u_fAug, u_fExpr, u_fExtend, u_fBin, u_fC, u_fRet, u_fRetN, u_fNext, u_fTest, u_fNot, u_fChain, u_fNeg, u_fPar, u_fParT, u_fMut, u_fSetIx, u_fDPut, u_fDGet, u_fDGet2, u_fDAug, u_fDNew, u_fSl, u_fPart, u_fNoPart, u_fOfT, u_fNotV, u_fIsi, u_fSortIt, u_fTrue, u_fBrk, u_fCnt, u_fEnum, u_fRev, u_fSortSet, u_fCount, u_fFrz, u_fSortTup, u_fIndex, u_fCallF, callB_some, callD_ret, callE_some, b_ok, b_no, W_ok, W_no, W_bind, W_ite, bind_ite, thenQ_nx, thenQ_rt, thenQ_bk, thenQ_ct, W_seq, fIfS_eq, fIf_eq, fAnd_eq, fOr_eq, fAndV_eq, fOrV_eq, andK_b, orK_b, ite_okT, ite_okF, ite_okTd, ite_okFd, turnQ_nx, turnQ_ct, turnQ_bk, turnQ_rt, cutQ_nx, cutQ_rt, cutQ_bk, cutQ_ct, endOut, wipeS, wipeD]⟩)
  have e2 : ints? (h.map fun z => .int z.2) = some (h.map (·.2)) := by
    have : h.map (fun z => PyData.int z.2) = (h.map (·.2)).map .int := by simp
    rw [this, ints?_map]
  rw [filterMap_some] at e
  have e4 : q__law_size_1 ⟨[some (.d (hh h)), none, none], [none]⟩ = .ok (.own (.lst (h.map fun z => .int z.2))) ⟨[some (.d (hh h)), none, none], [none]⟩ := e
  simp [F__law_size, c__law_size, fSeq, fAsg, fCall, fCons, fNil, fVar, fAug, fExpr, fExtend, fBin, fC, fIf, fIfS, fRet, fRetN, fNext, fTest, fAnd, fOr, fNot, fAndV, fOrV, fNotV, fOfT, fChain, fNeg, fPar, fParT, fMut, fSetIx, fDPut, fDGet, fDGet2, fDAug, fDNew, fCallF, fSl, fPart, fNoPart, gSl, gN, gT, gL, gsName, gsNil, gsCons, isVar, Rz.bind, gOrC, gMin2, gMax2, gLen, gLenS, gLenD, gInt, gAbs, gTuple, gList, gDict, gOr, gI, gAddT, gAddL, gAddS, gRepL, gEqN, gInN, gIsN, nonB, S.toD, gIx, gIxS, S.seq, S.lst, S.der, S.mlst, S.get, S.put, S.res, S.tgt, mkArgs, mkArg, apartB, owEq, back, gAppend, gPop, gPopAt, tyM, gLst, gTup, allD, fExtend.isSelf, Option.or, sizeLine_eq, encP, isiR, isiD, isL, fIsi, fSortIt, noX, mkF, bodyF, start0, slots0, slot0, ioM, ioOk, finA, eqvI, eqvS, depI, depS, depB, depN, mGetK, mPutK, keyK, isDK, s_tp, s_tm, s_pt, s_pm, s_mp, s_mt, fRev, fSortSet, fCount, fFrz, fSortTup, fIndex, isT, gIdx, gCount, gRemove, gRepT, e4, gSum, e2, sumC]
/-! ### what a work puts, how many takes it has -/
mutual
def pcS : Stp → Hea × Int
  | .put n => ([(n, 1)], 0)
  | .take => ([], 1)
  | .times c ws => if 0 < c then ((pcW ([], 0) ws).1.map fun z => (z.1, z.2 * c), (pcW ([], 0) ws).2 * c) else ([], 0)
def pcW : Hea × Int → List Stp → Hea × Int
  | f, [] => f
  | f, s :: ws => pcW (bothM f.1 (pcS s).1, f.2 + (pcS s).2) ws
end
theorem pcW_fold : ∀ (ws : List Stp) (f : Hea × Int), pcW f ws = ws.foldl (fun f s => (bothM f.1 (pcS s).1, f.2 + (pcS s).2)) f
  | [], f => by simp [pcW]
  | s :: ws, f => by simp [pcW, pcW_fold ws]
theorem sc_gd {h : Hea} {c : Int} (g : Gd h) (hc : 0 < c) : Gd (h.map fun z => (z.1, z.2 * c)) := by
  refine ⟨List.pairwise_map.mpr (g.rise.imp fun h => h), fun z hz => ?_⟩
  obtain ⟨y, hy, rfl⟩ := List.mem_map.mp hz
  have := g.pos y hy
  have h1 : 0 ≤ (y.2 - 1) * c := Int.mul_nonneg (by omega) (by omega)
  rw [Int.sub_mul] at h1
  show 1 ≤ y.2 * c
  omega
theorem sc_bar (h : Hea) (c x : Int) : Bar (h.map fun z => (z.1, z.2 * c)) x = Bar h x * c := by
  induction h with
  | nil => simp [Bar]
  | cons z h ih =>
    rw [List.map_cons, Bar_cons, Bar_cons, ih, Int.add_mul]
    split <;> simp
theorem both_nil {h : Hea} (g : Gd h) : bothM h [] = h := by
  obtain ⟨g2, b, _⟩ := both_spec g Gd.nil
  exact g2.uniq g fun x => by rw [b, Bar_nil]; omega
mutual
theorem pcS_ok {U : List Int} : ∀ (d : Nat) (s : Stp), okS U d s → Gd (pcS s).1 ∧ (∀ y ∈ (pcS s).1, y.1 ∈ U) ∧ 0 ≤ (pcS s).2
  | d, .put n, h => by
    have hn : n ∈ U := by cases d <;> simpa [okS] using h
    simp only [pcS]
    exact ⟨⟨by simp, fun z hz => by have : z = (n, 1) := by simpa using hz
                                    rw [this]; exact Int.le_refl 1⟩, fun z hz => by have : z = (n, 1) := by simpa using hz
                                                                                    rw [this]; exact hn, Int.le_refl _⟩
  | d, .take, h => by simp only [pcS]; exact ⟨.nil, fun _ h => (nomatch h), by omega⟩
  | 0, .times c ws, h => by simp [okS] at h
  | d + 1, .times c ws, h => by
    simp only [okS] at h
    obtain ⟨g, m, i⟩ := pcW_ok d ws ([], 0) h.2.2 .nil (fun _ h => (nomatch h)) (Int.le_refl _)
    simp only [pcS]
    split
    · rename_i hc
      exact ⟨sc_gd g hc, fun z hz => by obtain ⟨y, hy, rfl⟩ := List.mem_map.mp hz; exact m y hy, Int.mul_nonneg i (by omega)⟩
    · exact ⟨.nil, fun _ h => (nomatch h), by omega⟩
theorem pcW_ok {U : List Int} : ∀ (d : Nat) (ws : List Stp) (f : Hea × Int), okW U d ws → Gd f.1 → (∀ y ∈ f.1, y.1 ∈ U) → 0 ≤ f.2 → Gd (pcW f ws).1 ∧ (∀ y ∈ (pcW f ws).1, y.1 ∈ U) ∧ 0 ≤ (pcW f ws).2
  | d, [], f, _, g, m, i => by simp only [pcW]; exact ⟨g, m, i⟩
  | d, s :: ws, f, h, g, m, i => by
    simp only [okW] at h
    obtain ⟨g1, m1, i1⟩ := pcS_ok d s h.1
    obtain ⟨g2, b2, _, m2⟩ := both_spec g g1
    simp only [pcW]
    refine pcW_ok d ws _ h.2 g2 (fun y hy => ?_) (by show 0 ≤ f.2 + (pcS s).2; omega)
    rcases m2 y hy with h3 | h3
    · obtain ⟨w, hw, e⟩ := List.mem_map.mp h3
      rw [← e]; exact m w hw
    · obtain ⟨w, hw, e⟩ := List.mem_map.mp h3
      rw [← e]; exact m1 w hw
end
/-! ### nothing is lost -/
def tot (t : Thr) (n : Int) : Int := Bar t.1 n + Bar t.2.1 n
def hiT (t : Thr) : Int := t.2.2 + sumC t.2.1
theorem bar_lowN (h : Hea) : ∃ N, ∀ n, n ≤ N → Bar h n = 0 := by
  induction h with
  | nil => exact ⟨0, fun _ _ => rfl⟩
  | cons z h ih =>
    obtain ⟨N, hN⟩ := ih
    exact ⟨min N (z.1 - 1), fun n hn => by rw [Bar_cons, hN n (by omega), if_neg (by omega)]; rfl⟩
theorem bar_bigN (h : Hea) : ∃ N, ∀ n, N ≤ n → Bar h n = sumC h := by
  induction h with
  | nil => exact ⟨0, fun _ _ => rfl⟩
  | cons z h ih =>
    obtain ⟨N, hN⟩ := ih
    exact ⟨max N z.1, fun n hn => by rw [Bar_cons, sumC_cons, hN n (by omega), if_pos (by omega)]⟩
theorem lack_hi (t : Thr) (n : Int) : lack t n = hiT t - Bar t.2.1 n := by unfold lack hiT; omega
theorem bhd_hi {U : List Int} {x y : Thr} (gx : GdT U x) (gy : GdT U y) : hiT (bhd x y) = hiT x + hiT y := by
  obtain ⟨_, _, h⟩ := bhd_spec gx gy
  obtain ⟨a, ha⟩ := bar_lowN x.2.1
  obtain ⟨b, hb⟩ := bar_lowN y.2.1
  obtain ⟨c, hc⟩ := bar_lowN (bhd x y).2.1
  obtain ⟨d, hd⟩ := bar_lowN x.1
  have e := h (min (min a b) (min c d))
  rw [lack_hi, lack_hi, lack_hi, ha _ (by omega), hb _ (by omega), hc _ (by omega), hd _ (by omega)] at e
  have : 0 ≤ hiT y := by
    have := gy.i
    have := sumC_nonneg gy.o
    unfold hiT; omega
  omega
theorem bhd_tot {U : List Int} {x y : Thr} (gx : GdT U x) (gy : GdT U y) (n : Int) : tot (bhd x y) n = tot x n + tot y n := by
  obtain ⟨_, h1, h2⟩ := bhd_spec gx gy
  have e := h2 n
  have e1 := h1 n
  rw [lack_hi, lack_hi, lack_hi, bhd_hi gx gy] at e
  rw [lack_hi] at e1
  unfold tot
  omega
theorem pwr_tot {U : List Int} : ∀ (k : Nat) (f t : Thr) (m : Int), GdT U f → GdT U t → 0 ≤ m → m < 2 ^ k →
    (∀ n, tot (pwr k f t m) n = tot f n + m * tot t n) ∧ hiT (pwr k f t m) = hiT f + m * hiT t
  | k, f, t, m, gf, gt, h0, hm => by
    by_cases hp : 0 < m
    · cases k with
      | zero => simp at hm; omega
      | succ k =>
        have gt2 := (bhd_spec gt gt).1
        have gf2 : GdT U (if m % 2 = 1 then bhd f t else f) := by split; exact (bhd_spec gf gt).1; exact gf
        obtain ⟨ih1, ih2⟩ := pwr_tot k (if m % 2 = 1 then bhd f t else f) (bhd t t) (m / 2) gf2 gt2 (by omega) (by rw [Int.pow_succ] at hm; omega)
        unfold pwr
        rw [if_pos hp]
        have key : ∀ a b e : Int, e = a + (if m % 2 = 1 then b else 0) → e + m / 2 * (b + b) = a + m * b := fun a b e he => by
          subst he
          generalize hq : m / 2 = q at *
          rw [Int.mul_add]
          by_cases h2 : m % 2 = 1
          · have em : m = q + q + 1 := by omega
            rw [if_pos h2, em, Int.add_mul, Int.add_mul]
            omega
          · have em : m = q + q := by omega
            rw [if_neg h2, em, Int.add_mul]
            omega
        refine ⟨fun n => ?_, ?_⟩
        · rw [ih1, bhd_tot gt gt]
          refine key _ _ _ ?_
          split
          · rw [bhd_tot gf gt]
          · omega
        · rw [ih2, bhd_hi gt gt]
          refine key _ _ _ ?_
          split
          · rw [bhd_hi gf gt]
          · omega
    · have hm0 : m = 0 := by omega
      have : pwr k f t m = f := by cases k with
        | zero => rfl
        | succ k => unfold pwr; rw [if_neg hp]
      rw [this, hm0]
      simp
theorem none_tot (n : Int) : tot ([], [], 0) n = 0 := by simp [tot, Bar]
theorem none_hi : hiT ([], [], 0) = 0 := by simp [hiT, sumC]
mutual
theorem thrS_tot {U : List Int} : ∀ (d : Nat) (s : Stp), okS U d s → (∀ n, tot (thrS s) n = Bar (pcS s).1 n) ∧ hiT (thrS s) = (pcS s).2
  | d, .put n, h => by simp [thrS, pcS, tot, hiT, Bar, sumC]
  | d, .take, h => by simp [thrS, pcS, tot, hiT, Bar, sumC]
  | 0, .times c ws, h => by simp [okS] at h
  | d + 1, .times c ws, h => by
    simp only [okS] at h
    obtain ⟨h1, h2⟩ := thrW_tot d ws ([], [], 0) ([], 0) h.2.2 none_gd .nil (fun _ h => (nomatch h)) (Int.le_refl _) (fun n => by rw [none_tot]; rfl) none_hi
    have g := (thrW_ok d ws ([], [], 0) h.2.2 none_gd).1
    obtain ⟨p1, p2⟩ := pwr_tot 63 ([], [], 0) _ c none_gd g h.1 (by omega)
    simp only [thrS, pcS]
    by_cases hc : 0 < c
    · rw [if_pos hc]
      refine ⟨fun n => ?_, ?_⟩
      · rw [p1, none_tot, h1]
        show _ = Bar (List.map _ _) n
        rw [sc_bar, Int.mul_comm]
        omega
      · rw [p2, none_hi, h2]
        show _ = (pcW ([], 0) ws).2 * c
        rw [Int.mul_comm]
        omega
    · rw [if_neg hc]
      have hc0 : c = 0 := by omega
      subst hc0
      refine ⟨fun n => ?_, ?_⟩
      · rw [p1, none_tot]; simp [Bar]
      · rw [p2, none_hi]; simp
theorem thrW_tot {U : List Int} : ∀ (d : Nat) (ws : List Stp) (f : Thr) (p : Hea × Int), okW U d ws → GdT U f → Gd p.1 → (∀ y ∈ p.1, y.1 ∈ U) → 0 ≤ p.2 → (∀ n, tot f n = Bar p.1 n) → hiT f = p.2 → (∀ n, tot (thrW f ws) n = Bar (pcW p ws).1 n) ∧ hiT (thrW f ws) = (pcW p ws).2
  | d, [], f, p, h, g, gp, mp, ip, h1, h2 => by simp only [thrW, pcW]; exact ⟨h1, h2⟩
  | d, s :: ws, f, p, h, g, gp, mp, ip, h1, h2 => by
    simp only [okW] at h
    obtain ⟨a1, a2⟩ := thrS_tot d s h.1
    obtain ⟨gs, _⟩ := thrS_ok d s h.1
    obtain ⟨gc, mc, ic⟩ := pcS_ok d s h.1
    obtain ⟨g2, b2, _, m2⟩ := both_spec gp gc
    simp only [thrW, pcW]
    refine thrW_tot d ws (bhd f (thrS s)) (bothM p.1 (pcS s).1, p.2 + (pcS s).2) h.2 (bhd_gd g gs) g2 (fun y hy => ?_) (by show 0 ≤ p.2 + (pcS s).2; omega) (fun n => ?_) ?_
    · rcases m2 y hy with h3 | h3
      · obtain ⟨w, hw, e⟩ := List.mem_map.mp h3
        rw [← e]; exact mp w hw
      · obtain ⟨w, hw, e⟩ := List.mem_map.mp h3
        rw [← e]; exact mc w hw
    · rw [bhd_tot g gs, h1, a1]
      exact (b2 n).symm
    · rw [bhd_hi g gs, h2, a2]
end
abbrev pc (ws : List Stp) : Hea × Int := pcW ([], 0) ws
theorem th_tot {ws : List Stp} (h : okW U0 2 ws) : (∀ n, tot (th ws) n = Bar (pc ws).1 n) ∧ hiT (th ws) = (pc ws).2 :=
  thrW_tot 2 ws ([], [], 0) ([], 0) h none_gd .nil (fun _ h => (nomatch h)) (Int.le_refl _) (fun n => by rw [none_tot]; rfl) none_hi
theorem pc_ok {ws : List Stp} (h : okW U0 2 ws) : Gd (pc ws).1 ∧ (∀ y ∈ (pc ws).1, y.1 ∈ U0) ∧ 0 ≤ (pc ws).2 := pcW_ok 2 ws ([], 0) h .nil (fun _ h => (nomatch h)) (Int.le_refl _)
theorem pc_len {ws : List Stp} (h : okW U0 2 ws) : (pc ws).1.length ≤ 1999 := by
  obtain ⟨g, m, _⟩ := pc_ok h
  exact gd_len (a := -999) (b := 999) g fun y hy => (U0_mem _).mp (m y hy)
/-- what's there and put is what's behind and went out -/
theorem dn_tot {ws : List Stp} {h : Hea} (ho : okW U0 2 ws) (s : Sto h) : bothM (dn ws h).1 (dn ws h).2.1 = bothM h (pc ws).1 ∧ hiT (dn ws h) = (pc ws).2 := by
  obtain ⟨h1, h2⟩ := th_tot ho
  have g1 := (th_gd ho).wide U01
  have gd := dn_gd ho s
  obtain ⟨gc, _, _⟩ := pc_ok ho
  obtain ⟨ga, ba, _⟩ := both_spec gd.l gd.o
  obtain ⟨gb, bb, _⟩ := both_spec s.g gc
  refine ⟨ga.uniq gb fun n => ?_, ?_⟩
  · rw [ba, bb, ← h1]
    have := bhd_tot s.gd g1 n
    unfold tot at this ⊢
    unfold dn
    rw [this]
    simp [Bar]
  · unfold dn
    rw [bhd_hi s.gd g1, h2]
    simp [hiT, sumC]
/-! ### taking a heap out of a dict, number by number -/
def subI (l : Hea) (z : Int × Int) : Hea := putI l z.1 ((getI l z.1).getD 0 - z.2)
theorem subI_spec {l : Hea} (nd : Nd l) (z : Int × Int) (h : z.1 ∈ l.map (·.1)) : (subI l z).map (·.1) = l.map (·.1) ∧ ∀ x, Bar (subI l z) x = Bar l x - B' x z := by
  obtain ⟨v, hv⟩ := getI_some h
  obtain ⟨h1, h2, _⟩ := putI_old (v := v - z.2) nd hv
  unfold subI
  rw [hv]
  refine ⟨h2, fun x => ?_⟩
  show Bar (putI l z.1 (v - z.2)) x = _
  rw [h1, B']
  split <;> omega
theorem foldSub_spec : ∀ (b : Hea) {l : Hea}, Nd l → (∀ z ∈ b, z.1 ∈ l.map (·.1)) → (b.foldl subI l).map (·.1) = l.map (·.1) ∧ ∀ x, Bar (b.foldl subI l) x = Bar l x - Bar b x
  | [], l, nd, _ => ⟨rfl, fun x => by simp [Bar]⟩
  | z :: b, l, nd, h => by
    obtain ⟨a1, a2⟩ := subI_spec nd z (h z (List.mem_cons_self ..))
    obtain ⟨b1, b2⟩ := foldSub_spec b (l := subI l z) (by unfold Nd; rw [a1]; exact nd) fun y hy => by rw [a1]; exact h y (List.mem_cons_of_mem _ hy)
    exact ⟨by rw [List.foldl_cons, b1, a1], fun x => by rw [List.foldl_cons, b2, a2, Bar_cons, B']; omega⟩
/-- a rising list's items by its bars -/
theorem jump : ∀ {l : Hea}, l.Pairwise (fun a b => a.1 < b.1) → ∀ z ∈ l, z.2 = Bar l z.1 - Bar l (z.1 - 1)
  | y :: l, p, z, hz => by
    obtain ⟨p1, p2⟩ := List.pairwise_cons.mp p
    rw [Bar_cons, Bar_cons]
    rcases List.mem_cons.mp hz with rfl | hz
    · rw [if_pos (Int.le_refl _), if_neg (by omega), Bar_low p1, Bar_low fun w hw => by have := p1 w hw; omega]
      omega
    · have := p1 z hz
      have := jump p2 z hz
      rw [if_pos (by omega), if_pos (by omega)]
      omega
theorem Bar_filter : ∀ {l : Hea} (x : Int), (∀ z ∈ l, 0 ≤ z.2) → Bar (l.filter fun z => decide (0 < z.2)) x = Bar l x
  | [], _, _ => rfl
  | z :: l, x, h => by
    have ih := Bar_filter (l := l) x fun y hy => h y (List.mem_cons_of_mem _ hy)
    have := h z (List.mem_cons_self ..)
    rw [List.filter_cons]
    split
    · rw [Bar_cons, Bar_cons, ih]
    · rename_i hc
      have : z.2 = 0 := by have hc' : ¬ 0 < z.2 := by simpa using hc
                           omega
      rw [Bar_cons, ih, this]
      simp
/-- what is left in a dict: by key, no noughts -/
theorem left_is {l out : Hea} (nd : Nd l) (g : Gd out) (h : ∀ x, Bar l x = Bar out x) : (byKey l).filter (fun z => decide (0 < z.2)) = out := by
  have p := byKey_perm nd
  have hr : (byKey l).Pairwise (fun a b => a.1 < b.1) := by
    have h1 : ((byKey l).map (·.1)).Pairwise (· ≤ ·) := by
      unfold byKey
      rw [List.map_map]
      have : ((isort (l.map (·.1))).map ((fun z : Int × Int => z.1) ∘ fun k => (k, (getI l k).getD 0))) = (isort (l.map (·.1))).map id := List.map_congr_left fun _ _ => rfl
      rw [this, List.map_id]
      exact isort_le _
    have h2 : ((byKey l).map (·.1)).Nodup := (p.map (fun z : Int × Int => z.1)).nodup_iff.mpr nd
    rw [List.pairwise_map] at h1
    rw [List.Nodup, List.pairwise_map] at h2
    exact h1.imp₂ (fun a b x y => by omega) h2
  have hb : ∀ x, Bar (byKey l) x = Bar out x := fun x => by rw [Bar_perm p, h]
  have h0 : ∀ z ∈ byKey l, 0 ≤ z.2 := fun z hz => by
    have := jump hr z hz
    rw [hb, hb] at this
    have := Bar_mono g (show z.1 - 1 ≤ z.1 by omega)
    omega
  refine Gd.uniq ⟨hr.filter _, fun z hz => ?_⟩ g fun x => by rw [Bar_filter x h0, hb]
  have := (List.mem_filter.mp hz).2
  have : 0 < z.2 := by simpa using this
  omega
/-- the keys of a part are keys of the whole -/
theorem key_of {a b c : Hea} (ga : Gd a) (gb : Gd b) (gc : Gd c) (h : ∀ x, Bar c x = Bar a x + Bar b x) : ∀ z ∈ a, z.1 ∈ c.map (·.1) := by
  intro z hz
  refine Classical.byContradiction fun hn => ?_
  have h1 := jump ga.rise z hz
  have h2 := ga.pos z hz
  have h3 : Bar c z.1 = Bar c (z.1 - 1) := by
    clear h gc
    induction c with
    | nil => rfl
    | cons y c ih =>
      rw [Bar_cons, Bar_cons, ih fun e => hn (List.mem_cons_of_mem _ e)]
      have : y.1 ≠ z.1 := fun e => hn (by rw [← e]; exact List.mem_cons_self ..)
      by_cases hy : y.1 ≤ z.1
      · rw [if_pos hy, if_pos (by omega)]
      · rw [if_neg hy, if_neg (by omega)]
  have h4 := h z.1
  have h5 := h (z.1 - 1)
  have h6 := Bar_mono gb (show z.1 - 1 ≤ z.1 by omega)
  omega
/-! ### cut works -/
theorem cut_to {α : Type} (xs : List α) (n : Nat) : cutD xs none (some (n : Int)) = xs.take n := by
  unfold cutD
  rw [HT.sIx_none, HT.sIx_nat, Nat.sub_zero, List.drop_zero]
  rcases Nat.le_total n xs.length with h | h
  · rw [Nat.min_eq_left h]
  · rw [Nat.min_eq_right h, List.take_of_length_le (Nat.le_refl _), List.take_of_length_le h]
theorem wsD_take (n : Nat) (ws : List Stp) : (wsD ws).take n = wsD (ws.take n) := by rw [wsD_map, wsD_map, List.map_take]
theorem okW_take {U : List Int} {d : Nat} : ∀ (n : Nat) {ws : List Stp}, okW U d ws → okW U d (ws.take n)
  | 0, _, _ => by simp [okW]
  | n + 1, [], h => h
  | n + 1, s :: ws, h => by
    simp only [okW] at h
    simp only [List.take_succ_cons, okW]
    exact ⟨h.1, okW_take n h.2⟩
theorem szW_take : ∀ (n : Nat) (ws : List Stp), szW (ws.take n) ≤ szW ws
  | 0, _ => by simp [szW]
  | n + 1, [] => by simp
  | n + 1, s :: ws => by
    have := szW_take n ws
    simp only [List.take_succ_cons, szW]
    omega
structure HpF (far : Int) (h : Hea) : Prop where
  g : Gd h
  l : h.length ≤ 4
  k : ∀ y ∈ h, y.1 ∈ U0
  c : ∀ y ∈ h, y.2 ≤ far
structure TrF (far : Int) (t : Thr) : Prop where
  a : HpF far t.1
  b : HpF far t.2.1
  i : 0 ≤ t.2.2 ∧ t.2.2 ≤ max 3 far
theorem TrF.gd {far : Int} {t : Thr} (k : TrF far t) : GdT U0 t := ⟨k.a.g, k.b.g, k.a.k, k.b.k, k.i.1⟩
theorem TrF.tk {far : Int} {t : Thr} (k : TrF far t) (h0 : 3 ≤ far) (h : far ≤ 1000000000000000000) : TkC t :=
  ⟨k.gd, by have := k.a.l; omega, by have := k.b.l; omega, fun y hy => by have := k.a.c y hy; omega, fun y hy => by have := k.b.c y hy; omega, by have := k.i; omega⟩
/-! ### a three by its bars, as the laws tell it -/
def outR (f : Int → Int) : Int → List Int → Hea
  | _, [] => []
  | p, x :: xs => if f p ≠ f x then (x, f p - f x) :: outR f x xs else outR f x xs
theorem outR_recon (f : Int → Int) : ∀ (p : Int) (xs : List Int), outR f p xs = recon (fun x => -(f x)) (-(f p)) xs
  | _, [] => rfl
  | p, x :: xs => by
    rw [outR, recon_cons, outR_recon f x xs]
    by_cases h : f p = f x
    · rw [if_neg (by simpa using h), if_neg (by omega)]
    · rw [if_pos h, if_pos (by omega)]
      have : f p - f x = -(f x) - -(f p) := by omega
      rw [this]
theorem thr_told {X : List Int} {t : Thr} (g : GdT X t) (x1 : X.Pairwise (· < ·)) (p : Int) (hp : ∀ x ∈ X, p < x) :
    heapOf X (X.map (Bar t.1)) = t.1 ∧ outR (lack t) p X = t.2.1 ∧ lack t ((p :: X).getD X.length 0) = t.2.2 := by
  have low : Bar t.2.1 p = 0 := Bar_low fun y hy => hp _ (g.oU y hy)
  refine ⟨heapOf_bars x1 g.l g.lU, ?_, ?_⟩
  · rw [outR_recon]
    have e : (fun x => -(lack t x)) = fun x => -(t.2.2 + sumC t.2.1) + Bar t.2.1 x := by
      funext x
      unfold lack
      omega
    have e2 : -(lack t p) = -(t.2.2 + sumC t.2.1) := by unfold lack; rw [low]; omega
    rw [e, e2]
    exact recon_eq X t.2.1 _ x1 g.o g.oU
  · obtain ⟨_, hge⟩ := last_ge X p (List.pairwise_cons.mpr ⟨hp, x1⟩)
    unfold lack
    rw [Bar_high fun y hy => hge _ (g.oU y hy)]
    omega
/-- the comprehension over places -/
theorem outR_range (f : Int → Int) : ∀ (p : Int) (X : List Int), (List.range X.length).filterMap (fun k => if f ((p :: X).getD k 0) ≠ f (X.getD k 0) then some (X.getD k 0, f ((p :: X).getD k 0) - f (X.getD k 0)) else none) = outR f p X
  | _, [] => rfl
  | p, x :: X => by
    rw [List.length_cons, List.range_succ_eq_map, List.filterMap_cons, List.filterMap_map]
    have ih := outR_range f x X
    have e : (fun k => if f ((p :: x :: X).getD k 0) ≠ f ((x :: X).getD k 0) then some ((x :: X).getD k 0, f ((p :: x :: X).getD k 0) - f ((x :: X).getD k 0)) else none) ∘ Nat.succ = fun k => if f ((x :: X).getD k 0) ≠ f (X.getD k 0) then some (X.getD k 0, f ((x :: X).getD k 0) - f (X.getD k 0)) else none := by
      funext k
      simp
    rw [e, ih, outR]
    by_cases h : f p = f x <;> simp [h]
theorem at_end (l : List D) (x : D) : atI (l ++ [x]) (-1) = some x := by
  unfold atI
  have e : ixN (l ++ [x]).length (-1) = some l.length := by
    simp [ixN]
    omega
  rw [e]
  show (l ++ [x])[l.length]? = some x
  simp
theorem at_fin (p : Int) (X : List Int) (f : Int → Int) (L : List D) (h : L = ((p :: X).map f).map .int) : atI L (-1) = some (.int (f ((p :: X).getD X.length 0))) := by
  subst h
  unfold atI
  have e : ixN (((p :: X).map f).map (.int : Int → D)).length (-1) = some X.length := by
    simp [ixN]
    omega
  rw [e]
  show (((p :: X).map f).map (.int : Int → D))[X.length]? = _
  rw [List.map_map, List.getElem?_map, List.getElem?_eq_getElem (by simp), List.getD_eq_getElem?_getD, List.getElem?_eq_getElem (by simp)]
  rfl
theorem at_rows (p : Int) (X : List Int) (f : Int → Int) (L : List D) (h : L = ((p :: X).map f).map .int) (k : Nat) (hk : k < X.length) : atI L (k : Int) = some (.int (f ((p :: X).getD k 0))) ∧ atI L ((k : Int) + 1) = some (.int (f (X.getD k 0))) := by
  subst h
  constructor
  · rw [List.map_map, atI_nat, List.getElem?_map, List.getElem?_eq_getElem (by simp; omega), List.getD_eq_getElem?_getD, List.getElem?_eq_getElem (by simp; omega)]
    rfl
  · rw [show (k : Int) + 1 = ((k + 1 : Nat) : Int) by omega, List.map_map, atI_nat, List.getElem?_map, List.getElem?_cons_succ, List.getElem?_eq_getElem hk, List.getD_eq_getElem?_getD, List.getElem?_eq_getElem hk]
    rfl
abbrev pw (t : Thr) (c : Int) : Thr := pwr 63 ([], [], 0) t c
/-! ### works of single steps, drawn -/
def sg1 : Stp → Prop
  | .put n => -999 ≤ n ∧ n ≤ 999
  | .take => True
  | .times _ _ => False
def Sgl (ws : List Stp) : Prop := ∀ s ∈ ws, sg1 s
theorem Sgl.ok {ws : List Stp} (d : Nat) (h : Sgl ws) : okW U0 d ws := by
  induction ws with
  | nil => simp [okW]
  | cons s ws ih =>
    have h1 := h s (List.mem_cons_self ..)
    simp only [okW]
    refine ⟨?_, ih fun t ht => h t (List.mem_cons_of_mem _ ht)⟩
    cases s with
    | put n => cases d <;> simp only [okS] <;> exact (U0_mem n).mpr h1
    | take => cases d <;> simp [okS]
    | times c vs => exact h1.elim
theorem Sgl.sz {ws : List Stp} (h : Sgl ws) : szW ws = ws.length := by
  induction ws with
  | nil => rfl
  | cons s ws ih =>
    have h1 := h s (List.mem_cons_self ..)
    have := ih fun t ht => h t (List.mem_cons_of_mem _ ht)
    simp only [szW, List.length_cons, this]
    cases s with
    | put n => simp only [szS]; omega
    | take => simp only [szS]; omega
    | times c vs => exact h1.elim
theorem single_die (d : Die) (most : Int) : ∃ (ws : List Stp) (d' : Die), 0 ≤ most → most ≤ 100000 → (Sgl ws ∧ (ws.length : Int) ≤ most ∧ ∀ n, .put n ∈ ws → -1 ≤ n ∧ n ≤ 2) ∧ F__law_single [.io d.m, .d (.int most)] = .ret (.d (ww ws)) [.io d'.m, .d (.int most)] := by
  by_cases h0 : 0 ≤ most
  rotate_left
  · exact ⟨[], d, fun h => absurd h h0⟩
  by_cases h1 : most ≤ 100000
  rotate_left
  · exact ⟨[], d, fun _ h => absurd h h1⟩
  suffices h : ∃ r fin, mkF 2 4 c__law_single [.io d.m, .d (.int most)] = .ret r fin ∧ ∃ (ws : List Stp) (d' : Die), (Sgl ws ∧ (ws.length : Int) ≤ most ∧ ∀ n, .put n ∈ ws → -1 ≤ n ∧ n ≤ 2) ∧ r = .d (ww ws) ∧ fin = [.io d'.m, .d (.int most)] by
    obtain ⟨_, _, e, h, d', k, rfl, rfl⟩ := h
    exact ⟨h, d', fun _ _ => ⟨k, e⟩⟩
  refine F_ex rfl fun Q hQ => ?_
  have r5 := next_rw d (most + 1) (by omega) (by omega)
  have b5 := d.b (most + 1) (by omega) (by omega)
  have en : fRange1 (fCons (fCallF F__law_next [.w, .r] (fCons (fVar 0) (fCons (fBin gAdd (fVar 1) (fC (.int 1))) fNil))) fNil) ⟨[some (.io 0), some (.d (.int most)), some (.own (.lst [])), none], [some d.m, none]⟩ = .ok ((List.range (d.v (most + 1)).toNat).map fun i => (.int (i : Nat) : D)) ⟨[some (.io 0), some (.d (.int most)), some (.own (.lst [])), none], [some (d.n (most + 1)).m, none]⟩ := range1_int (by simp [fSeq, fAsg, fCall, fCons, fNil, fVar, fAug, fExpr, fExtend, fBin, fC, fIf, fIfS, fRet, fRetN, fNext, fTest, fAnd, fOr, fNot, fAndV, fOrV, fNotV, fOfT, fChain, fNeg, fPar, fParT, fMut, fSetIx, fDPut, fDGet, fDGet2, fDAug, fDNew, fCallF, fSl, fPart, fNoPart, gSl, gN, gT, gL, gsName, gsNil, gsCons, isVar, Rz.bind, gOrC, gMin2, gMax2, gLen, gLenS, gLenD, gInt, gAbs, gTuple, gList, gDict, gOr, gI, gAddT, gAddL, gAddS, gRepL, gEqN, gInN, gIsN, nonB, S.toD, gIx, gIxS, S.seq, S.lst, S.der, S.mlst, S.get, S.put, S.res, S.tgt, mkArgs, mkArg, apartB, owEq, back, gAppend, gPop, gPopAt, tyM, gLst, gTup, allD, fExtend.isSelf, Option.or, sizeLine_eq, encP, isiR, isiD, isL, fIsi, fSortIt, noX, mkF, bodyF, start0, slots0, slot0, ioM, ioOk, finA, eqvI, eqvS, depI, depS, depB, depN, mGetK, mPutK, keyK, isDK, s_tp, s_tm, s_pt, s_pm, s_mp, s_mt, fRev, fSortSet, fCount, fFrz, fSortTup, fIndex, isT, gIdx, gCount, gRemove, gRepT, r5]) b5.1 (by omega)
  generalize hn : (d.v (most + 1)).toNat = n at en
  have hn4 : (n : Int) ≤ most := by omega
  simp [c__law_single, gSl, gN, gT, gL, gsName, gsNil, gsCons, isVar, gOrC, gMin2, gMax2, gLen, gLenS, gLenD, gInt, gAbs, gTuple, gList, gDict, gOr, gI, gAddT, gAddL, gAddS, gRepL, gEqN, gInN, gIsN, nonB, S.toD, gIx, gIxS, S.seq, S.lst, S.der, S.mlst, S.get, S.put, S.res, S.tgt, mkArgs, mkArg, apartB, owEq, back, gAppend, gPop, gPopAt, tyM, gLst, gTup, allD, fExtend.isSelf, Option.or, sizeLine_eq, isiR, isiD, isL, start0, slots0, slot0, ioM, ioOk, finA, eqvI, eqvS, depI, depS, depB, depN, mGetK, mPutK, keyK, isDK, s_tp, s_tm, s_pt, s_pm, s_mp, s_mt, isT, gIdx, gCount, gRemove, gRepT, u_fAsg, u_fCall, u_fCons, u_fNil, u_fVar, u_fAug, u_fExpr, u_fExtend, u_fBin, u_fC, u_fRet, u_fRetN, u_fNext, u_fTest, u_fNot, u_fChain, u_fNeg, u_fPar, u_fParT, u_fMut, u_fSetIx, u_fDPut, u_fDGet, u_fDGet2, u_fDAug, u_fDNew, u_fSl, u_fPart, u_fNoPart, u_fOfT, u_fNotV, u_fIsi, u_fSortIt, u_fTrue, u_fBrk, u_fCnt, u_fEnum, u_fRev, u_fSortSet, u_fCount, u_fFrz, u_fSortTup, u_fIndex, u_fCallF, callB_some, callD_ret, callE_some, b_ok, b_no, W_ok, W_no, W_bind, W_ite, bind_ite, thenQ_nx, thenQ_rt, thenQ_bk, thenQ_ct, W_seq, fIfS_eq, fIf_eq, fAnd_eq, fOr_eq, fAndV_eq, fOrV_eq, andK_b, orK_b, ite_okT, ite_okF, ite_okTd, ite_okFd, turnQ_nx, turnQ_ct, turnQ_bk, turnQ_rt, cutQ_nx, cutQ_rt, cutQ_bk, cutQ_ct, endOut]
  unfold s__law_single_1
  refine W_for (fun i : Nat => (.int (i : Nat) : D)) (List.range n) (fun pre _ st => ∃ (d : Die) (ws : List Stp) (v3 : Option R), st = ⟨[some (.io 0), some (.d (.int most)), some (.own (.lst (wsD ws))), v3], [some d.m, none]⟩ ∧ Sgl ws ∧ ws.length = pre.length ∧ ∀ n, .put n ∈ ws → -1 ≤ n ∧ n ≤ 2)
    en ⟨d.n (most + 1), [], none, by simp only [wsD], fun _ h => (nomatch h), rfl, fun _ h => (nomatch h)⟩ ?_ ?_
  · rintro st ⟨d2, ws, v3, rfl, sg, hl, hp⟩
    rw [List.length_range] at hl
    simp [gSl, gN, gT, gL, gsName, gsNil, gsCons, isVar, gOrC, gMin2, gMax2, gLen, gLenS, gLenD, gInt, gAbs, gTuple, gList, gDict, gOr, gI, gAddT, gAddL, gAddS, gRepL, gEqN, gInN, gIsN, nonB, S.toD, gIx, gIxS, S.seq, S.lst, S.der, S.mlst, S.get, S.put, S.res, S.tgt, mkArgs, mkArg, apartB, owEq, back, gAppend, gPop, gPopAt, tyM, gLst, gTup, allD, fExtend.isSelf, Option.or, sizeLine_eq, isiR, isiD, isL, start0, slots0, slot0, ioM, ioOk, finA, eqvI, eqvS, depI, depS, depB, depN, mGetK, mPutK, keyK, isDK, s_tp, s_tm, s_pt, s_pm, s_mp, s_mt, isT, gIdx, gCount, gRemove, gRepT, u_fAsg, u_fCall, u_fCons, u_fNil, u_fVar, u_fAug, u_fExpr, u_fExtend, u_fBin, u_fC, u_fRet, u_fRetN, u_fNext, u_fTest, u_fNot, u_fChain, u_fNeg, u_fPar, u_fParT, u_fMut, u_fSetIx, u_fDPut, u_fDGet, u_fDGet2, u_fDAug, u_fDNew, u_fSl, u_fPart, u_fNoPart, u_fOfT, u_fNotV, u_fIsi, u_fSortIt, u_fTrue, u_fBrk, u_fCnt, u_fEnum, u_fRev, u_fSortSet, u_fCount, u_fFrz, u_fSortTup, u_fIndex, u_fCallF, callB_some, callD_ret, callE_some, b_ok, b_no, W_ok, W_no, W_bind, W_ite, bind_ite, thenQ_nx, thenQ_rt, thenQ_bk, thenQ_ct, W_seq, fIfS_eq, fIf_eq, fAnd_eq, fOr_eq, fAndV_eq, fOrV_eq, andK_b, orK_b, ite_okT, ite_okF, ite_okTd, ite_okFd, turnQ_nx, turnQ_ct, turnQ_bk, turnQ_rt, cutQ_nx, cutQ_rt, cutQ_bk, cutQ_ct, endOut]
    exact hQ _ _ _ _ rfl ⟨ws, d2, ⟨sg, by omega, hp⟩, rfl, rfl⟩
  · rintro pre a post st N e ⟨d2, ws, v3, rfl, sg, hl, hp⟩ hN
    have hpre : pre.length < n := by
      have := congrArg List.length e
      simp at this
      omega
    have r1 := next_rw d2 2 (by omega) (by omega)
    have r2 := next_rw (d2.n 2) 4 (by omega) (by omega)
    have B2 := (d2.n 2).b 4 (by omega) (by omega)
    have hll : (wsD ws).length < 16777216 := by rw [wsD_map, List.length_map]; omega
    refine ⟨_, rfl, ?_⟩
    by_cases h : d2.v 2 = 0
    · simp [l__law_single_0, gSl, gN, gT, gL, gsName, gsNil, gsCons, isVar, gOrC, gMin2, gMax2, gLen, gLenS, gLenD, gInt, gAbs, gTuple, gList, gDict, gOr, gI, gAddT, gAddL, gAddS, gRepL, gEqN, gInN, gIsN, nonB, S.toD, gIx, gIxS, S.seq, S.lst, S.der, S.mlst, S.get, S.put, S.res, S.tgt, mkArgs, mkArg, apartB, owEq, back, gAppend, gPop, gPopAt, tyM, gLst, gTup, allD, fExtend.isSelf, Option.or, sizeLine_eq, isiR, isiD, isL, start0, slots0, slot0, ioM, ioOk, finA, eqvI, eqvS, depI, depS, depB, depN, mGetK, mPutK, keyK, isDK, s_tp, s_tm, s_pt, s_pm, s_mp, s_mt, isT, gIdx, gCount, gRemove, gRepT, u_fAsg, u_fCall, u_fCons, u_fNil, u_fVar, u_fAug, u_fExpr, u_fExtend, u_fBin, u_fC, u_fRet, u_fRetN, u_fNext, u_fTest, u_fNot, u_fChain, u_fNeg, u_fPar, u_fParT, u_fMut, u_fSetIx, u_fDPut, u_fDGet, u_fDGet2, u_fDAug, u_fDNew, u_fSl, u_fPart, u_fNoPart, u_fOfT, u_fNotV, u_fIsi, u_fSortIt, u_fTrue, u_fBrk, u_fCnt, u_fEnum, u_fRev, u_fSortSet, u_fCount, u_fFrz, u_fSortTup, u_fIndex, u_fCallF, callB_some, callD_ret, callE_some, b_ok, b_no, W_ok, W_no, W_bind, W_ite, bind_ite, thenQ_nx, thenQ_rt, thenQ_bk, thenQ_ct, W_seq, fIfS_eq, fIf_eq, fAnd_eq, fOr_eq, fAndV_eq, fOrV_eq, andK_b, orK_b, ite_okT, ite_okF, ite_okTd, ite_okFd, turnQ_nx, turnQ_ct, turnQ_bk, turnQ_rt, cutQ_nx, cutQ_rt, cutQ_bk, cutQ_ct, endOut, r1, h, hll]
      refine hN _ ⟨d2.n 2, ws ++ [.take], some (.d (.int (a : Nat))), by rw [wsD_app]; simp only [sD], fun s hs => ?_, by simp [hl], fun n hn => ?_⟩
      · rcases List.mem_append.mp hs with hs | hs
        · exact sg s hs
        · have : s = .take := by simpa using hs
          rw [this]; trivial
      · rcases List.mem_append.mp hn with hn | hn
        · exact hp n hn
        · simp at hn
    · simp [l__law_single_0, gSl, gN, gT, gL, gsName, gsNil, gsCons, isVar, gOrC, gMin2, gMax2, gLen, gLenS, gLenD, gInt, gAbs, gTuple, gList, gDict, gOr, gI, gAddT, gAddL, gAddS, gRepL, gEqN, gInN, gIsN, nonB, S.toD, gIx, gIxS, S.seq, S.lst, S.der, S.mlst, S.get, S.put, S.res, S.tgt, mkArgs, mkArg, apartB, owEq, back, gAppend, gPop, gPopAt, tyM, gLst, gTup, allD, fExtend.isSelf, Option.or, sizeLine_eq, isiR, isiD, isL, start0, slots0, slot0, ioM, ioOk, finA, eqvI, eqvS, depI, depS, depB, depN, mGetK, mPutK, keyK, isDK, s_tp, s_tm, s_pt, s_pm, s_mp, s_mt, isT, gIdx, gCount, gRemove, gRepT, u_fAsg, u_fCall, u_fCons, u_fNil, u_fVar, u_fAug, u_fExpr, u_fExtend, u_fBin, u_fC, u_fRet, u_fRetN, u_fNext, u_fTest, u_fNot, u_fChain, u_fNeg, u_fPar, u_fParT, u_fMut, u_fSetIx, u_fDPut, u_fDGet, u_fDGet2, u_fDAug, u_fDNew, u_fSl, u_fPart, u_fNoPart, u_fOfT, u_fNotV, u_fIsi, u_fSortIt, u_fTrue, u_fBrk, u_fCnt, u_fEnum, u_fRev, u_fSortSet, u_fCount, u_fFrz, u_fSortTup, u_fIndex, u_fCallF, callB_some, callD_ret, callE_some, b_ok, b_no, W_ok, W_no, W_bind, W_ite, bind_ite, thenQ_nx, thenQ_rt, thenQ_bk, thenQ_ct, W_seq, fIfS_eq, fIf_eq, fAnd_eq, fOr_eq, fAndV_eq, fOrV_eq, andK_b, orK_b, ite_okT, ite_okF, ite_okTd, ite_okFd, turnQ_nx, turnQ_ct, turnQ_bk, turnQ_rt, cutQ_nx, cutQ_rt, cutQ_bk, cutQ_ct, endOut, r1, r2, h, hll]
      refine hN _ ⟨(d2.n 2).n 4, ws ++ [.put ((d2.n 2).v 4 - 1)], some (.d (.int (a : Nat))), by rw [wsD_app]; simp only [sD], fun s hs => ?_, by simp [hl], fun n hn => ?_⟩
      · rcases List.mem_append.mp hs with hs | hs
        · exact sg s hs
        · have : s = .put ((d2.n 2).v 4 - 1) := by simpa using hs
          rw [this]
          show -999 ≤ (d2.n 2).v 4 - 1 ∧ (d2.n 2).v 4 - 1 ≤ 999
          omega
      · rcases List.mem_append.mp hn with hn | hn
        · exact hp n hn
        · have : n = (d2.n 2).v 4 - 1 := by simpa using hn
          omega
noncomputable def Die.sgV (d : Die) (most : Int) : List Stp := Classical.choose (single_die d most)
noncomputable def Die.sgN (d : Die) (most : Int) : Die := Classical.choose (Classical.choose_spec (single_die d most))
theorem Die.sgB (d : Die) (most : Int) (h0 : 0 ≤ most) (h1 : most ≤ 100000) : Sgl (d.sgV most) ∧ ((d.sgV most).length : Int) ≤ most ∧ ∀ n, .put n ∈ d.sgV most → -1 ≤ n ∧ n ≤ 2 := (Classical.choose_spec (Classical.choose_spec (single_die d most)) h0 h1).1
theorem sg_rw (d : Die) (most : Int) (h0 : 0 ≤ most) (h1 : most ≤ 100000) : F__law_single [.io d.m, .d (.int most)] = .ret (.d (ww (d.sgV most))) [.io (d.sgN most).m, .d (.int most)] := (Classical.choose_spec (Classical.choose_spec (single_die d most)) h0 h1).2
/-! ### the algebra of often -/
theorem pw_gd {U : List Int} {t : Thr} {c : Int} (g : GdT U t) (h0 : 0 ≤ c) (h1 : c < 2 ^ 62) : GdT U (pw t c) := (pwr_none g h0 h1).1
theorem pw_bar {U : List Int} {t : Thr} {c : Int} (g : GdT U t) (h0 : 0 ≤ c) (h1 : c < 2 ^ 62) (n : Int) : Bar (pw t c).1 n = pB (Bar t.1 n) (bal t n) c ∧ bal (pw t c) n = c * bal t n := (pwr_none g h0 h1).2 n
theorem bal_le {U : List Int} {t : Thr} (g : GdT U t) (n : Int) : bal t n ≤ Bar t.1 n := by
  have := lack_nonneg g n
  unfold bal
  omega
theorem mul_sgn (m e : Int) (h : 0 ≤ m) : (0 ≤ e → 0 ≤ m * e) ∧ (e ≤ 0 → m * e ≤ 0) := by
  refine ⟨fun h1 => Int.mul_nonneg h h1, fun h1 => ?_⟩
  have := Int.mul_nonneg h (show 0 ≤ -e by omega)
  rw [Int.mul_neg] at this
  omega
theorem pB_add (b e m1 m2 : Int) (hb : 0 ≤ b) (he : e ≤ b) (h1 : 0 ≤ m1) (h2 : 0 ≤ m2) : max (pB b e m1 + m2 * e) (pB b e m2) = pB b e (m1 + m2) := by
  unfold pB
  have s2 := mul_sgn m2 e h2
  by_cases p1 : 0 < m1
  · by_cases p2 : 0 < m2
    · rw [if_pos p1, if_pos p2, if_pos (by omega)]
      have e1 : (m1 + m2 - 1) * e = (m1 - 1) * e + m2 * e := by rw [← Int.add_mul]; congr 1; omega
      have e2 : (m2 - 1) * e = m2 * e - e := by rw [Int.sub_mul]; omega
      have s1 := mul_sgn (m1 - 1) e (by omega)
      have s3 := mul_sgn (m2 - 1) e (by omega)
      rw [e1, e2]
      rw [e2] at s3
      rcases Int.le_total 0 e with h | h
      · have := s1.1 h; have := s2.1 h; have := s3.1 h; omega
      · have := s1.2 h; have := s2.2 h; have := s3.2 h; omega
    · have : m2 = 0 := by omega
      subst this
      rw [if_pos p1, if_neg p2, if_pos (by omega)]
      have : m1 + 0 - 1 = m1 - 1 := by omega
      rw [this]
      omega
  · have : m1 = 0 := by omega
    subst this
    rw [if_neg p1]
    by_cases p2 : 0 < m2
    · rw [if_pos p2, if_pos (by omega)]
      have e0 : 0 + m2 - 1 = m2 - 1 := by omega
      have e2 : (m2 - 1) * e = m2 * e - e := by rw [Int.sub_mul]; omega
      rw [e0, e2]
      omega
    · have : m2 = 0 := by omega
      subst this
      simp
theorem pB_mul (b e m1 m2 : Int) (hb : 0 ≤ b) (he : e ≤ b) (h1 : 0 ≤ m1) (h2 : 0 ≤ m2) : pB (pB b e m1) (m1 * e) m2 = pB b e (m1 * m2) := by
  unfold pB
  by_cases p2 : 0 < m2
  · rw [if_pos p2]
    by_cases p1 : 0 < m1
    · have p3 : 0 < m1 * m2 := Int.mul_pos p1 p2
      rw [if_pos p1, if_pos p3]
      have e1 : (m2 - 1) * (m1 * e) = m1 * m2 * e - m1 * e := by rw [Int.sub_mul, Int.one_mul, ← Int.mul_assoc, Int.mul_comm m2 m1]
      have e2 : (m1 * m2 - 1) * e = m1 * m2 * e - e := by rw [Int.sub_mul]; omega
      have e3 : (m1 - 1) * e = m1 * e - e := by rw [Int.sub_mul]; omega
      have s1 := mul_sgn (m1 - 1) e (by omega)
      have s2 := mul_sgn (m2 - 1) (m1 * e) (by omega)
      have s3 := mul_sgn m1 e (by omega)
      have s4 := mul_sgn (m1 * m2 - 1) e (by omega)
      rw [e1] at s2 ⊢
      rw [e2] at s4 ⊢
      rw [e3] at s1 ⊢
      rcases Int.le_total 0 e with h | h
      · have := s1.1 h; have := s3.1 h; have := s2.1 this; have := s4.1 h; omega
      · have := s1.2 h; have := s3.2 h; have := s2.2 this; have := s4.2 h; omega
    · have : m1 = 0 := by omega
      subst this
      simp
  · have : m2 = 0 := by omega
    subst this
    simp
theorem pw_add {U : List Int} {t : Thr} {a b : Int} (g : GdT U t) (ha : 0 ≤ a) (hb : 0 ≤ b) (h : a + b < 2 ^ 62) : bhd (pw t a) (pw t b) = pw t (a + b) :=
  thr_ext (bhd_gd (pw_gd g ha (by omega)) (pw_gd g hb (by omega))) (pw_gd g (by omega) h)
    (fun n => by
      rw [(bhd_bar (pw_gd g ha (by omega)) (pw_gd g hb (by omega)) n).1, (pw_bar g ha (by omega) n).1, (pw_bar g hb (by omega) n).1, (pw_bar g hb (by omega) n).2, (pw_bar g (by omega) h n).1]
      exact pB_add _ _ _ _ (Bar_nonneg g.l n) (bal_le g n) ha hb)
    fun n => by
      rw [(bhd_bar (pw_gd g ha (by omega)) (pw_gd g hb (by omega)) n).2, (pw_bar g ha (by omega) n).2, (pw_bar g hb (by omega) n).2, (pw_bar g (by omega) h n).2, Int.add_mul]
theorem pw_mul {U : List Int} {t : Thr} {a b : Int} (g : GdT U t) (ha : 0 ≤ a) (hb : 0 ≤ b) (h1 : a < 2 ^ 62) (h2 : b < 2 ^ 62) (h : a * b < 2 ^ 62) : pw (pw t a) b = pw t (a * b) := by
  have ga := pw_gd g ha h1
  have hab := Int.mul_nonneg ha hb
  exact thr_ext (pw_gd ga hb h2) (pw_gd g hab h)
    (fun n => by
      rw [(pw_bar ga hb h2 n).1, (pw_bar g ha h1 n).1, (pw_bar g ha h1 n).2, (pw_bar g hab h n).1]
      exact pB_mul _ _ _ _ (Bar_nonneg g.l n) (bal_le g n) ha hb)
    fun n => by
      rw [(pw_bar ga hb h2 n).2, (pw_bar g ha h1 n).2, (pw_bar g hab h n).2, ← Int.mul_assoc, Int.mul_comm b a]
theorem pw_one {U : List Int} {t : Thr} (g : GdT U t) : pw t 1 = t :=
  thr_ext (pw_gd g (by omega) (by omega)) g (fun n => by rw [(pw_bar g (by omega) (by omega) n).1]; simp [pB]) fun n => by rw [(pw_bar g (by omega) (by omega) n).2]; simp
theorem pw_zero (t : Thr) : pw t 0 = ([], [], 0) := rfl
/-- sums of an often -/
theorem pw_hi {U : List Int} {t : Thr} {c : Int} (g : GdT U t) (h0 : 0 ≤ c) (h1 : c < 2 ^ 62) : hiT (pw t c) = c * hiT t ∧ ∀ n, tot (pw t c) n = c * tot t n := by
  obtain ⟨a, b⟩ := pwr_tot 63 ([], [], 0) t c none_gd g h0 (by omega)
  exact ⟨by unfold pw; rw [b, none_hi]; omega, fun n => by unfold pw; rw [a, none_tot]; omega⟩
/-- the sum of all that a three has -/
def allT (t : Thr) : Int := sumC t.1 + sumC t.2.1
theorem tot_big (t : Thr) : ∃ N, ∀ n, N ≤ n → tot t n = allT t := by
  obtain ⟨a, ha⟩ := bar_bigN t.1
  obtain ⟨b, hb⟩ := bar_bigN t.2.1
  exact ⟨max a b, fun n hn => by unfold tot allT; rw [ha n (by omega), hb n (by omega)]⟩
theorem pw_all {U : List Int} {t : Thr} {c : Int} (g : GdT U t) (h0 : 0 ≤ c) (h1 : c < 2 ^ 62) : allT (pw t c) = c * allT t := by
  obtain ⟨a, ha⟩ := tot_big t
  obtain ⟨b, hb⟩ := tot_big (pw t c)
  rw [← hb (max a b) (by omega), (pw_hi g h0 h1).2, ha _ (by omega)]
theorem tk_of {t : Thr} (g : GdT U0 t) (a : t.1.length ≤ 40) (b : t.2.1.length ≤ 40) (h1 : allT t ≤ 1000000000000000000) (h2 : hiT t ≤ 1000000000000000000) : TkC t := by
  have s1 := sumC_nonneg g.l
  have s2 := sumC_nonneg g.o
  have i := g.i
  unfold allT at h1
  unfold hiT at h2
  exact ⟨g, a, b, fun y hy => by have := le_sumC g.l y hy; omega, fun y hy => by have := le_sumC g.o y hy; omega, by omega⟩
theorem pw_keys {t : Thr} {c : Int} (g : GdT U0 t) (h0 : 0 ≤ c) (h1 : c < 2 ^ 62) : (pw t c).1.length ≤ t.1.length + t.2.1.length ∧ (pw t c).2.1.length ≤ t.1.length + t.2.1.length := by
  have g2 : GdT (t.1.map (·.1) ++ t.2.1.map (·.1)) t := ⟨g.l, g.o, fun y hy => List.mem_append_left _ (List.mem_map_of_mem hy), fun y hy => List.mem_append_right _ (List.mem_map_of_mem hy), g.i⟩
  have g3 := pw_gd g2 h0 h1
  have a := gd_lenV g3.l g3.lU
  have b := gd_lenV g3.o g3.oU
  simp at a b
  omega
/-- a work of single steps has a small three -/
theorem pc_app (ws : List Stp) (s : Stp) : pc (ws ++ [s]) = (bothM (pc ws).1 (pcS s).1, (pc ws).2 + (pcS s).2) := by
  unfold pc
  rw [pcW_fold, pcW_fold, List.foldl_append]
  rfl
theorem sg_pc : ∀ (n : Nat) (ws : List Stp), ws.length = n → Sgl ws → sumC (pc ws).1 + (pc ws).2 = ws.length := by
  intro n
  induction n with
  | zero =>
    intro ws h _
    have : ws = [] := List.eq_nil_of_length_eq_zero h
    subst this
    simp [pc, pcW, sumC]
  | succ n ih =>
    intro ws h sg
    obtain ⟨vs, s, rfl⟩ : ∃ vs s, ws = vs ++ [s] := ⟨ws.dropLast, ws.getLast (by intro e; rw [e] at h; cases h), (List.dropLast_concat_getLast _).symm⟩
    have sv : Sgl vs := fun t ht => sg t (List.mem_append_left _ ht)
    have ss := sg s (List.mem_append_right _ (List.mem_cons_self ..))
    have lv : vs.length = n := by simp at h; omega
    have iv := ih vs lv sv
    obtain ⟨gv, _, _⟩ := pc_ok (sv.ok 2)
    obtain ⟨gs, _, _⟩ := pcS_ok (U := U0) 2 s (okW_mem (sg.ok 2) s (by simp))
    rw [pc_app]
    simp only
    rw [(both_spec gv gs).2.2.1, List.length_append]
    cases s with
    | put k => simp only [pcS, sumC_cons]; simp [sumC] at *; omega
    | take => simp only [pcS]; simp [sumC] at *; omega
    | times c us => exact ss.elim
theorem sg_small {ws : List Stp} (sg : Sgl ws) : allT (th ws) ≤ ws.length ∧ hiT (th ws) ≤ ws.length ∧ (th ws).1.length ≤ ws.length ∧ (th ws).2.1.length ≤ ws.length := by
  obtain ⟨h1, h2⟩ := th_tot (sg.ok 2)
  have h3 := sg_pc _ ws rfl sg
  obtain ⟨gc, _, ic⟩ := pc_ok (sg.ok 2)
  obtain ⟨a, ha⟩ := tot_big (th ws)
  obtain ⟨b, hb⟩ := bar_bigN (pc ws).1
  have e : allT (th ws) = sumC (pc ws).1 := by rw [← ha (max a b) (by omega), h1, hb _ (by omega)]
  have s0 := sumC_nonneg gc
  have g : GdT (putsW ws) (th ws) := (thrW_ok 2 ws ([], [], 0) (okW_re 2 ws (sg.ok 2) fun n hn => hn) none_gd).1
  have l1 := gd_lenV g.l g.lU
  have l2 := gd_lenV g.o g.oU
  have l3 := putsW_len ws
  rw [sg.sz] at l3
  omega
/-! ### what parts two threes -/
theorem ix3 (x y z : D) : atI [x, y, z] (0 : Int) = some x ∧ atI [x, y, z] (1 : Int) = some y ∧ atI [x, y, z] (2 : Int) = some z := ⟨rfl, rfl, rfl⟩
theorem seq_hhT (st : S) (h : Hea) : st.seq (.d (hh h)) = some (h.map encP) := rfl
theorem q_beyond (t : Thr) (x : Int) (hl : t.2.1.length ≤ 16777216) : ∃ ns : List Int, ns.sum = sumC t.2.1 - Bar t.2.1 x ∧ q_beyond_2 ⟨[some (.d (tt t)), some (.d (.int x)), none, none], [none, none]⟩ = .ok (.own (.lst (ns.map .int))) ⟨[some (.d (tt t)), some (.d (.int x)), none, none], [none, none]⟩ := by
  have e := fLc_list (ks := [2, 3]) (t := gT 2 (gsName 2 (gsName 3 gsNil))) (ft := t_beyond_0) (fe := e_beyond_1) (fi := fSeqI (fBin gIxX (fVar 0) (fC (.int 1)))) (st := ⟨[some (.d (tt t)), some (.d (.int x)), none, none], [none, none]⟩) encP (fun z => if x < z.1 then some (.int z.2) else none) t.2.1
    (by simp [fSeqI, fSeq, fAsg, fCall, fCons, fNil, fVar, fAug, fExpr, fExtend, fBin, fC, fIf, fIfS, fRet, fRetN, fNext, fTest, fAnd, fOr, fNot, fAndV, fOrV, fNotV, fOfT, fChain, fNeg, fPar, fParT, fMut, fSetIx, fDPut, fDGet, fDGet2, fDAug, fDNew, fCallF, fSl, fPart, fNoPart, gSl, gN, gT, gL, gsName, gsNil, gsCons, isVar, Rz.bind, gOrC, gMin2, gMax2, gLen, gLenS, gLenD, gInt, gAbs, gTuple, gList, gDict, gOr, gI, gAddT, gAddL, gAddS, gRepL, gEqN, gInN, gIsN, nonB, S.toD, gIx, gIxS, S.seq, S.lst, S.der, S.mlst, S.get, S.put, S.res, S.tgt, mkArgs, mkArg, apartB, owEq, back, gAppend, gPop, gPopAt, tyM, gLst, gTup, allD, fExtend.isSelf, Option.or, sizeLine_eq, encP, isiR, isiD, isL, fIsi, fSortIt, noX, mkF, bodyF, start0, slots0, slot0, ioM, ioOk, finA, eqvI, eqvS, depI, depS, depB, depN, mGetK, mPutK, keyK, isDK, s_tp, s_tm, s_pt, s_pm, s_mp, s_mt, fRev, fSortSet, fCount, fFrz, fSortTup, fIndex, isT, gIdx, gCount, gRemove, gRepT, ix3]; rfl) rfl hl
    (fun z hz => by
      refine ⟨_, rfl, ?_⟩
      by_cases hc : x < z.1 <;> simp [t_beyond_0, e_beyond_1, gSl, gN, gT, gL, gsName, gsNil, gsCons, isVar, gOrC, gMin2, gMax2, gLen, gLenS, gLenD, gInt, gAbs, gTuple, gList, gDict, gOr, gI, gAddT, gAddL, gAddS, gRepL, gEqN, gInN, gIsN, nonB, S.toD, gIx, gIxS, S.seq, S.lst, S.der, S.mlst, S.get, S.put, S.res, S.tgt, mkArgs, mkArg, apartB, owEq, back, gAppend, gPop, gPopAt, tyM, gLst, gTup, allD, fExtend.isSelf, Option.or, sizeLine_eq, isiR, isiD, isL, start0, slots0, slot0, ioM, ioOk, finA, eqvI, eqvS, depI, depS, depB, depN, mGetK, mPutK, keyK, isDK, s_tp, s_tm, s_pt, s_pm, s_mp, s_mt, isT, gIdx, gCount, gRemove, gRepT, u_fAsg, u_fCall, u_fCons, u_fNil, u_fVar, u_fAug, u_fExpr, u_fExtend, u_fBin, u_fC, u_fRet, u_fRetN, u_fNext, u_fTest, u_fNot, u_fChain, u_fNeg, u_fPar, u_fParT, u_fMut, u_fSetIx, u_fDPut, u_fDGet, u_fDGet2, u_fDAug, u_fDNew, u_fSl, u_fPart, u_fNoPart, u_fOfT, u_fNotV, u_fIsi, u_fSortIt, u_fTrue, u_fBrk, u_fCnt, u_fEnum, u_fRev, u_fSortSet, u_fCount, u_fFrz, u_fSortTup, u_fIndex, u_fCallF, callB_some, callD_ret, callE_some, b_ok, b_no, W_ok, W_no, W_bind, W_ite, bind_ite, thenQ_nx, thenQ_rt, thenQ_bk, thenQ_ct, W_seq, fIfS_eq, fIf_eq, fAnd_eq, fOr_eq, fAndV_eq, fOrV_eq, andK_b, orK_b, ite_okT, ite_okF, ite_okTd, ite_okFd, turnQ_nx, turnQ_ct, turnQ_bk, turnQ_rt, cutQ_nx, cutQ_rt, cutQ_bk, cutQ_ct, endOut, wipeS, wipeD, hc])
  have e1 : ∀ h : Hea, ∃ ns : List Int, h.filterMap (fun z => if x < z.1 then some (PyData.int z.2) else none) = ns.map .int ∧ ns.sum = sumC h - Bar h x := fun h => by
    induction h with
    | nil => exact ⟨[], rfl, rfl⟩
    | cons z h ih =>
      obtain ⟨ns, h1, h2⟩ := ih
      by_cases hc : x < z.1
      · exact ⟨z.2 :: ns, by rw [List.filterMap_cons, if_pos hc, h1]; rfl, by rw [Bar_cons, sumC_cons, if_neg (by omega), List.sum_cons, h2]; omega⟩
      · exact ⟨ns, by rw [List.filterMap_cons, if_neg hc, h1], by rw [Bar_cons, sumC_cons, if_pos (by omega), h2]; omega⟩
  obtain ⟨ns, e2, e3⟩ := e1 t.2.1
  rw [e2] at e
  exact ⟨ns, e3, e⟩
theorem beyond_rw (t : Thr) (x : Int) (hl : t.2.1.length ≤ 16777216) : F_beyond [.d (tt t), .d (.int x)] = .ret (.d (.int (lack t x))) [.d (tt t), .d (.int x)] := by
  obtain ⟨ns, h, e⟩ := q_beyond t x hl
  have h2 : t.2.2 + ns.sum = lack t x := by unfold lack; omega
  simp [F_beyond, c_beyond, fSeq, fAsg, fCall, fCons, fNil, fVar, fAug, fExpr, fExtend, fBin, fC, fIf, fIfS, fRet, fRetN, fNext, fTest, fAnd, fOr, fNot, fAndV, fOrV, fNotV, fOfT, fChain, fNeg, fPar, fParT, fMut, fSetIx, fDPut, fDGet, fDGet2, fDAug, fDNew, fCallF, fSl, fPart, fNoPart, gSl, gN, gT, gL, gsName, gsNil, gsCons, isVar, Rz.bind, gOrC, gMin2, gMax2, gLen, gLenS, gLenD, gInt, gAbs, gTuple, gList, gDict, gOr, gI, gAddT, gAddL, gAddS, gRepL, gEqN, gInN, gIsN, nonB, S.toD, gIx, gIxS, S.seq, S.lst, S.der, S.mlst, S.get, S.put, S.res, S.tgt, mkArgs, mkArg, apartB, owEq, back, gAppend, gPop, gPopAt, tyM, gLst, gTup, allD, fExtend.isSelf, Option.or, sizeLine_eq, encP, isiR, isiD, isL, fIsi, fSortIt, noX, mkF, bodyF, start0, slots0, slot0, ioM, ioOk, finA, eqvI, eqvS, depI, depS, depB, depN, mGetK, mPutK, keyK, isDK, s_tp, s_tm, s_pt, s_pm, s_mp, s_mt, fRev, fSortSet, fCount, fFrz, fSortTup, fIndex, isT, gIdx, gCount, gRemove, gRepT, ix3, e, gSum, ints?_map, h2]
def outKeys (s t : Thr) : List Int := -1000000 :: (s.2.1.map (·.1) ++ t.2.1.map (·.1))
theorem q_bars (s t : Thr) (x2 : Option R) (γ : List (Option M)) (hl : s.2.1.length + t.2.1.length ≤ 1000) : q_bars_of_1 ⟨[some (.d (tt s)), some (.d (tt t)), x2, none, none], γ⟩ = .ok (.own (.lst ((s.2.1.map (·.1) ++ t.2.1.map (·.1)).map .int))) ⟨[some (.d (tt s)), some (.d (tt t)), x2, none, none], γ⟩ := by
  have hl1 : s.2.1.length + t.2.1.length ≤ 16777216 := by omega
  have e := fLc_list (ks := [3, 4]) (t := gT 2 (gsName 3 (gsName 4 gsNil))) (ft := fTrue) (fe := e_bars_of_0) (fi := fSeqI (fBin gAdd (fBin gIxX (fVar 0) (fC (.int 1))) (fBin gIxX (fVar 1) (fC (.int 1))))) (st := ⟨[some (.d (tt s)), some (.d (tt t)), x2, none, none], γ⟩) (st1 := ⟨[some (.d (tt s)), some (.d (tt t)), x2, none, none], γ⟩) encP (fun z => some (.int z.1)) (s.2.1 ++ t.2.1)
    (by simp [fSeqI, fSeq, fAsg, fCall, fCons, fNil, fVar, fAug, fExpr, fExtend, fBin, fC, fIf, fIfS, fRet, fRetN, fNext, fTest, fAnd, fOr, fNot, fAndV, fOrV, fNotV, fOfT, fChain, fNeg, fPar, fParT, fMut, fSetIx, fDPut, fDGet, fDGet2, fDAug, fDNew, fCallF, fSl, fPart, fNoPart, gSl, gN, gT, gL, gsName, gsNil, gsCons, isVar, Rz.bind, gOrC, gMin2, gMax2, gLen, gLenS, gLenD, gInt, gAbs, gTuple, gList, gDict, gOr, gI, gAddT, gAddL, gAddS, gRepL, gEqN, gInN, gIsN, nonB, S.toD, gIx, gIxS, S.seq, S.lst, S.der, S.mlst, S.get, S.put, S.res, S.tgt, mkArgs, mkArg, apartB, owEq, back, gAppend, gPop, gPopAt, tyM, gLst, gTup, allD, fExtend.isSelf, Option.or, sizeLine_eq, encP, isiR, isiD, isL, fIsi, fSortIt, noX, mkF, bodyF, start0, slots0, slot0, ioM, ioOk, finA, eqvI, eqvS, depI, depS, depB, depN, mGetK, mPutK, keyK, isDK, s_tp, s_tm, s_pt, s_pm, s_mp, s_mt, fRev, fSortSet, fCount, fFrz, fSortTup, fIndex, isT, gIdx, gCount, gRemove, gRepT, ix3, hh_tup, hl1]) rfl (by rw [List.length_append]; omega)
    (fun z hz => ⟨_, rfl, by simp [fTrue, e_bars_of_0, gSl, gN, gT, gL, gsName, gsNil, gsCons, isVar, gOrC, gMin2, gMax2, gLen, gLenS, gLenD, gInt, gAbs, gTuple, gList, gDict, gOr, gI, gAddT, gAddL, gAddS, gRepL, gEqN, gInN, gIsN, nonB, S.toD, gIx, gIxS, S.seq, S.lst, S.der, S.mlst, S.get, S.put, S.res, S.tgt, mkArgs, mkArg, apartB, owEq, back, gAppend, gPop, gPopAt, tyM, gLst, gTup, allD, fExtend.isSelf, Option.or, sizeLine_eq, isiR, isiD, isL, start0, slots0, slot0, ioM, ioOk, finA, eqvI, eqvS, depI, depS, depB, depN, mGetK, mPutK, keyK, isDK, s_tp, s_tm, s_pt, s_pm, s_mp, s_mt, isT, gIdx, gCount, gRemove, gRepT, u_fAsg, u_fCall, u_fCons, u_fNil, u_fVar, u_fAug, u_fExpr, u_fExtend, u_fBin, u_fC, u_fRet, u_fRetN, u_fNext, u_fTest, u_fNot, u_fChain, u_fNeg, u_fPar, u_fParT, u_fMut, u_fSetIx, u_fDPut, u_fDGet, u_fDGet2, u_fDAug, u_fDNew, u_fSl, u_fPart, u_fNoPart, u_fOfT, u_fNotV, u_fIsi, u_fSortIt, u_fTrue, u_fBrk, u_fCnt, u_fEnum, u_fRev, u_fSortSet, u_fCount, u_fFrz, u_fSortTup, u_fIndex, u_fCallF, callB_some, callD_ret, callE_some, b_ok, b_no, W_ok, W_no, W_bind, W_ite, bind_ite, thenQ_nx, thenQ_rt, thenQ_bk, thenQ_ct, W_seq, fIfS_eq, fIf_eq, fAnd_eq, fOr_eq, fAndV_eq, fOrV_eq, andK_b, orK_b, ite_okT, ite_okF, ite_okTd, ite_okFd, turnQ_nx, turnQ_ct, turnQ_bk, turnQ_rt, cutQ_nx, cutQ_rt, cutQ_bk, cutQ_ct, endOut, wipeS, wipeD]⟩)
  rw [filterMap_some] at e
  have e2 : (s.2.1.map (·.1) ++ t.2.1.map (·.1)).map PyData.int = (s.2.1 ++ t.2.1).map fun z => .int z.1 := by rw [← List.map_append, List.map_map]; rfl
  rw [e2]
  exact e
theorem bars_rw (s t : Thr) (hl : s.2.1.length + t.2.1.length ≤ 62) : F_bars_of [.d (tt s), .d (tt t)] = .ret (.own (.lst ((sset (outKeys s t)).map .int))) [.d (tt s), .d (tt t)] := by
  have e := fun x2 => q_bars s t x2 [none, none] (by omega)
  have e2 : ints? (PyData.int (-1000000) :: (s.2.1.map (·.1) ++ t.2.1.map (·.1)).map .int) = some (outKeys s t) := ints?_map (outKeys s t)
  have e3 : (outKeys s t).length < 64 := by simp [outKeys]; omega
  have e4 : 1 + (s.2.1.map (·.1) ++ t.2.1.map (·.1)).length ≤ 16777216 := by simp; omega
  generalize s.2.1.map (·.1) ++ t.2.1.map (·.1) = ks at *
  simp [F_bars_of, c_bars_of, fSeq, fAsg, fCall, fCons, fNil, fVar, fAug, fExpr, fExtend, fBin, fC, fIf, fIfS, fRet, fRetN, fNext, fTest, fAnd, fOr, fNot, fAndV, fOrV, fNotV, fOfT, fChain, fNeg, fPar, fParT, fMut, fSetIx, fDPut, fDGet, fDGet2, fDAug, fDNew, fCallF, fSl, fPart, fNoPart, gSl, gN, gT, gL, gsName, gsNil, gsCons, isVar, Rz.bind, gOrC, gMin2, gMax2, gLen, gLenS, gLenD, gInt, gAbs, gTuple, gList, gDict, gOr, gI, gAddT, gAddL, gAddS, gRepL, gEqN, gInN, gIsN, nonB, S.toD, gIx, gIxS, S.seq, S.lst, S.der, S.mlst, S.get, S.put, S.res, S.tgt, mkArgs, mkArg, apartB, owEq, back, gAppend, gPop, gPopAt, tyM, gLst, gTup, allD, fExtend.isSelf, Option.or, sizeLine_eq, encP, isiR, isiD, isL, fIsi, fSortIt, noX, mkF, bodyF, start0, slots0, slot0, ioM, ioOk, finA, eqvI, eqvS, depI, depS, depB, depN, mGetK, mPutK, keyK, isDK, s_tp, s_tm, s_pt, s_pm, s_mp, s_mt, fRev, fSortSet, fCount, fFrz, fSortTup, fIndex, isT, gIdx, gCount, gRemove, gRepT, e, e2, e3, e4]
def vals (s t : Thr) (Y : List Int) : List Int := Y.filterMap fun x => if lack s x ≠ lack t x then some (min (lack s x) (lack t x) + 1) else none
def told (m : Option Int) : D := match m with
  | some m => .tuple [.tuple [.int (-1000000), .int m]]
  | none => .none
def prt (s t : Thr) : D := if s.1 = t.1 then told (lmin (vals s t (sset (outKeys s t)))) else .tuple []
theorem vals_snoc (s t : Thr) (pre : List Int) (x : Int) : vals s t (pre ++ [x]) = vals s t pre ++ if lack s x ≠ lack t x then [min (lack s x) (lack t x) + 1] else [] := by
  unfold vals
  rw [List.filterMap_append]
  congr 1
  by_cases h : lack s x = lack t x <;> simp [h]
theorem ints2 (a b : Int) : ints? [.int a, .int b] = some [a, b] := ints?_map [a, b]
theorem ix2a (x y : D) : atI [x, y] (0 : Int) = some x := rfl
theorem ix2b (x y : D) : atI [x, y] (1 : Int) = some y := rfl
theorem eqv_l0 (d : D) (ds : List D) : PyData.eqv (.list (d :: ds)) (.list []) = false := by simp [PyData.eqv, PyData.eqvAll]
theorem min_l0 (x : Nat) : min x (PyData.list []).depth ≤ 60 := by simp [PyData.depth, PyData.depthAll]; omega
theorem parting_rw (s t : Thr) (hl : s.2.1.length + t.2.1.length ≤ 62) : F_parting [.d (tt s), .d (tt t)] = .ret (.d (prt s t)) [.d (tt s), .d (tt t)] := by
  refine F_of rfl fun Q hQ => ?_
  by_cases hh1 : s.1 = t.1
  · have e1 := bars_rw s t hl
    have ep : prt s t = told (lmin (vals s t (sset (outKeys s t)))) := if_pos hh1
    have lY : (sset (outKeys s t)).length ≤ 16777215 := by
      have := nodup_len (l := sset (outKeys s t)) (V := outKeys s t) ((sset_spec _).1.imp fun h => by omega) fun x hx => ((sset_spec _).2 x).mp hx
      have : (outKeys s t).length ≤ 63 := by simp [outKeys]; omega
      omega
    generalize sset (outKeys s t) = Y at *
    simp [c_parting, gSl, gN, gT, gL, gsName, gsNil, gsCons, isVar, gOrC, gMin2, gMax2, gLen, gLenS, gLenD, gInt, gAbs, gTuple, gList, gDict, gOr, gI, gAddT, gAddL, gAddS, gRepL, gEqN, gInN, gIsN, nonB, S.toD, gIx, gIxS, S.seq, S.lst, S.der, S.mlst, S.get, S.put, S.res, S.tgt, mkArgs, mkArg, apartB, owEq, back, gAppend, gPop, gPopAt, tyM, gLst, gTup, allD, fExtend.isSelf, Option.or, sizeLine_eq, isiR, isiD, isL, start0, slots0, slot0, ioM, ioOk, finA, eqvI, eqvS, depI, depS, depB, depN, mGetK, mPutK, keyK, isDK, s_tp, s_tm, s_pt, s_pm, s_mp, s_mt, isT, gIdx, gCount, gRemove, gRepT, u_fAsg, u_fCall, u_fCons, u_fNil, u_fVar, u_fAug, u_fExpr, u_fExtend, u_fBin, u_fC, u_fRet, u_fRetN, u_fNext, u_fTest, u_fNot, u_fChain, u_fNeg, u_fPar, u_fParT, u_fMut, u_fSetIx, u_fDPut, u_fDGet, u_fDGet2, u_fDAug, u_fDNew, u_fSl, u_fPart, u_fNoPart, u_fOfT, u_fNotV, u_fIsi, u_fSortIt, u_fTrue, u_fBrk, u_fCnt, u_fEnum, u_fRev, u_fSortSet, u_fCount, u_fFrz, u_fSortTup, u_fIndex, u_fCallF, callB_some, callD_ret, callE_some, b_ok, b_no, W_ok, W_no, W_bind, W_ite, bind_ite, thenQ_nx, thenQ_rt, thenQ_bk, thenQ_ct, W_seq, fIfS_eq, fIf_eq, fAnd_eq, fOr_eq, fAndV_eq, fOrV_eq, andK_b, orK_b, ite_okT, ite_okF, ite_okTd, ite_okFd, turnQ_nx, turnQ_ct, turnQ_bk, turnQ_rt, cutQ_nx, cutQ_rt, cutQ_bk, cutQ_ct, endOut, ix3, eqv_hh, min_hh, le_hh, hh1]
    unfold s_parting_1
    refine W_for (fun x : Int => (.int x : D)) Y (fun pre _ st => ∃ v3 v4, st = ⟨[some (.d (tt s)), some (.d (tt t)), some (.own (.lst ((vals s t pre).map .int))), v3, v4], [none, none]⟩) (st1 := ⟨[some (.d (tt s)), some (.d (tt t)), some (.own (.lst [])), none, none], [none, none]⟩) (by simp [fSeqI, fSeq, fAsg, fCall, fCons, fNil, fVar, fAug, fExpr, fExtend, fBin, fC, fIf, fIfS, fRet, fRetN, fNext, fTest, fAnd, fOr, fNot, fAndV, fOrV, fNotV, fOfT, fChain, fNeg, fPar, fParT, fMut, fSetIx, fDPut, fDGet, fDGet2, fDAug, fDNew, fCallF, fSl, fPart, fNoPart, gSl, gN, gT, gL, gsName, gsNil, gsCons, isVar, Rz.bind, gOrC, gMin2, gMax2, gLen, gLenS, gLenD, gInt, gAbs, gTuple, gList, gDict, gOr, gI, gAddT, gAddL, gAddS, gRepL, gEqN, gInN, gIsN, nonB, S.toD, gIx, gIxS, S.seq, S.lst, S.der, S.mlst, S.get, S.put, S.res, S.tgt, mkArgs, mkArg, apartB, owEq, back, gAppend, gPop, gPopAt, tyM, gLst, gTup, allD, fExtend.isSelf, Option.or, sizeLine_eq, encP, isiR, isiD, isL, fIsi, fSortIt, noX, mkF, bodyF, start0, slots0, slot0, ioM, ioOk, finA, eqvI, eqvS, depI, depS, depB, depN, mGetK, mPutK, keyK, isDK, s_tp, s_tm, s_pt, s_pm, s_mp, s_mt, fRev, fSortSet, fCount, fFrz, fSortTup, fIndex, isT, gIdx, gCount, gRemove, gRepT, e1, hh1]) ⟨none, none, rfl⟩ ?_ ?_
    · rintro st ⟨v3, v4, rfl⟩
      generalize vals s t Y = L at *
      cases L with
      | nil =>
        simp [gSl, gN, gT, gL, gsName, gsNil, gsCons, isVar, gOrC, gMin2, gMax2, gLen, gLenS, gLenD, gInt, gAbs, gTuple, gList, gDict, gOr, gI, gAddT, gAddL, gAddS, gRepL, gEqN, gInN, gIsN, nonB, S.toD, gIx, gIxS, S.seq, S.lst, S.der, S.mlst, S.get, S.put, S.res, S.tgt, mkArgs, mkArg, apartB, owEq, back, gAppend, gPop, gPopAt, tyM, gLst, gTup, allD, fExtend.isSelf, Option.or, sizeLine_eq, isiR, isiD, isL, start0, slots0, slot0, ioM, ioOk, finA, eqvI, eqvS, depI, depS, depB, depN, mGetK, mPutK, keyK, isDK, s_tp, s_tm, s_pt, s_pm, s_mp, s_mt, isT, gIdx, gCount, gRemove, gRepT, u_fAsg, u_fCall, u_fCons, u_fNil, u_fVar, u_fAug, u_fExpr, u_fExtend, u_fBin, u_fC, u_fRet, u_fRetN, u_fNext, u_fTest, u_fNot, u_fChain, u_fNeg, u_fPar, u_fParT, u_fMut, u_fSetIx, u_fDPut, u_fDGet, u_fDGet2, u_fDAug, u_fDNew, u_fSl, u_fPart, u_fNoPart, u_fOfT, u_fNotV, u_fIsi, u_fSortIt, u_fTrue, u_fBrk, u_fCnt, u_fEnum, u_fRev, u_fSortSet, u_fCount, u_fFrz, u_fSortTup, u_fIndex, u_fCallF, callB_some, callD_ret, callE_some, b_ok, b_no, W_ok, W_no, W_bind, W_ite, bind_ite, thenQ_nx, thenQ_rt, thenQ_bk, thenQ_ct, W_seq, fIfS_eq, fIf_eq, fAnd_eq, fOr_eq, fAndV_eq, fOrV_eq, andK_b, orK_b, ite_okT, ite_okF, ite_okTd, ite_okFd, turnQ_nx, turnQ_ct, turnQ_bk, turnQ_rt, cutQ_nx, cutQ_rt, cutQ_bk, cutQ_ct, endOut, eqvL, depL]
        exact hQ _ _ (by rw [ep]; rfl)
      | cons l L =>
        have e5 : ints? (PyData.int l :: L.map .int) = some (l :: L) := ints?_map (l :: L)
        simp [gSl, gN, gT, gL, gsName, gsNil, gsCons, isVar, gOrC, gMin2, gMax2, gLen, gLenS, gLenD, gInt, gAbs, gTuple, gList, gDict, gOr, gI, gAddT, gAddL, gAddS, gRepL, gEqN, gInN, gIsN, nonB, S.toD, gIx, gIxS, S.seq, S.lst, S.der, S.mlst, S.get, S.put, S.res, S.tgt, mkArgs, mkArg, apartB, owEq, back, gAppend, gPop, gPopAt, tyM, gLst, gTup, allD, fExtend.isSelf, Option.or, sizeLine_eq, isiR, isiD, isL, start0, slots0, slot0, ioM, ioOk, finA, eqvI, eqvS, depI, depS, depB, depN, mGetK, mPutK, keyK, isDK, s_tp, s_tm, s_pt, s_pm, s_mp, s_mt, isT, gIdx, gCount, gRemove, gRepT, u_fAsg, u_fCall, u_fCons, u_fNil, u_fVar, u_fAug, u_fExpr, u_fExtend, u_fBin, u_fC, u_fRet, u_fRetN, u_fNext, u_fTest, u_fNot, u_fChain, u_fNeg, u_fPar, u_fParT, u_fMut, u_fSetIx, u_fDPut, u_fDGet, u_fDGet2, u_fDAug, u_fDNew, u_fSl, u_fPart, u_fNoPart, u_fOfT, u_fNotV, u_fIsi, u_fSortIt, u_fTrue, u_fBrk, u_fCnt, u_fEnum, u_fRev, u_fSortSet, u_fCount, u_fFrz, u_fSortTup, u_fIndex, u_fCallF, callB_some, callD_ret, callE_some, b_ok, b_no, W_ok, W_no, W_bind, W_ite, bind_ite, thenQ_nx, thenQ_rt, thenQ_bk, thenQ_ct, W_seq, fIfS_eq, fIf_eq, fAnd_eq, fOr_eq, fAndV_eq, fOrV_eq, andK_b, orK_b, ite_okT, ite_okF, ite_okTd, ite_okFd, turnQ_nx, turnQ_ct, turnQ_bk, turnQ_rt, cutQ_nx, cutQ_rt, cutQ_bk, cutQ_ct, endOut, eqv_l0, min_l0, gMin1T, gMin1, e5, lmin]
        exact hQ _ _ (by rw [ep]; rfl)
    · rintro pre x post st N e ⟨v3, v4, rfl⟩ hN
      have b1 := beyond_rw s x (by omega)
      have b2 := beyond_rw t x (by omega)
      have hp : pre.length ≤ 16777214 := by
        have := congrArg List.length e
        simp at this
        omega
      have hv : (vals s t pre).length < 16777216 := Nat.lt_of_le_of_lt (List.length_filterMap_le _ _) (by omega)
      refine ⟨_, rfl, ?_⟩
      by_cases hx : lack s x = lack t x
      · simp [l_parting_0, gSl, gN, gT, gL, gsName, gsNil, gsCons, isVar, gOrC, gMin2, gMax2, gLen, gLenS, gLenD, gInt, gAbs, gTuple, gList, gDict, gOr, gI, gAddT, gAddL, gAddS, gRepL, gEqN, gInN, gIsN, nonB, S.toD, gIx, gIxS, S.seq, S.lst, S.der, S.mlst, S.get, S.put, S.res, S.tgt, mkArgs, mkArg, apartB, owEq, back, gAppend, gPop, gPopAt, tyM, gLst, gTup, allD, fExtend.isSelf, Option.or, sizeLine_eq, isiR, isiD, isL, start0, slots0, slot0, ioM, ioOk, finA, eqvI, eqvS, depI, depS, depB, depN, mGetK, mPutK, keyK, isDK, s_tp, s_tm, s_pt, s_pm, s_mp, s_mt, isT, gIdx, gCount, gRemove, gRepT, u_fAsg, u_fCall, u_fCons, u_fNil, u_fVar, u_fAug, u_fExpr, u_fExtend, u_fBin, u_fC, u_fRet, u_fRetN, u_fNext, u_fTest, u_fNot, u_fChain, u_fNeg, u_fPar, u_fParT, u_fMut, u_fSetIx, u_fDPut, u_fDGet, u_fDGet2, u_fDAug, u_fDNew, u_fSl, u_fPart, u_fNoPart, u_fOfT, u_fNotV, u_fIsi, u_fSortIt, u_fTrue, u_fBrk, u_fCnt, u_fEnum, u_fRev, u_fSortSet, u_fCount, u_fFrz, u_fSortTup, u_fIndex, u_fCallF, callB_some, callD_ret, callE_some, b_ok, b_no, W_ok, W_no, W_bind, W_ite, bind_ite, thenQ_nx, thenQ_rt, thenQ_bk, thenQ_ct, W_seq, fIfS_eq, fIf_eq, fAnd_eq, fOr_eq, fAndV_eq, fOrV_eq, andK_b, orK_b, ite_okT, ite_okF, ite_okTd, ite_okFd, turnQ_nx, turnQ_ct, turnQ_bk, turnQ_rt, cutQ_nx, cutQ_rt, cutQ_bk, cutQ_ct, endOut, ix2a, ix2b, b1, b2, hx]
        exact hN _ ⟨_, _, by rw [vals_snoc, if_neg (by omega), List.append_nil]⟩
      · simp [l_parting_0, gSl, gN, gT, gL, gsName, gsNil, gsCons, isVar, gOrC, gMin2, gMax2, gLen, gLenS, gLenD, gInt, gAbs, gTuple, gList, gDict, gOr, gI, gAddT, gAddL, gAddS, gRepL, gEqN, gInN, gIsN, nonB, S.toD, gIx, gIxS, S.seq, S.lst, S.der, S.mlst, S.get, S.put, S.res, S.tgt, mkArgs, mkArg, apartB, owEq, back, gAppend, gPop, gPopAt, tyM, gLst, gTup, allD, fExtend.isSelf, Option.or, sizeLine_eq, isiR, isiD, isL, start0, slots0, slot0, ioM, ioOk, finA, eqvI, eqvS, depI, depS, depB, depN, mGetK, mPutK, keyK, isDK, s_tp, s_tm, s_pt, s_pm, s_mp, s_mt, isT, gIdx, gCount, gRemove, gRepT, u_fAsg, u_fCall, u_fCons, u_fNil, u_fVar, u_fAug, u_fExpr, u_fExtend, u_fBin, u_fC, u_fRet, u_fRetN, u_fNext, u_fTest, u_fNot, u_fChain, u_fNeg, u_fPar, u_fParT, u_fMut, u_fSetIx, u_fDPut, u_fDGet, u_fDGet2, u_fDAug, u_fDNew, u_fSl, u_fPart, u_fNoPart, u_fOfT, u_fNotV, u_fIsi, u_fSortIt, u_fTrue, u_fBrk, u_fCnt, u_fEnum, u_fRev, u_fSortSet, u_fCount, u_fFrz, u_fSortTup, u_fIndex, u_fCallF, callB_some, callD_ret, callE_some, b_ok, b_no, W_ok, W_no, W_bind, W_ite, bind_ite, thenQ_nx, thenQ_rt, thenQ_bk, thenQ_ct, W_seq, fIfS_eq, fIf_eq, fAnd_eq, fOr_eq, fAndV_eq, fOrV_eq, andK_b, orK_b, ite_okT, ite_okF, ite_okTd, ite_okFd, turnQ_nx, turnQ_ct, turnQ_bk, turnQ_rt, cutQ_nx, cutQ_rt, cutQ_bk, cutQ_ct, endOut, ix2a, ix2b, b1, b2, hx, ints2, gMin1T, gMin1, hv]
        exact hN _ ⟨_, _, by rw [vals_snoc, if_pos hx, List.map_append]; rfl⟩
  · simp [c_parting, gSl, gN, gT, gL, gsName, gsNil, gsCons, isVar, gOrC, gMin2, gMax2, gLen, gLenS, gLenD, gInt, gAbs, gTuple, gList, gDict, gOr, gI, gAddT, gAddL, gAddS, gRepL, gEqN, gInN, gIsN, nonB, S.toD, gIx, gIxS, S.seq, S.lst, S.der, S.mlst, S.get, S.put, S.res, S.tgt, mkArgs, mkArg, apartB, owEq, back, gAppend, gPop, gPopAt, tyM, gLst, gTup, allD, fExtend.isSelf, Option.or, sizeLine_eq, isiR, isiD, isL, start0, slots0, slot0, ioM, ioOk, finA, eqvI, eqvS, depI, depS, depB, depN, mGetK, mPutK, keyK, isDK, s_tp, s_tm, s_pt, s_pm, s_mp, s_mt, isT, gIdx, gCount, gRemove, gRepT, u_fAsg, u_fCall, u_fCons, u_fNil, u_fVar, u_fAug, u_fExpr, u_fExtend, u_fBin, u_fC, u_fRet, u_fRetN, u_fNext, u_fTest, u_fNot, u_fChain, u_fNeg, u_fPar, u_fParT, u_fMut, u_fSetIx, u_fDPut, u_fDGet, u_fDGet2, u_fDAug, u_fDNew, u_fSl, u_fPart, u_fNoPart, u_fOfT, u_fNotV, u_fIsi, u_fSortIt, u_fTrue, u_fBrk, u_fCnt, u_fEnum, u_fRev, u_fSortSet, u_fCount, u_fFrz, u_fSortTup, u_fIndex, u_fCallF, callB_some, callD_ret, callE_some, b_ok, b_no, W_ok, W_no, W_bind, W_ite, bind_ite, thenQ_nx, thenQ_rt, thenQ_bk, thenQ_ct, W_seq, fIfS_eq, fIf_eq, fAnd_eq, fOr_eq, fAndV_eq, fOrV_eq, andK_b, orK_b, ite_okT, ite_okF, ite_okTd, ite_okFd, turnQ_nx, turnQ_ct, turnQ_bk, turnQ_rt, cutQ_nx, cutQ_rt, cutQ_bk, cutQ_ct, endOut, ix3, eqv_hh, min_hh, le_hh, hh1]
    exact hQ _ _ (by simp [prt, hh1]; rfl)
theorem vals_mem (s t : Thr) (Y : List Int) (m : Int) : m ∈ vals s t Y ↔ ∃ x ∈ Y, lack s x ≠ lack t x ∧ min (lack s x) (lack t x) + 1 = m := by
  unfold vals
  rw [List.mem_filterMap]
  constructor
  · rintro ⟨x, hx, h⟩
    by_cases hc : lack s x = lack t x
    · rw [if_neg (by omega)] at h; exact nomatch h
    · rw [if_pos hc] at h
      exact ⟨x, hx, hc, Option.some.inj h⟩
  · rintro ⟨x, hx, hc, h⟩
    exact ⟨x, hx, by rw [if_pos hc, h]⟩
theorem lmin_same {A B : List Int} (h : ∀ m, m ∈ A ↔ m ∈ B) : lmin A = lmin B := by
  cases A with
  | nil => cases B with
    | nil => rfl
    | cons b B => exact absurd ((h b).mpr List.mem_cons_self) (by simp)
  | cons a A =>
    obtain ⟨h1, h2⟩ := foldl_min A a
    cases hB : lmin B with
    | none => cases B with
      | nil => exact absurd ((h a).mp List.mem_cons_self) (by simp)
      | cons b B => exact nomatch hB
    | some k =>
      have := lmin_eq hB ((h _).mp h1) fun y hy => h2 y ((h y).mpr hy)
      rw [← this]
      rfl
theorem Bar_same {x y : Int} : ∀ {h : Hea}, (∀ z ∈ h, z.1 ≤ x ↔ z.1 ≤ y) → Bar h x = Bar h y
  | [], _ => rfl
  | z :: h, k => by
    rw [Bar_cons, Bar_cons, Bar_same fun w hw => k w (List.mem_cons_of_mem _ hw)]
    have := k z List.mem_cons_self
    by_cases hz : z.1 ≤ x
    · rw [if_pos hz, if_pos (this.mp hz)]
    · rw [if_neg hz, if_neg fun c => hz (this.mpr c)]
theorem floor_in {x : Int} : ∀ {Y : List Int}, (∃ y ∈ Y, y ≤ x) → ∃ y ∈ Y, y ≤ x ∧ ∀ z ∈ Y, z ≤ x → z ≤ y
  | [], h => by obtain ⟨y, hy, _⟩ := h; exact nomatch hy
  | a :: Y, h => by
    by_cases hr : ∃ y ∈ Y, y ≤ x
    · obtain ⟨y, h1, h2, h3⟩ := floor_in hr
      by_cases ha : y ≤ a ∧ a ≤ x
      · exact ⟨a, List.mem_cons_self, ha.2, fun z hz hzx => by
          rcases List.mem_cons.mp hz with e | e
          · omega
          · have := h3 z e hzx; omega⟩
      · exact ⟨y, List.mem_cons_of_mem _ h1, h2, fun z hz hzx => by
          rcases List.mem_cons.mp hz with e | e
          · subst e; omega
          · exact h3 z e hzx⟩
    · obtain ⟨y, hy, hyx⟩ := h
      rcases List.mem_cons.mp hy with e | e
      · subst e
        exact ⟨y, List.mem_cons_self, hyx, fun z hz hzx => by
          rcases List.mem_cons.mp hz with e | e
          · omega
          · exact absurd ⟨z, e, hzx⟩ hr⟩
      · exact absurd ⟨y, e, hyx⟩ hr
theorem lack_same {t : Thr} {x y : Int} (h : ∀ z ∈ t.2.1, z.1 ≤ x ↔ z.1 ≤ y) : lack t x = lack t y := by
  unfold lack
  rw [Bar_same h]
theorem lmin_vals {U X : List Int} {s t : Thr} (gs : GdT U s) (gt : GdT U t) (hX : ∀ n ∈ U, n ∈ X) (lo : -1000000 ∈ X) (lo2 : ∀ x ∈ X, -1000000 ≤ x) : lmin (vals s t (sset (outKeys s t))) = lmin (vals s t X) := by
  refine lmin_same fun m => ?_
  rw [vals_mem, vals_mem]
  have mY := (sset_spec (outKeys s t)).2
  constructor
  · rintro ⟨x, hx, h⟩
    refine ⟨x, ?_, h⟩
    have := (mY x).mp hx
    unfold outKeys at this
    rcases List.mem_cons.mp this with e | e
    · rw [e]; exact lo
    · rcases List.mem_append.mp e with e | e
      · obtain ⟨z, hz, rfl⟩ := List.mem_map.mp e
        exact hX _ (gs.oU z hz)
      · obtain ⟨z, hz, rfl⟩ := List.mem_map.mp e
        exact hX _ (gt.oU z hz)
  · rintro ⟨x, hx, h⟩
    obtain ⟨y, y1, y2, y3⟩ := floor_in (x := x) (Y := sset (outKeys s t)) ⟨-1000000, (mY _).mpr (by simp [outKeys]), lo2 x hx⟩
    have es : lack s x = lack s y := lack_same fun z hz => ⟨fun c => y3 _ ((mY _).mpr (by unfold outKeys; exact List.mem_cons_of_mem _ (List.mem_append_left _ (List.mem_map_of_mem hz)))) c, fun c => by omega⟩
    have et : lack t x = lack t y := lack_same fun z hz => ⟨fun c => y3 _ ((mY _).mpr (by unfold outKeys; exact List.mem_cons_of_mem _ (List.mem_append_right _ (List.mem_map_of_mem hz)))) c, fun c => by omega⟩
    exact ⟨y, y1, by rw [← es, ← et]; exact h⟩
theorem th_re {ws : List Stp} {d : Nat} (ho : okW U0 d ws) : GdT (putsW ws) (th ws) := (thrW_ok d ws ([], [], 0) (okW_re d ws ho fun n hn => hn) none_gd).1
theorem th_small {ws : List Stp} {d : Nat} (ho : okW U0 d ws) : (th ws).1.length ≤ szW ws ∧ (th ws).2.1.length ≤ szW ws := by
  have g := th_re ho
  have a := gd_lenV g.l g.lU
  have b := gd_lenV g.o g.oU
  have c := putsW_len ws
  omega
theorem puts_U0 {ws : List Stp} {d : Nat} (ho : okW U0 d ws) : ∀ n ∈ putsW ws, -999 ≤ n ∧ n ≤ 999 := fun n hn => (U0_mem n).mp (putsW_U _ ws ho n hn)
theorem eqv_2 (a b c d : Int) : PyData.eqv (.tuple [.int a, .int b]) (.tuple [.int c, .int d]) = decide (a = c ∧ b = d) := by
  rw [Bool.eq_iff_iff]
  simp [PyData.eqv, PyData.eqvAll, eqvI]
theorem dep_2 (a b : Int) (x : Nat) : min (PyData.tuple [.int a, .int b]).depth x ≤ 60 := by
  have : (PyData.tuple [.int a, .int b]).depth = 1 := by simp [PyData.depth, PyData.depthAll]
  omega
theorem le_2 (a b : Int) : (PyData.tuple [.int a, .int b]).depth ≤ 60 := by simp [PyData.depth, PyData.depthAll]
theorem alike_rw {a b : List Stp} (ha : okW U0 2 a) (hb : okW U0 2 b) (sa : szW a ≤ 30) (sb : szW b ≤ 30) : F_alike [.d (ww a), .d (ww b)] = .ret (.d (prt (th a) (th b))) [.d (ww a), .d (ww b)] := by
  have e1 := need_work_rw a ha sa
  have e2 := need_work_rw b hb sb
  have e3 := three_rw a ha
  have e4 := three_rw b hb
  have l1 := (th_small ha).2
  have l2 := (th_small hb).2
  have e5 := parting_rw (th a) (th b) (by omega)
  unfold th at e5
  simp [F_alike, c_alike, fSeq, fAsg, fCall, fCons, fNil, fVar, fAug, fExpr, fExtend, fBin, fC, fIf, fIfS, fRet, fRetN, fNext, fTest, fAnd, fOr, fNot, fAndV, fOrV, fNotV, fOfT, fChain, fNeg, fPar, fParT, fMut, fSetIx, fDPut, fDGet, fDGet2, fDAug, fDNew, fCallF, fSl, fPart, fNoPart, gSl, gN, gT, gL, gsName, gsNil, gsCons, isVar, Rz.bind, gOrC, gMin2, gMax2, gLen, gLenS, gLenD, gInt, gAbs, gTuple, gList, gDict, gOr, gI, gAddT, gAddL, gAddS, gRepL, gEqN, gInN, gIsN, nonB, S.toD, gIx, gIxS, S.seq, S.lst, S.der, S.mlst, S.get, S.put, S.res, S.tgt, mkArgs, mkArg, apartB, owEq, back, gAppend, gPop, gPopAt, tyM, gLst, gTup, allD, fExtend.isSelf, Option.or, sizeLine_eq, encP, isiR, isiD, isL, fIsi, fSortIt, noX, mkF, bodyF, start0, slots0, slot0, ioM, ioOk, finA, eqvI, eqvS, depI, depS, depB, depN, mGetK, mPutK, keyK, isDK, s_tp, s_tm, s_pt, s_pm, s_mp, s_mt, fRev, fSortSet, fCount, fFrz, fSortTup, fIndex, isT, gIdx, gCount, gRemove, gRepT, e1, e2, e3, e4, e5]
theorem wsD_len (ws : List Stp) : (wsD ws).length = ws.length := by rw [wsD_map, List.length_map]
theorem putsW_cat (a b : List Stp) : putsW (a ++ b) = putsW a ++ putsW b := by
  induction a with
  | nil => rfl
  | cons s a ih => simp [putsW, ih]
/-! ### a work nearly alike -/
theorem cut_from {α : Type} (xs : List α) (n : Nat) : cutD xs (some (n : Int)) none = xs.drop n := by
  unfold cutD
  rw [HT.sIx_none, HT.sIx_nat]
  rcases Nat.le_total n xs.length with h | h
  · rw [Nat.min_eq_left h, List.take_of_length_le (by rw [List.length_drop]; omega)]
  · rw [Nat.min_eq_right h, List.drop_eq_nil_of_le h, List.drop_eq_nil_of_le (Nat.le_refl _)]; simp
theorem cut_mid {α : Type} (xs : List α) (n m : Nat) (h0 : n ≤ xs.length) : cutD xs (some (n : Int)) (some (m : Int)) = (xs.drop n).take (m - n) := by
  unfold cutD
  rw [HT.sIx_nat, HT.sIx_nat, Nat.min_eq_left h0]
  rcases Nat.le_total m xs.length with h | h
  · rw [Nat.min_eq_left h]
  · rw [Nat.min_eq_right h, List.take_of_length_le (by rw [List.length_drop]; omega), List.take_of_length_le (by rw [List.length_drop]; omega)]
section
variable {α : Type} (A : List α) (b : α) (C : List α)
theorem cutA1 : cutD (A ++ b :: C) none (some (A.length : Int)) = A := by rw [cut_to]; simp
theorem cutA2 : cutD (A ++ b :: C) (some (A.length : Int)) none = b :: C := by rw [cut_from]; simp
theorem cutA3 : cutD (A ++ b :: C) (some ((A.length : Int) + 1)) none = C := by
  have := cut_from (A ++ b :: C) (A.length + 1)
  rw [show ((A.length + 1 : Nat) : Int) = (A.length : Int) + 1 by omega] at this
  rw [this]
  simp
theorem cutA4 : cutD (A ++ b :: C) (some (A.length : Int)) (some ((A.length : Int) + 2)) = b :: C.take 1 := by
  have := cut_mid (A ++ b :: C) A.length (A.length + 2) (by simp)
  rw [show ((A.length + 2 : Nat) : Int) = (A.length : Int) + 2 by omega] at this
  rw [this, show A.length + 2 - A.length = 2 by omega]
  simp
theorem cutA5 : cutD (A ++ b :: C) (some ((A.length : Int) + 2)) none = C.drop 1 := by
  have := cut_from (A ++ b :: C) (A.length + 2)
  rw [show ((A.length + 2 : Nat) : Int) = (A.length : Int) + 2 by omega] at this
  rw [this]
  simp
end
theorem eqv_t0 : PyData.eqv (.tuple []) (.tuple []) = true := by simp [PyData.eqv, PyData.eqvAll]
theorem eqv_t1 (A : List D) (b : D) (C : List D) : PyData.eqv (.tuple (A ++ b :: C)) (.tuple []) = false := by cases A <;> simp [PyData.eqv, PyData.eqvAll]
theorem le_t0 : (PyData.tuple []).depth ≤ 60 := by simp [PyData.depth, PyData.depthAll]
theorem min_t0 (x : Nat) : min x (PyData.tuple []).depth ≤ 60 := by have := le_t0; omega
theorem atA (A : List D) (b : D) (C : List D) : atI (A ++ b :: C) (A.length : Int) = some b := by rw [atI_nat]; simp
theorem okW_split {U : List Int} {d : Nat} {s : Stp} {q : List Stp} : ∀ {p : List Stp}, okW U d (p ++ s :: q) → okW U d p ∧ okS U d s ∧ okW U d q
  | [], h => by simp only [List.nil_append, okW] at h ⊢; exact ⟨trivial, h.1, h.2⟩
  | t :: p, h => by
    simp only [List.cons_append, okW] at h ⊢
    obtain ⟨h1, h2, h3⟩ := okW_split h.2
    exact ⟨⟨h.1, h1⟩, h2, h3⟩
theorem next_len (d d1 : Die) (p : List Stp) (s : Stp) (q : List Stp) (r : F__law_next [.io d.m, .d (.int ((p ++ s :: q).length : Nat))] = .ret (.d (.int (p.length : Nat))) [.io d1.m, .d (.int ((p ++ s :: q).length : Nat))]) :
    F__law_next [.io d.m, .d (.int ((wsD p).length + ((wsD q).length + 1)))] = .ret (.d (.int (p.length : Nat))) [.io d1.m, .d (.int ((wsD p).length + ((wsD q).length + 1)))] := by
  have e : (((p ++ s :: q).length : Nat) : Int) = (wsD p).length + ((wsD q).length + 1) := by
    rw [wsD_len, wsD_len, List.length_append, List.length_cons]
    omega
  rw [e] at r
  exact r
/-! ### some numbers, counted -/
def cntL (L : List Int) : Hea := (bs L).map fun n => (n, (L.count n : Int))
theorem cntL_gd (L : List Int) : Gd (cntL L) := by
  obtain ⟨h1, h2, _⟩ := bs_spec L
  refine ⟨List.pairwise_map.mpr (h1.imp fun h => h), fun z hz => ?_⟩
  obtain ⟨n, hn, rfl⟩ := List.mem_map.mp hz
  have := List.count_pos_iff.mpr ((h2 n).mp hn)
  show 1 ≤ (L.count n : Int)
  omega
theorem cntL_len (L : List Int) : (cntL L).length ≤ L.length := by
  unfold cntL
  rw [List.length_map]
  exact (bs_spec L).2.2
theorem cntL_mem {L : List Int} : ∀ z ∈ cntL L, z.1 ∈ L ∧ z.2 ≤ L.length := fun z hz => by
  obtain ⟨n, hn, rfl⟩ := List.mem_map.mp hz
  have := List.count_le_length (a := n) (l := L)
  exact ⟨((bs_spec L).2.1 n).mp hn, by show (L.count n : Int) ≤ _; omega⟩
/-- a row of drawn numbers -/
def In1 (L : List Int) : Prop := ∀ n ∈ L, -999 ≤ n ∧ n ≤ 999
theorem range_nx {d : Die} {k : Int} (h0 : 0 < k) (h1 : k ≤ 1000) (r0 : Option R) (δ : List (Option R)) (γ : List (Option M)) : ∃ (n : Nat) (d' : Die), (n : Int) < k ∧ fRange1 (fCons (fCallF F__law_next [.w, .r] (fCons (fVar 1) (fCons (fC (.int k)) fNil))) fNil) ⟨r0 :: some (.own d.m) :: δ, γ⟩ = .ok ((List.range n).map fun i => (.int (i : Nat) : D)) ⟨r0 :: some (.own d'.m) :: δ, γ⟩ := by
  have r := next_rw d k h0 (by omega)
  have b := d.b k h0 (by omega)
  exact ⟨(d.v k).toNat, d.n k, by omega, range1_int (by simp [fSeq, fAsg, fCall, fCons, fNil, fVar, fAug, fExpr, fExtend, fBin, fC, fIf, fIfS, fRet, fRetN, fNext, fTest, fAnd, fOr, fNot, fAndV, fOrV, fNotV, fOfT, fChain, fNeg, fPar, fParT, fMut, fSetIx, fDPut, fDGet, fDGet2, fDAug, fDNew, fCallF, fSl, fPart, fNoPart, gSl, gN, gT, gL, gsName, gsNil, gsCons, isVar, Rz.bind, gOrC, gMin2, gMax2, gLen, gLenS, gLenD, gInt, gAbs, gTuple, gList, gDict, gOr, gI, gAddT, gAddL, gAddS, gRepL, gEqN, gInN, gIsN, nonB, S.toD, gIx, gIxS, S.seq, S.lst, S.der, S.mlst, S.get, S.put, S.res, S.tgt, mkArgs, mkArg, apartB, owEq, back, gAppend, gPop, gPopAt, tyM, gLst, gTup, allD, fExtend.isSelf, Option.or, sizeLine_eq, encP, isiR, isiD, isL, fIsi, fSortIt, noX, mkF, bodyF, start0, slots0, slot0, ioM, ioOk, finA, eqvI, eqvS, depI, depS, depB, depN, mGetK, mPutK, keyK, isDK, s_tp, s_tm, s_pt, s_pm, s_mp, s_mt, fRev, fSortSet, fCount, fFrz, fSortTup, fIndex, isT, gIdx, gCount, gRemove, gRepT, r]) (by omega) (by omega)⟩
theorem cntL_sto {L : List Int} (h : In1 L) (hl : L.length ≤ 40) : Sto (cntL L) := by
  refine ⟨cntL_gd L, Nat.le_trans (cntL_len L) hl, fun y hy => ?_, fun y hy => ?_⟩
  · have := h _ (cntL_mem y hy).1; omega
  · have := (cntL_mem y hy).2; omega
/-! ### a heap without another one -/
theorem dsort_encP (h : Hea) : dsort (h.map encP) = (psort h).map encP := by
  unfold dsort psort
  exact (List.map_mergeSort (r := PySem.W.dataLe false encP) (s := PySem.W.dataLe false id) (f := encP) (l := h) fun a _ b _ => rfl).symm
theorem sortB_encP (h : Hea) (hl : h.length ≤ 16777216) : sortB (h.map encP) = true := by
  unfold sortB
  simp only [Bool.and_eq_true, decide_eq_true_eq, List.all_eq_true, List.length_map]
  refine ⟨⟨⟨fun x hx y hy => ?_, ?_⟩, fun x hx => ?_⟩, by rw [sizeLine_eq]; exact hl⟩
  · obtain ⟨a, _, rfl⟩ := List.mem_map.mp hx
    obtain ⟨b, _, rfl⟩ := List.mem_map.mp hy
    simp [encP, PySem.W.alike, PySem.W.alikeAll]
  · rw [Bool.or_eq_true]
    refine .inl (List.all_eq_true.mpr fun x hx => ?_)
    obtain ⟨a, _, rfl⟩ := List.mem_map.mp hx
    rfl
  · obtain ⟨a, _, rfl⟩ := List.mem_map.mp hx
    rw [dep_encP]
    omega
theorem gSortedX_encP (st : S) (h : Hea) (hl : h.length ≤ 16777216) : gSortedX st [.own (.lst (h.map encP))] = some (.own (.lst ((psort h).map encP))) := by
  cases h with
  | nil =>
    have e1 : gSortedI st [.own (.lst (List.map encP []))] = some (.own (.lst ((isort []).map .int))) := rfl
    have e2 : isort [] = [] := by simp [isort]
    have e3 : psort [] = [] := by simp [psort]
    rw [show gSortedX = gOrC (gOrC gSortedI gSortDI) gSortedD from rfl]
    unfold gOrC
    rw [e1, e2, e3]
    rfl
  | cons z h =>
    have e1 : gSortedI st [.own (.lst ((z :: h).map encP))] = none := rfl
    have e2 : gSortDI st [.own (.lst ((z :: h).map encP))] = none := rfl
    have e3 : gSortedD st [.own (.lst ((z :: h).map encP))] = some (.own (.lst ((psort (z :: h)).map encP))) := by
      unfold gSortedD
      show (if sortB ((z :: h).map encP) = true then some (Rs.own (.lst (dsort ((z :: h).map encP)))) else none) = _
      rw [if_pos (sortB_encP _ hl), dsort_encP]
    rw [show gSortedX = gOrC (gOrC gSortedI gSortDI) gSortedD from rfl]
    unfold gOrC
    rw [e1, e2, e3]
    rfl
theorem Bar_off {l : Hea} {n : Int} (h : n ∉ l.map (·.1)) : Bar l n = Bar l (n - 1) := Bar_same fun z hz => by
  have : z.1 ≠ n := fun e => h (by rw [← e]; exact List.mem_map_of_mem hz)
  omega
theorem rise_nd {l : Hea} (p : l.Pairwise (fun a b => a.1 < b.1)) : Nd l := by
  unfold Nd
  rw [List.Nodup, List.pairwise_map]
  exact p.imp fun h => by omega
theorem getI_bar {l : Hea} (p : l.Pairwise (fun a b => a.1 < b.1)) (n : Int) : (getI l n).getD 0 = Bar l n - Bar l (n - 1) := by
  by_cases h : n ∈ l.map (·.1)
  · obtain ⟨z, hz, rfl⟩ := List.mem_map.mp h
    rw [getI_mem (rise_nd p) hz, ← jump p z hz]
    rfl
  · have : getI l n = none := by
      cases e : getI l n with
      | none => rfl
      | some v => exact absurd (List.mem_map_of_mem (f := fun z : Int × Int => z.1) (putI_old (v := 0) (rise_nd p) e).2.2.2) h
    rw [this, Bar_off h]
    show (0 : Int) = _
    omega
/-- each number is there often enough -/
def inB (a b : Hea) : Bool := b.all fun z => decide (z.2 ≤ (getI a z.1).getD 0)
def woF (a b : Hea) : Hea := psort ((b.foldl subI a).filter fun z => decide (0 < z.2))
def woD (a b : Hea) : D := if inB a b = true then hh (woF a b) else .none
theorem inB_iff {a b : Hea} (ga : Gd a) (gb : Gd b) : inB a b = true ↔ ∀ n, Bar b n - Bar b (n - 1) ≤ Bar a n - Bar a (n - 1) := by
  unfold inB
  rw [List.all_eq_true]
  constructor
  · intro h n
    by_cases hn : n ∈ b.map (·.1)
    · obtain ⟨z, hz, rfl⟩ := List.mem_map.mp hn
      have h1 := h z hz
      rw [decide_eq_true_eq, getI_bar ga.rise, jump gb.rise z hz] at h1
      exact h1
    · have := Bar_off hn
      have := Bar_mono ga (show n - 1 ≤ n by omega)
      omega
  · intro h z hz
    rw [decide_eq_true_eq, getI_bar ga.rise, jump gb.rise z hz]
    exact h z.1
theorem inB_keys {a b : Hea} (ga : Gd a) (gb : Gd b) (h : inB a b = true) : ∀ z ∈ b, z.1 ∈ a.map (·.1) := fun z hz => by
  have h1 := (inB_iff ga gb).mp h z.1
  have h2 := jump gb.rise z hz
  have h3 := gb.pos z hz
  by_cases hn : z.1 ∈ a.map (·.1)
  · exact hn
  · have := Bar_off hn
    omega
theorem foldSub_rise {a b : Hea} (ga : Gd a) (hk : ∀ z ∈ b, z.1 ∈ a.map (·.1)) : (b.foldl subI a).Pairwise (fun x y => x.1 < y.1) := by
  obtain ⟨h1, _⟩ := foldSub_spec b ga.nd hk
  have h2 : ((b.foldl subI a).map (·.1)).Pairwise (· < ·) := by rw [h1]; exact List.pairwise_map.mpr ga.rise
  exact List.pairwise_map.mp h2
theorem woF_spec {a b : Hea} (ga : Gd a) (gb : Gd b) (h : inB a b = true) : Gd (woF a b) ∧ (∀ x, Bar (woF a b) x = Bar a x - Bar b x) ∧ ∀ y ∈ woF a b, y.1 ∈ a.map (·.1) := by
  have hk := inB_keys ga gb h
  have hr := foldSub_rise ga hk
  obtain ⟨h1, h2⟩ := foldSub_spec b ga.nd hk
  have hp : ∀ z ∈ b.foldl subI a, 0 ≤ z.2 := fun z hz => by
    have := jump hr z hz
    have := h2 z.1
    have := h2 (z.1 - 1)
    have := (inB_iff ga gb).mp h z.1
    omega
  have hf : ((b.foldl subI a).filter fun z => decide (0 < z.2)).Pairwise (fun x y => x.1 < y.1) := hr.filter _
  obtain ⟨p1, p2⟩ := psort_spec ((b.foldl subI a).filter fun z => decide (0 < z.2))
  have hm : ∀ y ∈ woF a b, y ∈ b.foldl subI a ∧ 0 < y.2 := fun y hy => by
    have := List.mem_filter.mp (p1.mem_iff.mp hy)
    exact ⟨this.1, by simpa using this.2⟩
  refine ⟨⟨p2 (rise_nd hf), fun z hz => (hm z hz).2⟩, fun x => ?_, fun y hy => ?_⟩
  · unfold woF
    rw [Bar_perm p1, Bar_filter x hp, h2]
  · rw [← h1]
    exact List.mem_map_of_mem (hm y hy).1
/-! ### a store from which a work leads -/
def abv (l : Int) (o : Hea) : Hea := o.filter fun z => decide (l < z.1)
def srcD (t : Thr) (r : Hea) : D := if inB r t.1 = true then (match woF r t.1 with
  | [] => .tuple []
  | (l, c) :: tl => if inB tl (abv l t.2.1) = true then hh (bothM [(l, c + t.2.2 + sumC (abv l t.2.1))] (woF tl (abv l t.2.1))) else .none) else .none
theorem ix0 (x : D) (xs : List D) : atI (x :: xs) (0 : Int) = some x := by
  have := atI_nat (x :: xs) 0
  simpa using this
theorem abv_gd {l : Int} {o : Hea} (g : Gd o) : Gd (abv l o) := ⟨g.rise.filter _, fun z hz => g.pos z (List.mem_filter.mp hz).1⟩
theorem abv_bar (l : Int) : ∀ (o : Hea) (x : Int), Bar (abv l o) x = if l ≤ x then Bar o x - Bar o l else 0
  | [], x => by simp [abv, Bar]
  | z :: o, x => by
    have ih := abv_bar l o x
    unfold abv at ih ⊢
    rw [List.filter_cons]
    by_cases h : l < z.1
    · rw [if_pos (by simpa using h), Bar_cons, ih, Bar_cons, Bar_cons]
      by_cases h1 : l ≤ x
      · rw [if_pos h1, if_pos h1, if_neg (show ¬ z.1 ≤ l by omega)]
        omega
      · rw [if_neg h1, if_neg h1, if_neg (show ¬ z.1 ≤ x by omega)]
        omega
    · rw [if_neg (by simpa using h), ih, Bar_cons, Bar_cons]
      by_cases h1 : l ≤ x
      · rw [if_pos h1, if_pos h1, if_pos (show z.1 ≤ l by omega), if_pos (show z.1 ≤ x by omega)]
        omega
      · rw [if_neg h1, if_neg h1]
theorem abv_sum (l : Int) (o : Hea) : sumC (abv l o) = sumC o - Bar o l := by
  obtain ⟨a, ha⟩ := bar_bigN o
  obtain ⟨b, hb⟩ := bar_bigN (abv l o)
  have h1 := ha (max (max a b) l) (by omega)
  have h2 := hb (max (max a b) l) (by omega)
  rw [abv_bar, if_pos (by omega)] at h2
  omega
theorem gd_tail {z : Int × Int} {tl : Hea} (g : Gd (z :: tl)) : Gd tl ∧ 1 ≤ z.2 ∧ ∀ y ∈ tl, z.1 < y.1 := by
  obtain ⟨p1, p2⟩ := List.pairwise_cons.mp g.rise
  exact ⟨⟨p2, fun y hy => g.pos y (List.mem_cons_of_mem _ hy)⟩, g.pos z List.mem_cons_self, p1⟩
theorem Bar_none {h : Hea} {x : Int} (k : ∀ y ∈ h, x < y.1) : Bar h x = 0 := by
  induction h with
  | nil => rfl
  | cons z h ih =>
    have := k z List.mem_cons_self
    rw [Bar_cons, ih fun y hy => k y (List.mem_cons_of_mem _ hy), if_neg (by omega)]
    rfl
theorem one_gd {l c : Int} (h : 1 ≤ c) : Gd [(l, c)] := ⟨by simp, fun z hz => by rw [List.mem_singleton.mp hz]; exact h⟩
theorem src_leads {U : List Int} {t : Thr} {h r : Hea} (gt : GdT U t) (gh : Gd h) (gr : Gd r) (hb : ∀ x, Bar r x = max (Bar h x + bal t x) (Bar t.1 x)) :
    ∃ s, srcD t r = hh s ∧ Gd s ∧ (∀ x, max (Bar s x + bal t x) (Bar t.1 x) = Bar r x) ∧ ∀ y ∈ s, y.1 ∈ r.map (·.1) := by
  have hl : ∀ x, bal t x = Bar t.1 x - lack t x := fun _ => rfl
  have lk : ∀ x, lack t x = t.2.2 + sumC t.2.1 - Bar t.2.1 x := fun _ => rfl
  have ln : ∀ x, 0 ≤ lack t x := fun x => by
    have := gt.i
    have := Bar_le gt.o x
    rw [lk]; omega
  have in1 : inB r t.1 = true := (inB_iff gr gt.l).mpr fun n => by
    have a := hb n
    have b := hb (n - 1)
    have c := hl n
    have d := hl (n - 1)
    have e := lk n
    have f := lk (n - 1)
    have g := Bar_mono gh (show n - 1 ≤ n by omega)
    have k := Bar_mono gt.o (show n - 1 ≤ n by omega)
    omega
  obtain ⟨w1, w2, w3⟩ := woF_spec gr gt.l in1
  have hr : ∀ x, Bar (woF r t.1) x = max (Bar h x - lack t x) 0 := fun x => by
    have a := hb x
    have c := hl x
    rw [w2]; omega
  unfold srcD
  rw [if_pos in1]
  generalize woF r t.1 = rest at *
  cases rest with
  | nil =>
    refine ⟨[], rfl, .nil, fun x => ?_, fun _ h => (nomatch h)⟩
    have a := w2 x
    have c := hl x
    have := ln x
    rw [Bar_nil] at a ⊢
    omega
  | cons z tl =>
    obtain ⟨l, c⟩ := z
    obtain ⟨g1, g2, g3⟩ := gd_tail w1
    have g2 : 1 ≤ c := g2
    have ga := abv_gd (l := l) gt.o
    have rb : ∀ x, Bar ((l, c) :: tl) x = (if l ≤ x then c else 0) + Bar tl x := fun x => Bar_cons ..
    have low : ∀ x, x ≤ l → Bar tl x = 0 := fun x hx => Bar_none fun y hy => by
      have : l < y.1 := g3 y hy
      omega
    have high : ∀ x, l ≤ x → c + Bar tl x = Bar h x - lack t x := fun x hx => by
      have a := hr x
      rw [rb, if_pos hx] at a
      have := Bar_nonneg g1 x
      omega
    have in2 : inB tl (abv l t.2.1) = true := (inB_iff g1 ga).mpr fun n => by
      rw [abv_bar, abv_bar]
      by_cases hn : l ≤ n - 1
      · rw [if_pos hn, if_pos (by omega)]
        have a := high n (by omega)
        have b := high (n - 1) hn
        have e := lk n
        have f := lk (n - 1)
        have g := Bar_mono gh (show n - 1 ≤ n by omega)
        omega
      · rw [if_neg hn]
        have k := Bar_mono g1 (show n - 1 ≤ n by omega)
        by_cases hn2 : l ≤ n
        · have : n = l := by omega
          subst this
          rw [if_pos (Int.le_refl _)]
          omega
        · rw [if_neg hn2]
          omega
    obtain ⟨v1, v2, v3⟩ := woF_spec g1 ga in2
    have sn := sumC_nonneg ga
    have gi := gt.i
    obtain ⟨b1, b2, _, b4⟩ := both_spec (one_gd (l := l) (show 1 ≤ c + t.2.2 + sumC (abv l t.2.1) by omega)) v1
    refine ⟨_, if_pos in2, b1, fun x => ?_, fun y hy => ?_⟩
    · have e1 := b2 x
      have e2 : Bar [(l, c + t.2.2 + sumC (abv l t.2.1))] x = if l ≤ x then c + t.2.2 + sumC (abv l t.2.1) else 0 := by rw [Bar_cons, Bar_nil]; omega
      rw [e2, v2, abv_bar] at e1
      have e3 := hl x
      have e4 := hb x
      have e5 := abv_sum l t.2.1
      by_cases hx : l ≤ x
      · rw [if_pos hx, if_pos hx] at e1
        have a := high x hx
        have e := lk x
        omega
      · rw [if_neg hx, if_neg hx] at e1
        have a := low x (by omega)
        have b := hr x
        rw [rb, if_neg hx] at b
        have := ln x
        omega
    · rcases b4 y hy with e | e
      · have : y.1 = l := by simpa using e
        rw [this]
        exact w3 (l, c) List.mem_cons_self
      · obtain ⟨q, hq, eq⟩ := List.mem_map.mp e
        obtain ⟨u, hu, eu⟩ := List.mem_map.mp (v3 q hq)
        rw [← eq, ← eu]
        exact w3 u (List.mem_cons_of_mem _ hu)
theorem ptd_none : ∀ (tl : Hea) (o r : Hea), (∀ z ∈ tl, 1 ≤ z.2) → (tl.foldl ptd1 (o, r, 0)).1 = o
  | [], _, _, _ => rfl
  | z :: tl, o, r, h => by
    have hz := h z List.mem_cons_self
    have e : ptd1 (o, r, 0) z = (o, (ptd1 (o, r, 0) z).2.1, 0) := by
      unfold ptd1
      have hm : min z.2 0 = 0 := by omega
      simp only [hm]
      rfl
    rw [List.foldl_cons, e]
    exact ptd_none tl o _ fun y hy => h y (List.mem_cons_of_mem _ hy)
theorem ptd_one {l c : Int} {tl : Hea} (g : Gd ((l, c) :: tl)) : (ptd ((l, c) :: tl) c).1 = [(l, c)] := by
  obtain ⟨g1, g2, _⟩ := gd_tail g
  have g2 : 1 ≤ c := g2
  have e : ptd1 ([], [], c) (l, c) = ([(l, c)], [], 0) := by
    unfold ptd1
    have hm : min c c = c := by omega
    simp only [hm]
    rw [if_pos (by omega), if_neg (by omega)]
    simp
  unfold ptd
  rw [List.foldl_cons, e]
  exact ptd_none tl _ _ g1.pos
/-! ### just where there is such a store -/
theorem lack_nn {U : List Int} {t : Thr} (gt : GdT U t) (x : Int) : 0 ≤ lack t x := by
  have := gt.i
  have := Bar_le gt.o x
  unfold lack
  omega
theorem src_sound {U : List Int} {t : Thr} {r : Hea} (gt : GdT U t) (gr : Gd r) (hn : srcD t r ≠ .none) :
    ∃ s, srcD t r = hh s ∧ Gd s ∧ (∀ x, max (Bar s x + bal t x) (Bar t.1 x) = Bar r x) ∧ (∀ y ∈ s, y.1 ∈ r.map (·.1)) := by
  have hl : ∀ x, bal t x = Bar t.1 x - lack t x := fun _ => rfl
  have lk : ∀ x, lack t x = t.2.2 + sumC t.2.1 - Bar t.2.1 x := fun _ => rfl
  have ln := lack_nn gt
  by_cases in1 : inB r t.1 = true
  rotate_left
  · exact absurd (by unfold srcD; rw [if_neg in1]) hn
  obtain ⟨w1, w2, w3⟩ := woF_spec gr gt.l in1
  unfold srcD at hn ⊢
  rw [if_pos in1] at hn ⊢
  generalize woF r t.1 = rest at *
  cases rest with
  | nil =>
    refine ⟨[], rfl, .nil, fun x => ?_, fun _ h => (nomatch h)⟩
    have a := w2 x
    have c := hl x
    have := ln x
    rw [Bar_nil] at a ⊢
    omega
  | cons z tl =>
    obtain ⟨l, c⟩ := z
    by_cases in2 : inB tl (abv l t.2.1) = true
    rotate_left
    · exact absurd (if_neg in2) hn
    obtain ⟨g1, g2, g3⟩ := gd_tail w1
    have g2 : 1 ≤ c := g2
    have ga := abv_gd (l := l) gt.o
    have rb : ∀ x, Bar ((l, c) :: tl) x = (if l ≤ x then c else 0) + Bar tl x := fun x => Bar_cons ..
    have low : ∀ x, x ≤ l → Bar tl x = 0 := fun x hx => Bar_none fun y hy => by
      have : l < y.1 := g3 y hy
      omega
    have high : ∀ x, l ≤ x → c + Bar tl x = Bar r x - Bar t.1 x := fun x hx => by
      have a := w2 x
      rw [rb, if_pos hx] at a
      exact a
    obtain ⟨v1, v2, v3⟩ := woF_spec g1 ga in2
    have sn := sumC_nonneg ga
    have gi := gt.i
    obtain ⟨b1, b2, _, b4⟩ := both_spec (one_gd (l := l) (show 1 ≤ c + t.2.2 + sumC (abv l t.2.1) by omega)) v1
    refine ⟨_, if_pos in2, b1, fun x => ?_, fun y hy => ?_⟩
    · have e1 := b2 x
      have e2 : Bar [(l, c + t.2.2 + sumC (abv l t.2.1))] x = if l ≤ x then c + t.2.2 + sumC (abv l t.2.1) else 0 := by rw [Bar_cons, Bar_nil]; omega
      rw [e2, v2, abv_bar] at e1
      have e3 := hl x
      have e5 := abv_sum l t.2.1
      by_cases hx : l ≤ x
      · rw [if_pos hx, if_pos hx] at e1
        have a := high x hx
        have e := lk x
        have := Bar_nonneg g1 x
        omega
      · rw [if_neg hx, if_neg hx] at e1
        have a := low x (by omega)
        have b := w2 x
        rw [rb, if_neg hx] at b
        have := ln x
        omega
    · rcases b4 y hy with e | e
      · have : y.1 = l := by simpa using e
        rw [this]
        exact w3 (l, c) List.mem_cons_self
      · obtain ⟨q, hq, eq⟩ := List.mem_map.mp e
        obtain ⟨u, hu, eu⟩ := List.mem_map.mp (v3 q hq)
        rw [← eq, ← eu]
        exact w3 u (List.mem_cons_of_mem _ hu)
theorem src_ok {U : List Int} {t : Thr} {r : Hea} (gt : GdT U t) (gr : Gd r) (h1 : ∀ n, 0 ≤ Bar r n - Bar t.1 n) (h2 : ∀ m n, m ≤ n → 0 < Bar r m - Bar t.1 m → Bar r m - Bar t.1 m + lack t m ≤ Bar r n - Bar t.1 n + lack t n) : srcD t r ≠ .none := by
  have lk : ∀ x, lack t x = t.2.2 + sumC t.2.1 - Bar t.2.1 x := fun _ => rfl
  have in1 : inB r t.1 = true := (inB_iff gr gt.l).mpr fun n => by
    have a := h1 n
    have b := h1 (n - 1)
    have e := lk n
    have f := lk (n - 1)
    have k := Bar_mono gt.o (show n - 1 ≤ n by omega)
    by_cases hp : 0 < Bar r (n - 1) - Bar t.1 (n - 1)
    · have := h2 (n - 1) n (by omega) hp
      omega
    · omega
  obtain ⟨w1, w2, w3⟩ := woF_spec gr gt.l in1
  unfold srcD
  rw [if_pos in1]
  generalize woF r t.1 = rest at *
  cases rest with
  | nil => exact fun e => nomatch e
  | cons z tl =>
    obtain ⟨l, c⟩ := z
    obtain ⟨g1, g2, g3⟩ := gd_tail w1
    have g2 : 1 ≤ c := g2
    have ga := abv_gd (l := l) gt.o
    have rb : ∀ x, Bar ((l, c) :: tl) x = (if l ≤ x then c else 0) + Bar tl x := fun x => Bar_cons ..
    have high : ∀ x, l ≤ x → c + Bar tl x = Bar r x - Bar t.1 x := fun x hx => by
      have a := w2 x
      rw [rb, if_pos hx] at a
      exact a
    have in2 : inB tl (abv l t.2.1) = true := (inB_iff g1 ga).mpr fun n => by
      rw [abv_bar, abv_bar]
      by_cases hn : l ≤ n - 1
      · rw [if_pos hn, if_pos (by omega)]
        have a := high n (by omega)
        have b := high (n - 1) hn
        have e := lk n
        have f := lk (n - 1)
        have := Bar_nonneg g1 (n - 1)
        have g := h2 (n - 1) n (by omega) (by omega)
        omega
      · rw [if_neg hn]
        have k := Bar_mono g1 (show n - 1 ≤ n by omega)
        by_cases hn2 : l ≤ n
        · have : n = l := by omega
          subst this
          rw [if_pos (Int.le_refl _)]
          omega
        · rw [if_neg hn2]
          omega
    show (if inB tl (abv l t.2.1) = true then _ else _) ≠ _
    rw [if_pos in2]
    exact fun e => nomatch e
/-! ### the law's run, however many there are -/
structure StoN (h : Hea) : Prop where
  g : Gd h
  l : h.length ≤ 40
  k : ∀ y ∈ h, -1000000 ≤ y.1 ∧ y.1 ≤ 1000000
theorem StoN.gd {h : Hea} (s : StoN h) : GdT U1 (h, [], 0) := ⟨s.g, .nil, fun y hy => (U1_mem _).mpr (s.k y hy), fun _ h => (nomatch h), Int.le_refl _⟩
theorem Sto.n {h : Hea} (s : Sto h) : StoN h := ⟨s.g, s.l, s.k⟩
theorem dnN_gd {ws : List Stp} {h : Hea} (ho : okW U0 2 ws) (s : StoN h) : GdT U1 (dn ws h) := bhd_gd s.gd ((th_gd ho).wide U01)
theorem dnN_bar {ws : List Stp} {h : Hea} (ho : okW U0 2 ws) (s : StoN h) (x : Int) : Bar (dn ws h).1 x = max (Bar h x + (eb ws x).1) (eb ws x).2 := by
  rw [eb_th ho]
  exact (bhd_bar s.gd ((th_gd ho).wide U01) x).1
theorem dnN_len {ws : List Stp} {h : Hea} (ho : okW U0 2 ws) (s : StoN h) (X : List Int) (hX : X = bs (isort (putsW ws) ++ h.map (·.1))) : heapOf X (X.map (Bar (dn ws h).1)) = (dn ws h).1 := by
  obtain ⟨x1, x2, _⟩ := bs_spec (isort (putsW ws) ++ h.map (·.1))
  rw [← hX] at x1 x2
  have hV : okW (putsW ws) 2 ws := okW_re 2 ws ho fun n hn => hn
  have g1 : GdT X (th ws) := ((thrW_ok 2 ws ([], [], 0) hV none_gd).1).wide fun n hn => (x2 n).mpr (List.mem_append_left _ ((isort_perm _).mem_iff.mpr hn))
  have g2 : GdT X (h, [], 0) := ⟨s.g, .nil, fun y hy => (x2 _).mpr (List.mem_append_right _ (List.mem_map_of_mem hy)), fun _ h => (nomatch h), Int.le_refl _⟩
  have g := bhd_gd g2 g1
  exact heapOf_bars x1 g.l g.lU
/-! ### the fewest between -/
/-- how many of n there are -/
def ct (h : Hea) (n : Int) : Int := (getI h n).getD 0
theorem ct_bar {h : Hea} (g : Gd h) (n : Int) : ct h n = Bar h n - Bar h (n - 1) := getI_bar g.rise n
/-- what is behind so many taken is in the goal -/
def fitS (a g : Hea) (m : Int) : Prop := ∀ n, max (Bar a n - m) 0 - max (Bar a (n - 1) - m) 0 ≤ Bar g n - Bar g (n - 1)
/-- the state behind some of the pairs, from the greatest -/
def btI (g : Hea) (P : Hea) (takes : Int) (kept : Bool) : Prop :=
  if kept = true then takes = 0 ∧ ∀ y ∈ P, y.2 ≤ ct g y.1 else ∃ P1 z P2, P = P1 ++ z :: P2 ∧ (∀ y ∈ P1, y.2 ≤ ct g y.1) ∧ 0 ≤ ct g z.1 ∧ ct g z.1 < z.2 ∧ takes = (z.2 - ct g z.1) + sumC P2
theorem sumC_app (a b : Hea) : sumC (a ++ b) = sumC a + sumC b := by simp [sumC]
theorem sumC_rev (a : Hea) : sumC a.reverse = sumC a := by
  induction a with
  | nil => rfl
  | cons z a ih => rw [List.reverse_cons, sumC_app, ih, sumC_cons, sumC_cons]; simp [sumC]; omega
theorem ct_nn {g : Hea} (gg : Gd g) (n : Int) : 0 ≤ ct g n := by
  rw [ct_bar gg]
  have := Bar_mono gg (show n - 1 ≤ n by omega)
  omega
theorem ct_in {a : Hea} (ga : Gd a) {y : Int × Int} (hy : y ∈ a) : y.2 = Bar a y.1 - Bar a (y.1 - 1) := jump ga.rise y hy
theorem bt_end {a g : Hea} (ga : Gd a) (gg : Gd g) {m : Int} {kept : Bool} (h : btI g a.reverse m kept) : 0 ≤ m ∧ m ≤ sumC a ∧ fitS a g m ∧ ∀ m', 0 ≤ m' → fitS a g m' → m ≤ m' := by
  cases kept with
  | true =>
    obtain ⟨rfl, h2⟩ := (show m = 0 ∧ ∀ y ∈ a.reverse, y.2 ≤ ct g y.1 from h)
    refine ⟨Int.le_refl _, sumC_nonneg ga, fun n => ?_, fun m' h _ => h⟩
    have b1 := Bar_nonneg ga n
    have b2 := Bar_nonneg ga (n - 1)
    by_cases hn : n ∈ a.map (·.1)
    · obtain ⟨y, hy, rfl⟩ := List.mem_map.mp hn
      have h3 := h2 y (List.mem_reverse.mpr hy)
      rw [ct_bar gg] at h3
      have h4 := ct_in ga hy
      omega
    · have h3 := Bar_off hn
      have h4 := Bar_mono gg (show n - 1 ≤ n by omega)
      omega
  | false =>
    obtain ⟨P1, z, P2, e, h1, h2, h3, h4⟩ := (show ∃ P1 z P2, a.reverse = P1 ++ z :: P2 ∧ (∀ y ∈ P1, y.2 ≤ ct g y.1) ∧ 0 ≤ ct g z.1 ∧ ct g z.1 < z.2 ∧ m = (z.2 - ct g z.1) + sumC P2 from h)
    have ea : a = P2.reverse ++ z :: P1.reverse := by
      have := congrArg List.reverse e
      rw [List.reverse_reverse] at this
      rw [this]
      simp
    have hp := ga.rise
    rw [ea, List.pairwise_append] at hp
    obtain ⟨p1, p2, p3⟩ := hp
    obtain ⟨p4, p5⟩ := List.pairwise_cons.mp p2
    have pos2 : ∀ y ∈ P2.reverse, 1 ≤ y.2 := fun y hy => ga.pos y (by rw [ea]; exact List.mem_append_left _ hy)
    have g2 : Gd P2.reverse := ⟨p1, pos2⟩
    have g1 : Gd P1.reverse := ⟨p5, fun y hy => ga.pos y (by rw [ea]; exact List.mem_append_right _ (List.mem_cons_of_mem _ hy))⟩
    have s2 : sumC P2.reverse = sumC P2 := sumC_rev P2
    have s2n := sumC_nonneg g2
    have s1n := sumC_nonneg g1
    have za : z ∈ a := by rw [ea]; simp
    have hz := ct_in ga za
    have ba : ∀ x, Bar a x = Bar P2.reverse x + ((if z.1 ≤ x then z.2 else 0) + Bar P1.reverse x) := fun x => by
      conv => lhs; rw [ea]
      rw [Bar_app, Bar_cons]
    have bz : Bar a z.1 = sumC P2 + z.2 := by
      rw [ba, if_pos (Int.le_refl _), Bar_none fun y hy => p4 y hy, Bar_high fun y hy => by have := p3 y hy z List.mem_cons_self; omega]
      omega
    have sa : sumC a = sumC P2 + z.2 + sumC P1.reverse := by
      conv => lhs; rw [ea]
      rw [sumC_app, sumC_cons]
      omega
    refine ⟨by omega, by omega, fun n => ?_, fun m' h0 hf => ?_⟩
    · have mo := Bar_mono ga (show n - 1 ≤ n by omega)
      have mg := Bar_mono gg (show n - 1 ≤ n by omega)
      by_cases hn : n < z.1
      · have := Bar_mono ga (show n ≤ z.1 - 1 by omega)
        omega
      · by_cases hn2 : n = z.1
        · subst hn2
          rw [← ct_bar gg]
          omega
        · have := Bar_mono ga (show z.1 ≤ n - 1 by omega)
          by_cases hk : n ∈ a.map (·.1)
          · obtain ⟨y, hy, rfl⟩ := List.mem_map.mp hk
            have hy1 : y ∈ P1 := by
              rw [ea] at hy
              rcases List.mem_append.mp hy with h | h
              · have := p3 y h z List.mem_cons_self
                omega
              · rcases List.mem_cons.mp h with h | h
                · rw [h] at hn2; exact absurd rfl hn2
                · exact List.mem_reverse.mp h
            have h5 := h1 y hy1
            rw [ct_bar gg] at h5
            have h6 := ct_in ga hy
            omega
          · have := Bar_off hk
            omega
    · have h5 := hf z.1
      rw [← ct_bar gg] at h5
      omega
/-- taking on and on -/
theorem fit_trans {a c g : Hea} (ga : Gd a) (gc : Gd c) {m1 m2 : Int} (h1 : fitS a c m1) (h2 : fitS c g m2) (k1 : 0 ≤ m1) (k2 : 0 ≤ m2) : fitS a g (m1 + m2) := fun n => by
  have e2 := h2 n
  have mo := Bar_mono ga (show n - 1 ≤ n by omega)
  have mc := Bar_mono gc (show n - 1 ≤ n by omega)
  -- what is kept of a is under c
  have ub : ∀ x, max (Bar a x - m1) 0 ≤ Bar c x := by
    obtain ⟨lo, hlo⟩ := bar_lowN a
    intro x
    by_cases hx : x ≤ lo
    · have := hlo x hx
      have := Bar_nonneg gc x
      omega
    · have step : ∀ k : Nat, max (Bar a (lo + k) - m1) 0 ≤ Bar c (lo + k) := fun k => by
        induction k with
        | zero =>
          have := hlo (lo + (0 : Nat)) (by omega)
          have := Bar_nonneg gc (lo + (0 : Nat))
          omega
        | succ k ih =>
          have e := h1 (lo + (k + 1 : Nat))
          rw [show lo + ((k + 1 : Nat) : Int) - 1 = lo + (k : Nat) by omega] at e
          omega
      have := step (x - lo).toNat
      rw [show lo + ((x - lo).toNat : Int) = x by omega] at this
      exact this
  have e1 := h1 n
  have u1 := ub n
  have u2 := ub (n - 1)
  omega
/-! ### between -/
theorem bt_step {g : Hea} (gg : Gd g) {P : Hea} {z : Int × Int} {t : Int} {k : Bool} (h : btI g P t k) : btI g (P ++ [z]) (t + (z.2 - if k = true then min z.2 (ct g z.1) else 0)) (k && decide ((if k = true then min z.2 (ct g z.1) else 0) = z.2)) := by
  have cn := ct_nn gg z.1
  cases k with
  | true =>
    obtain ⟨h1, h2⟩ := (show t = 0 ∧ ∀ y ∈ P, y.2 ≤ ct g y.1 from h)
    rw [if_pos rfl]
    by_cases hz : z.2 ≤ ct g z.1
    · have e : min z.2 (ct g z.1) = z.2 := by omega
      rw [e]
      simp
      show _ = _ ∧ _
      refine ⟨by omega, fun y hy => ?_⟩
      rcases List.mem_append.mp hy with h | h
      · exact h2 y h
      · rw [List.mem_singleton.mp h]; exact hz
    · have e : min z.2 (ct g z.1) = ct g z.1 := by omega
      have ne : ¬ (ct g z.1 = z.2) := by omega
      rw [e]
      simp [ne]
      exact ⟨P, z, [], rfl, h2, cn, by omega, by simp [sumC]; omega⟩
  | false =>
    obtain ⟨P1, y, P2, e, h1, h2, h3, h4⟩ := (show ∃ P1 y P2, P = P1 ++ y :: P2 ∧ (∀ y ∈ P1, y.2 ≤ ct g y.1) ∧ 0 ≤ ct g y.1 ∧ ct g y.1 < y.2 ∧ t = (y.2 - ct g y.1) + sumC P2 from h)
    simp
    exact ⟨P1, y, P2 ++ [z], by rw [e]; simp, h1, h2, h3, by rw [sumC_app, sumC_cons, show sumC [] = 0 from rfl]; omega⟩
theorem rev_hh (h : Hea) : (h.map encP).reverse = h.reverse.map encP := by rw [List.map_reverse]
/-! ### plain works -/
def repS (ws : List Stp) (c : Int) : List Stp := if c = 0 then [] else if c = 1 then ws else [.times c ws]
theorem ww_nil : ww [] = .tuple [] := by simp [ww, wsD]
theorem ww_times (c : Int) (ws : List Stp) : ww [.times c ws] = .tuple [.tuple [.str "times", .int c, ww ws]] := by simp [ww, wsD, sD]
/-- the plain work of a three -/
def plA (t : Thr) : List Stp := repS [.take] t.2.2
def plO (o : Hea) : List Stp := (o.map fun z => repS [.put z.1, .take] z.2).flatten
def plL (l : Hea) : List Stp := (l.map fun z => repS [.put z.1] z.2).flatten
def pln (t : Thr) : List Stp := plA t ++ plO t.2.1 ++ plL t.1
theorem barW_cat (x : Int) (a b : List Stp) (f : Int × Int) : barW x f (a ++ b) = barW x (barW x f a) b := by
  rw [barW_fold, barW_fold, barW_fold, List.foldl_append]
theorem bar_take (x e c : Int) (hc : 0 ≤ c) : barW x (e, 0) (repS [.take] c) = (e - c, 0) := by
  unfold repS
  by_cases h0 : c = 0
  · subst h0
    simp [barW]
  · rw [if_neg h0]
    by_cases h1 : c = 1
    · subst h1
      simp [barW, barS]
      omega
    · rw [if_neg h1]
      simp [barW, barS, h0]
      omega
theorem bar_out (x e n c : Int) (hc : 1 ≤ c) : barW x (e, 0) (repS [.put n, .take] c) = (e - (if n ≤ x then 0 else c), 0) := by
  unfold repS
  rw [if_neg (by omega)]
  by_cases h1 : c = 1
  · subst h1
    rw [if_pos rfl]
    by_cases hn : n ≤ x <;> simp [barW, barS, hn] <;> omega
  · rw [if_neg h1]
    by_cases hn : n ≤ x <;> simp [barW, barS, hn, show c ≠ 0 by omega] <;> omega
theorem bar_left (x e b n c : Int) (hb : 0 ≤ b) (hc : 1 ≤ c) : barW x (e, b) (repS [.put n] c) = (e + (if n ≤ x then c else 0), b + (if n ≤ x then c else 0)) := by
  unfold repS
  rw [if_neg (by omega)]
  by_cases h1 : c = 1
  · subst h1
    rw [if_pos rfl]
    by_cases hn : n ≤ x <;> simp [barW, barS, hn] <;> omega
  · rw [if_neg h1]
    by_cases hn : n ≤ x <;> simp [barW, barS, hn, show c ≠ 0 by omega] <;> omega
theorem bar_outs (x : Int) : ∀ (o : Hea) (e : Int), (∀ z ∈ o, 1 ≤ z.2) → barW x (e, 0) (plO o) = (e - (sumC o - Bar o x), 0)
  | [], e, _ => by simp [plO, barW, sumC, Bar]
  | z :: o, e, h => by
    have ih := bar_outs x o (e - (if z.1 ≤ x then 0 else z.2)) fun y hy => h y (List.mem_cons_of_mem _ hy)
    have e1 : plO (z :: o) = repS [.put z.1, .take] z.2 ++ plO o := rfl
    rw [e1, barW_cat, bar_out x e z.1 z.2 (h z (List.mem_cons_self ..)), ih, sumC_cons, Bar_cons]
    refine Prod.ext ?_ rfl
    dsimp only
    split <;> omega
theorem bar_lefts (x : Int) : ∀ (l : Hea) (e b : Int), 0 ≤ b → (∀ z ∈ l, 1 ≤ z.2) → barW x (e, b) (plL l) = (e + Bar l x, b + Bar l x)
  | [], e, b, _, _ => by simp [plL, barW, Bar]
  | z :: l, e, b, hb, h => by
    have hz := h z (List.mem_cons_self ..)
    have ih := bar_lefts x l (e + (if z.1 ≤ x then z.2 else 0)) (b + (if z.1 ≤ x then z.2 else 0)) (by split <;> omega) fun y hy => h y (List.mem_cons_of_mem _ hy)
    have e1 : plL (z :: l) = repS [.put z.1] z.2 ++ plL l := rfl
    rw [e1, barW_cat, bar_left x e b z.1 z.2 hb hz, ih, Bar_cons]
    refine Prod.ext ?_ ?_ <;> dsimp only <;> split <;> omega
theorem repS_ok {ws : List Stp} {c : Int} (h : okW U0 1 ws) (h2 : okW U0 2 ws) (h0 : 0 ≤ c) (h1 : c ≤ 1000000000000000000) : okW U0 2 (repS ws c) := by
  unfold repS
  split
  · simp [okW]
  · split
    · exact h2
    · simp only [okW, okS]
      exact ⟨⟨h0, h1, h⟩, trivial⟩
theorem flat_ok {α : Type} (f : α → List Stp) : ∀ (l : List α), (∀ z ∈ l, okW U0 2 (f z)) → okW U0 2 (l.map f).flatten
  | [], _ => by simp [okW]
  | z :: l, h => by
    rw [List.map_cons, List.flatten_cons]
    exact okW_cat (h z (List.mem_cons_self ..)) (flat_ok f l fun y hy => h y (List.mem_cons_of_mem _ hy))
theorem pln_ok {t : Thr} (k : TkC t) : okW U0 2 (pln t) := by
  refine okW_cat (okW_cat (repS_ok (by simp [okW, okS]) (by simp [okW, okS]) k.g.i k.i) (flat_ok _ _ fun z hz => ?_)) (flat_ok _ _ fun z hz => ?_)
  · have hu := k.g.oU z hz
    have := k.g.o.pos z hz
    exact repS_ok (by simp [okW, okS]; exact hu) (by simp [okW, okS]; exact hu) (by omega) (k.d z hz)
  · have hu := k.g.lU z hz
    have := k.g.l.pos z hz
    exact repS_ok (by simp [okW, okS]; exact hu) (by simp [okW, okS]; exact hu) (by omega) (k.c z hz)
theorem pln_eb {t : Thr} (k : TkC t) (x : Int) : eb (pln t) x = (bal t x, Bar t.1 x) := by
  show barW x (0, 0) (plA t ++ plO t.2.1 ++ plL t.1) = _
  rw [barW_cat, barW_cat]
  unfold plA
  rw [bar_take x 0 _ k.g.i, bar_outs x t.2.1 _ k.g.o.pos, bar_lefts x t.1 _ 0 (Int.le_refl _) k.g.l.pos]
  refine Prod.ext ?_ ?_
  · simp only [bal, lack]; omega
  · dsimp only; omega
theorem pln_th {t : Thr} (k : TkC t) : th (pln t) = t := by
  have ho := pln_ok k
  refine thr_uniq (th_gd ho) k.g (fun n => ?_) fun n => ?_
  · have h1 := eb_th ho n
    rw [pln_eb k] at h1
    exact (congrArg Prod.snd h1).symm
  · have h1 := eb_th ho n
    rw [pln_eb k] at h1
    have h2 := congrArg Prod.fst h1
    have h3 := congrArg Prod.snd h1
    simp only [bal] at h2 h3
    omega
theorem repS_len (ws : List Stp) (c : Int) : (repS ws c).length ≤ ws.length + 1 := by
  unfold repS
  split
  · simp
  · split
    · omega
    · simp
theorem plO_len : ∀ o : Hea, (plO o).length ≤ 3 * o.length
  | [] => by simp [plO]
  | z :: o => by
    have := plO_len o
    have h := repS_len [.put z.1, .take] z.2
    have e1 : plO (z :: o) = repS [.put z.1, .take] z.2 ++ plO o := rfl
    rw [e1, List.length_append, List.length_cons]
    simp at h
    omega
theorem plL_len : ∀ o : Hea, (plL o).length ≤ 2 * o.length
  | [] => by simp [plL]
  | z :: o => by
    have := plL_len o
    have h := repS_len [.put z.1] z.2
    have e1 : plL (z :: o) = repS [.put z.1] z.2 ++ plL o := rfl
    rw [e1, List.length_append, List.length_cons]
    simp at h
    omega
theorem plO_app (a b : Hea) : plO (a ++ b) = plO a ++ plO b := by simp [plO]
theorem plL_app (a b : Hea) : plL (a ++ b) = plL a ++ plL b := by simp [plL]
theorem fSeq_nx {f g : S → Rz Fl} {st st1 : S} (h : f st = .ok .nx st1) : fSeq f g st = g st1 := by
  unfold fSeq
  rw [h]
theorem ww_take : ww [.take] = .tuple [.tuple [.str "take"]] := by simp [ww, wsD, sD]
theorem ww_pt (n : Int) : ww [.put n, .take] = .tuple [.tuple [.str "put", .int n], .tuple [.str "take"]] := by simp [ww, wsD, sD]
theorem ww_p (n : Int) : ww [.put n] = .tuple [.tuple [.str "put", .int n]] := by simp [ww, wsD, sD]
/-! ### rows of numbers -/
def cq (x : Int) (L : List Int) : Int := (L.countP fun n => decide (n ≤ x) : Nat)
theorem cq_cons (x n : Int) (L : List Int) : cq x (n :: L) = (if n ≤ x then 1 else 0) + cq x L := by
  unfold cq
  rw [List.countP_cons]
  by_cases h : n ≤ x <;> simp [h]
  omega
theorem cq_nil (x : Int) : cq x [] = 0 := rfl
theorem cq_pos (x : Int) (L : List Int) : 0 ≤ cq x L ∧ cq x L ≤ L.length := by
  unfold cq
  have := List.countP_le_length (p := fun n => decide (n ≤ x)) (l := L)
  omega
theorem cq_app (x : Int) (A B : List Int) : cq x (A ++ B) = cq x A + cq x B := by
  unfold cq
  rw [List.countP_append]
  omega
/-- how many n: by its bars -/
theorem count_cq (n : Int) (L : List Int) : (L.count n : Int) = cq n L - cq (n - 1) L := by
  induction L with
  | nil => rfl
  | cons y L ih =>
    rw [List.count_cons, cq_cons, cq_cons]
    by_cases h : y = n
    · subst h
      have e : (if (y == y) = true then 1 else 0) = 1 := by simp
      rw [e, if_pos (Int.le_refl _), if_neg (show ¬ y ≤ y - 1 by omega)]
      omega
    · have e : (if (y == n) = true then 1 else 0) = 0 := by simp [h]
      rw [e]
      by_cases h2 : y ≤ n
      · rw [if_pos h2, if_pos (by omega)]
        omega
      · rw [if_neg h2, if_neg (by omega)]
        omega
theorem cq_rep (x n : Int) : ∀ c : Nat, cq x (List.replicate c n) = if n ≤ x then (c : Int) else 0
  | 0 => by rw [List.replicate_zero, cq_nil]; split <;> rfl
  | c + 1 => by
    rw [List.replicate_succ, cq_cons, cq_rep x n c]
    split <;> omega
def rowsL (h : Hea) : List Int := h.flatMap fun z => List.replicate z.2.toNat z.1
theorem rowsL_cq (x : Int) : ∀ {h : Hea}, (∀ z ∈ h, 0 ≤ z.2) → cq x (rowsL h) = Bar h x
  | [], _ => rfl
  | z :: h, k => by
    have hz := k z List.mem_cons_self
    unfold rowsL
    rw [List.flatMap_cons, cq_app, cq_rep, Bar_cons]
    have ih := rowsL_cq x (h := h) fun y hy => k y (List.mem_cons_of_mem _ hy)
    unfold rowsL at ih
    rw [ih]
    split <;> omega
theorem rowsL_mem {h : Hea} {n : Int} (hn : n ∈ rowsL h) : n ∈ h.map (·.1) := by
  obtain ⟨z, hz, hr⟩ := List.mem_flatMap.mp hn
  rw [(List.mem_replicate.mp hr).2]
  exact List.mem_map_of_mem hz
theorem rowsL_sorted : ∀ {h : Hea}, h.Pairwise (fun a b => a.1 < b.1) → (rowsL h).Pairwise (· ≤ ·)
  | [], _ => .nil
  | z :: h, p => by
    obtain ⟨p1, p2⟩ := List.pairwise_cons.mp p
    unfold rowsL
    rw [List.flatMap_cons, List.pairwise_append]
    refine ⟨List.pairwise_replicate.mpr (.inr (Int.le_refl _)), rowsL_sorted p2, fun x hx y hy => ?_⟩
    rw [(List.mem_replicate.mp hx).2]
    obtain ⟨w, hw, ew⟩ := List.mem_map.mp (rowsL_mem (h := h) hy)
    have := p1 w hw
    omega
theorem rowsL_len : ∀ {h : Hea}, (∀ z ∈ h, 0 ≤ z.2) → ((rowsL h).length : Int) = sumC h
  | [], _ => rfl
  | z :: h, k => by
    have hz := k z List.mem_cons_self
    have ih := rowsL_len (h := h) fun y hy => k y (List.mem_cons_of_mem _ hy)
    unfold rowsL at ih ⊢
    rw [List.flatMap_cons, List.length_append, List.length_replicate, sumC_cons]
    omega
/-- the least k are gone -/
theorem cq_drop (x : Int) : ∀ (L : List Int) (k : Nat), L.Pairwise (· ≤ ·) → cq x (L.drop k) = max (cq x L - k) 0
  | L, 0, _ => by have := cq_pos x L; rw [List.drop_zero]; omega
  | [], k + 1, _ => by rw [List.drop_nil, cq_nil]; omega
  | y :: L, k + 1, p => by
    obtain ⟨p1, p2⟩ := List.pairwise_cons.mp p
    rw [List.drop_succ_cons, cq_drop x L k p2, cq_cons]
    by_cases h : y ≤ x
    · rw [if_pos h]; omega
    · have : cq x L = 0 := by
        unfold cq
        rw [List.countP_eq_zero.mpr fun n hn => by have := p1 n hn; simp; omega]
        rfl
      rw [if_neg h, this]; omega
theorem gOr_r8 {a b : S → Rs → Rs → Option Rs} {st : S} {x y : Rs} (h : a st x y = none) : gOr a b st x y = b st x y := by unfold gOr; rw [h]; rfl
theorem repL_ev (st : S) (n c : Int) (h0 : 0 ≤ c) (h1 : c ≤ 1000) : gMul st (.own (.lst [.int n])) (.d (.int c)) = some (.own (.lst ((List.replicate c.toNat n).map .int))) := by
  have e : gRepL st (.own (.lst [.int n])) (.d (.int c)) = some (.own (.lst ((List.replicate c.toNat n).map .int))) := by
    have e2 : (List.replicate c.toNat [PyData.int n]).flatten = (List.replicate c.toNat n).map .int := by simp
    unfold gRepL
    exact (if_pos ⟨by omega, by omega, by rw [sizeLine_eq]; simp; omega⟩).trans (by rw [e2])
  rw [show gMul = gOr gMulI gRepL from rfl, gOr_r8 (show gMulI st (.own (.lst [.int n])) (.d (.int c)) = none from rfl), e]
/-! ### numbers counted, of a list that is a datum -/
theorem cnt_step (x m : Int) (L : List Int) : ∀ X : List Int, X.Nodup → Bar (X.map fun n => (n, ((m :: L).count n : Int))) x = Bar (X.map fun n => (n, (L.count n : Int))) x + if m ∈ X ∧ m ≤ x then 1 else 0
  | [], _ => by simp [Bar]
  | y :: X, nd => by
    obtain ⟨n1, n2⟩ := List.nodup_cons.mp nd
    have ih := cnt_step x m L X n2
    rw [List.map_cons, List.map_cons, Bar_cons, Bar_cons, ih, List.count_cons]
    by_cases hm : m = y
    · subst hm
      have e1 : (if (m == m) = true then 1 else 0) = 1 := by simp
      rw [e1, if_neg (show ¬ (m ∈ X ∧ m ≤ x) from fun h => n1 h.1)]
      by_cases hx : m ≤ x
      · rw [if_pos hx, if_pos hx, if_pos ⟨List.mem_cons_self .., hx⟩]; omega
      · rw [if_neg hx, if_neg hx, if_neg (fun h => hx h.2)]; omega
    · have e1 : (if (m == y) = true then 1 else 0) = 0 := by simp [hm]
      have e2 : (m ∈ y :: X ∧ m ≤ x) ↔ (m ∈ X ∧ m ≤ x) := by simp [hm]
      rw [e1]
      simp only [e2]
      by_cases hx : y ≤ x
      · rw [if_pos hx, if_pos hx]; omega
      · rw [if_neg hx, if_neg hx]; omega
theorem cnt_all (x : Int) (X : List Int) (nd : X.Nodup) : ∀ L : List Int, (∀ n ∈ L, n ∈ X) → Bar (X.map fun n => (n, (L.count n : Int))) x = cq x L
  | [], _ => by
    rw [cq_nil]
    clear nd
    induction X with
    | nil => rfl
    | cons y X ih => rw [List.map_cons, Bar_cons, ih fun _ h => nomatch h]; simp
  | m :: L, h => by
    rw [cnt_step x m L X nd, cnt_all x X nd L fun n hn => h n (List.mem_cons_of_mem _ hn), cq_cons]
    have hm := h m (List.mem_cons_self ..)
    by_cases hx : m ≤ x
    · rw [if_pos ⟨hm, hx⟩, if_pos hx]; omega
    · rw [if_neg (fun h => hx h.2), if_neg hx]; omega
theorem cnt_bar (L : List Int) (x : Int) : Bar (cntL L) x = cq x L := by
  obtain ⟨h1, h2, _⟩ := bs_spec L
  exact cnt_all x (bs L) (h1.imp fun h => Int.ne_of_lt h) L fun n hn => (h2 n).mpr hn
theorem cnt_sum (L : List Int) : sumC (cntL L) = L.length := by
  obtain ⟨N, hN⟩ := bar_bigN (cntL L)
  obtain ⟨m, hm⟩ : ∃ m : Int, ∀ n ∈ L, n ≤ m := by
    clear hN
    induction L with
    | nil => exact ⟨0, fun _ h => nomatch h⟩
    | cons y L ih =>
      obtain ⟨m, hm⟩ := ih
      refine ⟨max m y, fun n hn => ?_⟩
      rcases List.mem_cons.mp hn with rfl | hn
      · omega
      · have := hm n hn; omega
  have e := hN (max N m) (by omega)
  rw [cnt_bar] at e
  rw [← e]
  unfold cq
  rw [List.countP_eq_length.mpr fun n hn => by have := hm n hn; simp; omega]
theorem cq_perm {A B : List Int} (p : A.Perm B) (x : Int) : cq x A = cq x B := by unfold cq; rw [p.countP_eq]
/-! ### step by step -/
abbrev Dst := List Int × List Int × Int
def dS (s : Dst) : Stp → Dst
  | .put n => (isort (s.1 ++ [n]), s.2.1, s.2.2)
  | .take => match s.1 with
    | [] => ([], s.2.1, s.2.2 + 1)
    | m :: r => (r, s.2.1 ++ [m], s.2.2)
  | .times _ _ => s
def dW (ws : List Stp) (s : Dst) : Dst := ws.foldl dS s
structure Dgd (s : Dst) : Prop where
  r : s.1.Pairwise (· ≤ ·)
  a : In1 s.1
  b : In1 s.2.1
  i : 0 ≤ s.2.2
abbrev dT (s : Dst) : Thr := (cntL s.1, cntL s.2.1, s.2.2)
theorem dS_gd {s : Dst} (g : Dgd s) {t : Stp} (h : sg1 t) : Dgd (dS s t) := by
  obtain ⟨R, O, i⟩ := s
  cases t with
  | times _ _ => exact h.elim
  | put n =>
    refine ⟨isort_le _, fun m hm => ?_, g.b, g.i⟩
    have hm' := (isort_perm (R ++ [n])).mem_iff.mp hm
    rcases List.mem_append.mp hm' with hm' | hm'
    · exact g.a m hm'
    · rw [List.mem_singleton.mp hm']; exact h
  | take =>
    cases R with
    | nil => exact ⟨g.r, g.a, g.b, by have := g.i; simp only [dS]; dsimp only at this; omega⟩
    | cons m r =>
      refine ⟨(List.pairwise_cons.mp g.r).2, fun n hn => g.a n (List.mem_cons_of_mem _ hn), fun n hn => ?_, g.i⟩
      rcases List.mem_append.mp hn with hn | hn
      · exact g.b n hn
      · rw [List.mem_singleton.mp hn]; exact g.a m (List.mem_cons_self ..)
theorem dT_gd {s : Dst} (g : Dgd s) : GdT U0 (dT s) := ⟨cntL_gd _, cntL_gd _, fun y hy => (U0_mem _).mpr (g.a _ (cntL_mem y hy).1), fun y hy => (U0_mem _).mpr (g.b _ (cntL_mem y hy).1), g.i⟩
theorem lack_dT (s : Dst) (x : Int) : lack (dT s) x = s.2.2 + s.2.1.length - cq x s.2.1 := by
  unfold lack
  rw [cnt_sum, cnt_bar]
theorem dS_thr {s : Dst} (g : Dgd s) {t : Stp} (h : sg1 t) : bhd (dT s) (thrS t) = dT (dS s t) := by
  have ht : GdT U0 (thrS t) := (thrS_ok 1 t (by
    cases t with
    | put n => simp only [okS]; exact (U0_mem n).mpr h
    | take => simp [okS]
    | times _ _ => exact h.elim)).1
  obtain ⟨b1, b2, b3⟩ := bhd_spec (dT_gd g) ht
  refine thr_uniq b1 (dT_gd (dS_gd g h)) (fun x => ?_) fun x => ?_
  · rw [b2]
    rw [show Bar (dT s).1 x = cq x s.1 from cnt_bar _ _, show Bar (dT (dS s t)).1 x = cq x (dS s t).1 from cnt_bar _ _]
    have hp := cq_pos x s.1
    obtain ⟨R, O, i⟩ := s
    cases t with
    | times _ _ => exact h.elim
    | put n =>
      simp only [dS, thrS, cq_perm (isort_perm _), cq_app, cq_cons, cq_nil, Bar_cons, Bar_nil, lack, sumC, List.map_nil, List.sum_nil]
      dsimp only at hp
      omega
    | take =>
      cases R with
      | nil =>
        simp [dS, thrS, Bar, lack, sumC, cq_nil]
        omega
      | cons m r =>
        have hr := cq_pos x r
        have hc : ¬ m ≤ x → cq x r = 0 := fun hm => by
          unfold cq
          rw [List.countP_eq_zero.mpr fun n hn => by have := (List.pairwise_cons.mp g.r).1 n hn; simp; omega]
          rfl
        simp only [dS, thrS, Bar_nil, lack, sumC, List.map_nil, List.sum_nil, cq_cons]
        split
        · omega
        · rename_i hm
          have := hc hm
          omega
  · rw [b3, lack_dT, lack_dT]
    rw [show Bar (dT s).1 x = cq x s.1 from cnt_bar _ _]
    have hp := cq_pos x s.1
    obtain ⟨R, O, i⟩ := s
    cases t with
    | times _ _ => exact h.elim
    | put n =>
      simp only [dS, thrS, lack, sumC, List.map_nil, List.sum_nil, Bar_nil]
      dsimp only at hp
      omega
    | take =>
      cases R with
      | nil =>
        simp only [dS, thrS, lack, sumC, List.map_nil, List.sum_nil, Bar_nil, cq_nil]
        omega
      | cons m r =>
        have hr := cq_pos x r
        have hc : ¬ m ≤ x → cq x r = 0 := fun hm => by
          unfold cq
          rw [List.countP_eq_zero.mpr fun n hn => by have := (List.pairwise_cons.mp g.r).1 n hn; simp; omega]
          rfl
        simp only [dS, thrS, lack, sumC, List.map_nil, List.sum_nil, Bar_nil, cq_cons, cq_app, cq_nil, List.length_append, List.length_cons, List.length_nil]
        split
        · omega
        · rename_i hm
          have := hc hm
          omega
theorem dW_thr : ∀ (ws : List Stp) {s : Dst}, Dgd s → Sgl ws → Dgd (dW ws s) ∧ thrW (dT s) ws = dT (dW ws s)
  | [], s, g, _ => ⟨g, by simp [thrW, dW]⟩
  | t :: ws, s, g, h => by
    have ht := h t (List.mem_cons_self ..)
    obtain ⟨i1, i2⟩ := dW_thr ws (dS_gd g ht) fun y hy => h y (List.mem_cons_of_mem _ hy)
    refine ⟨i1, ?_⟩
    simp only [thrW]
    rw [dS_thr g ht, i2]
    rfl
theorem dS_len (s : Dst) (t : Stp) : (dS s t).1.length ≤ s.1.length + 1 ∧ (dS s t).2.1.length ≤ s.2.1.length + 1 := by
  obtain ⟨R, O, i⟩ := s
  cases t with
  | put n => simp only [dS, (isort_perm _).length_eq, List.length_append, List.length_cons, List.length_nil]; omega
  | take =>
    cases R with
    | nil => simp [dS]
    | cons m r => simp only [dS, List.length_append, List.length_cons, List.length_nil]; omega
  | times _ _ => simp only [dS]; omega
theorem dW_snoc (ws : List Stp) (t : Stp) (s : Dst) : dW (ws ++ [t]) s = dS (dW ws s) t := by unfold dW; rw [List.foldl_append]; rfl
theorem dW_len (s : Dst) : ∀ (n : Nat) (ws : List Stp), ws.length = n → (dW ws s).1.length ≤ s.1.length + n ∧ (dW ws s).2.1.length ≤ s.2.1.length + n
  | 0, ws, h => by rw [List.length_eq_zero_iff.mp h]; exact ⟨Nat.le_refl _, Nat.le_refl _⟩
  | n + 1, ws, h => by
    have hne : ws ≠ [] := fun e => by rw [e] at h; simp at h
    have e := List.dropLast_concat_getLast hne
    have ih := dW_len s n ws.dropLast (by rw [List.length_dropLast, h]; rfl)
    have l := dS_len (dW ws.dropLast s) (ws.getLast hne)
    rw [← e, dW_snoc]
    omega
/-! ### works with few times -/
def FewS : Stp → Prop
  | .times c vs => 0 ≤ c ∧ c ≤ 4 ∧ Sgl vs ∧ vs.length ≤ 5
  | s => sg1 s
/-! ### times told out -/
def opS : Stp → List Stp
  | .times c vs => (List.replicate c.toNat vs).flatten
  | s => [s]
def opn (ws : List Stp) : List Stp := ws.flatMap opS
theorem mulT_any (st : S) (xs : List D) (c : Int) (h0 : 0 ≤ c) (h1 : c ≤ 1000) (hl : xs.length ≤ 1000) : gMulT st (.d (.tuple xs)) (.d (.int c)) = some (.d (.tuple (List.replicate c.toNat xs).flatten)) := by
  have hm : xs.length * c.toNat ≤ 1000000 := by
    have := Nat.mul_le_mul hl (show c.toNat ≤ 1000 by omega)
    omega
  have e : gRepT st (.d (.tuple xs)) (.d (.int c)) = some (.d (.tuple (List.replicate c.toNat xs).flatten)) := by
    unfold gRepT
    exact if_pos ⟨by omega, by omega, hm⟩
  rw [show gMulT = gOr gMulI (gOr gRepL gRepT) from rfl, gOr_r8 (show gMulI st (.d (.tuple xs)) (.d (.int c)) = none from rfl), gOr_r8 (show gRepL st (.d (.tuple xs)) (.d (.int c)) = none from rfl), e]
theorem wsD_flat (n : Nat) (vs : List Stp) : wsD (List.replicate n vs).flatten = (List.replicate n (wsD vs)).flatten := by
  induction n with
  | zero => simp [wsD]
  | succ n ih => rw [List.replicate_succ, List.replicate_succ, List.flatten_cons, List.flatten_cons, wsD_cat, ih]
theorem opS_len {s : Stp} (h : FewS s) : (opS s).length ≤ 20 := by
  cases s with
  | put n => simp [opS]
  | take => simp [opS]
  | times c vs =>
    obtain ⟨h0, h1, h2, h3⟩ := h
    have hc : c = 0 ∨ c = 1 ∨ c = 2 ∨ c = 3 ∨ c = 4 := by omega
    rcases hc with rfl | rfl | rfl | rfl | rfl <;> simp [opS] <;> omega
theorem opn_len {ws : List Stp} (h : ∀ s ∈ ws, FewS s) : (opn ws).length ≤ 20 * ws.length := by
  induction ws with
  | nil => simp [opn]
  | cons s ws ih =>
    have := opS_len (h s (List.mem_cons_self ..))
    have := ih fun y hy => h y (List.mem_cons_of_mem _ hy)
    unfold opn at *
    rw [List.flatMap_cons, List.length_append, List.length_cons]
    omega
theorem opn_sg {ws : List Stp} (h : ∀ s ∈ ws, FewS s) : Sgl (opn ws) := fun t ht => by
  obtain ⟨s, hs, hm⟩ := List.mem_flatMap.mp ht
  have hf := h s hs
  cases s with
  | put n => rw [List.mem_singleton.mp hm]; exact hf
  | take => rw [List.mem_singleton.mp hm]; exact hf
  | times c vs =>
    obtain ⟨l, h1, h2⟩ := List.mem_flatten.mp hm
    rw [(List.mem_replicate.mp h1).2] at h2
    exact hf.2.2.1 t h2
theorem few_ok {ws : List Stp} (h : ∀ s ∈ ws, FewS s) : okW U0 2 ws := by
  induction ws with
  | nil => simp [okW]
  | cons s ws ih =>
    have hs := h s (List.mem_cons_self ..)
    simp only [okW]
    refine ⟨?_, ih fun y hy => h y (List.mem_cons_of_mem _ hy)⟩
    cases s with
    | put n => simp only [okS]; exact (U0_mem n).mpr hs
    | take => simp [okS]
    | times c vs => simp only [okS]; exact ⟨hs.1, by have := hs.2.1; omega, hs.2.2.1.ok 1⟩
theorem few_sz {ws : List Stp} (h : ∀ s ∈ ws, FewS s) : szW ws ≤ 6 * ws.length := by
  induction ws with
  | nil => simp [szW]
  | cons s ws ih =>
    have hs := h s (List.mem_cons_self ..)
    have := ih fun y hy => h y (List.mem_cons_of_mem _ hy)
    simp only [szW, List.length_cons]
    cases s with
    | put n => simp only [szS]; omega
    | take => simp only [szS]; omega
    | times c vs =>
      have := hs.2.2.1.sz
      have := hs.2.2.2
      simp only [szS]
      omega
theorem bar_lin (x : Int) : ∀ (vs : List Stp) (f : Int × Int), 0 ≤ f.2 → barW x f vs = (f.1 + (barW x (0, 0) vs).1, max (f.2 + (barW x (0, 0) vs).1) (barW x (0, 0) vs).2) ∧ 0 ≤ (barW x (0, 0) vs).2
  | [], f, h => by simp only [barW]; exact ⟨Prod.ext (by dsimp only; omega) (by dsimp only; omega), Int.le_refl _⟩
  | s :: vs, f, h => by
    have hb : ∀ f : Int × Int, 0 ≤ f.2 → 0 ≤ max (f.2 + (barS x s).1) (barS x s).2 := fun f _ => by
      have : 0 ≤ (barS x s).2 := by
        cases s with
        | put n => simp only [barS]; split <;> simp
        | take => simp [barS]
        | times c ws =>
          simp only [barS]
          split
          · simp
          · have := (bar_lin x ws (0, 0) (Int.le_refl _)).2
            dsimp only
            omega
      omega
    simp only [barW]
    obtain ⟨i1, i2⟩ := bar_lin x vs (f.1 + (barS x s).1, max (f.2 + (barS x s).1) (barS x s).2) (hb f h)
    obtain ⟨j1, j2⟩ := bar_lin x vs (0 + (barS x s).1, max (0 + (barS x s).1) (barS x s).2) (hb (0, 0) (Int.le_refl _))
    rw [i1, j1]
    refine ⟨Prod.ext ?_ ?_, ?_⟩ <;> dsimp only <;> omega
theorem opS_bar (x : Int) {s : Stp} (h : FewS s) (f : Int × Int) (hf : 0 ≤ f.2) : barW x f (opS s) = barW x f [s] := by
  cases s with
  | put n => rfl
  | take => rfl
  | times c vs =>
    obtain ⟨h0, h1, h2, h3⟩ := h
    have lin := fun f hf => (bar_lin x vs f hf).1
    have nn := (bar_lin x vs (0, 0) (Int.le_refl _)).2
    have hc : c = 0 ∨ c = 1 ∨ c = 2 ∨ c = 3 ∨ c = 4 := by omega
    generalize hE : barW x (0, 0) vs = E at *
    obtain ⟨e, b⟩ := E
    dsimp only at lin nn
    rcases hc with rfl | rfl | rfl | rfl | rfl
    · simp [opS, barW, barS]; exact Prod.ext rfl (by dsimp only; omega)
    · have l1 := lin f hf
      simp [opS, barW, barS, hE, l1]
    · have l1 := lin f hf
      have l2 := lin (f.1 + e, max (f.2 + e) b) (by dsimp only; omega)
      simp [opS, List.replicate, barW_cat, barW, barS, hE, l1, l2]
      omega
    · have l1 := lin f hf
      have l2 := lin (f.1 + e, max (f.2 + e) b) (by dsimp only; omega)
      have l3 := lin (f.1 + e + e, max (max (f.2 + e) b + e) b) (by dsimp only; omega)
      simp [opS, List.replicate, barW_cat, barW, barS, hE, l1, l2, l3]
      omega
    · have l1 := lin f hf
      have l2 := lin (f.1 + e, max (f.2 + e) b) (by dsimp only; omega)
      have l3 := lin (f.1 + e + e, max (max (f.2 + e) b + e) b) (by dsimp only; omega)
      have l4 := lin (f.1 + e + e + e, max (max (max (f.2 + e) b + e) b + e) b) (by dsimp only; omega)
      simp [opS, List.replicate, barW_cat, barW, barS, hE, l1, l2, l3, l4]
      omega
theorem opn_bar (x : Int) : ∀ {ws : List Stp} (f : Int × Int), (∀ s ∈ ws, FewS s) → 0 ≤ f.2 → barW x f (opn ws) = barW x f ws
  | [], f, _, _ => rfl
  | s :: ws, f, h, hf => by
    have hs := h s (List.mem_cons_self ..)
    have e : opn (s :: ws) = opS s ++ opn ws := rfl
    have e2 : barW x f (s :: ws) = barW x (barW x f [s]) ws := by simp only [barW]
    have nn : 0 ≤ (barW x f [s]).2 := by
      have l := bar_lin x [s] f hf
      rw [l.1]
      have := l.2
      dsimp only
      omega
    rw [e, barW_cat, opS_bar x hs f hf, e2]
    exact opn_bar x _ (fun y hy => h y (List.mem_cons_of_mem _ hy)) nn
theorem opn_th {ws : List Stp} (h : ∀ s ∈ ws, FewS s) (f : Thr) (gf : GdT U0 f) : thrW f (opn ws) = thrW f ws := by
  obtain ⟨g1, b1⟩ := thrW_ok 2 (opn ws) f ((opn_sg h).ok 2) gf
  obtain ⟨g2, b2⟩ := thrW_ok 2 ws f (few_ok h) gf
  refine thr_uniq g1 g2 (fun n => ?_) fun n => ?_
  · rw [(b1 n).1, (b2 n).1, opn_bar n _ h (Bar_nonneg gf.l n)]
  · have k1 := b1 n
    have k2 := b2 n
    rw [opn_bar n _ h (Bar_nonneg gf.l n)] at k1
    simp only [bal] at k1 k2
    omega
theorem addTT (st : S) (A B : List D) (h : A.length + B.length ≤ 16777216) : gAdd st (.d (.tuple A)) (.d (.tuple B)) = some (.d (.tuple (A ++ B))) := by
  have e : gAddT st (.d (.tuple A)) (.d (.tuple B)) = some (.d (.tuple (A ++ B))) := by
    show (if A.length + B.length ≤ sizeLine then some (Rs.d (.tuple (A ++ B))) else none) = _
    rw [if_pos (by rw [sizeLine_eq]; exact h)]
  show gOr gAddI (gOr gAddT (gOr gAddL gAddS)) st _ _ = _
  rw [gOr_r8 (show gAddI st (.d (.tuple A)) (.d (.tuple B)) = none from rfl)]
  unfold gOr
  rw [e]
  rfl
theorem opn_single {ws : List Stp} (h : Sgl ws) : opn ws = ws := by
  induction ws with
  | nil => rfl
  | cons s ws ih =>
    have hs := h s (List.mem_cons_self ..)
    have e : opn (s :: ws) = opS s ++ opn ws := rfl
    rw [e, ih fun y hy => h y (List.mem_cons_of_mem _ hy)]
    cases s with
    | put n => rfl
    | take => rfl
    | times _ _ => exact hs.elim
/-! ### what a told store does -/
theorem foldl_minQ (x : Int) : ∀ (xs : List Int), (xs.foldl min x ∈ x :: xs) ∧ ∀ y ∈ x :: xs, xs.foldl min x ≤ y
  | [] => ⟨List.mem_cons_self .., fun y hy => by rw [List.mem_singleton.mp hy]; exact Int.le_refl _⟩
  | z :: xs => by
    have ih := foldl_minQ (min x z) xs
    rw [List.foldl_cons]
    refine ⟨?_, fun y hy => ?_⟩
    · rcases List.mem_cons.mp ih.1 with e | e
      · rw [e]
        by_cases h : x ≤ z
        · rw [show min x z = x by omega]; exact List.mem_cons_self ..
        · rw [show min x z = z by omega]; exact List.mem_cons_of_mem _ (List.mem_cons_self ..)
      · exact List.mem_cons_of_mem _ (List.mem_cons_of_mem _ e)
    · have h0 := ih.2 (min x z) (List.mem_cons_self ..)
      rcases List.mem_cons.mp hy with rfl | hy
      · omega
      · rcases List.mem_cons.mp hy with rfl | hy
        · omega
        · exact ih.2 y (List.mem_cons_of_mem _ hy)
theorem lmin_spec {ns : List Int} {k : Int} (e : lmin ns = some k) : k ∈ ns ∧ ∀ y ∈ ns, k ≤ y := by
  cases ns with
  | nil => cases e
  | cons x xs =>
    cases e
    exact foldl_minQ x xs
theorem vals_bar {s t : Thr} (gs : GdT U0 s) (gt : GdT U0 t) (x : Int) (h : lack s x ≠ lack t x) : min (lack s x) (lack t x) + 1 ∈ vals s t (sset (outKeys s t)) := by
  have mY := (sset_spec (outKeys s t)).2
  have m0 : -1000000 ∈ sset (outKeys s t) := (mY _).mpr (by simp [outKeys])
  rw [vals_mem]
  by_cases hx : -1000000 ≤ x
  · obtain ⟨y, y1, y2, y3⟩ := floor_in (x := x) (Y := sset (outKeys s t)) ⟨-1000000, m0, hx⟩
    have es : lack s x = lack s y := lack_same fun z hz => ⟨fun c => y3 _ ((mY _).mpr (by unfold outKeys; exact List.mem_cons_of_mem _ (List.mem_append_left _ (List.mem_map_of_mem hz)))) c, fun c => by omega⟩
    have et : lack t x = lack t y := lack_same fun z hz => ⟨fun c => y3 _ ((mY _).mpr (by unfold outKeys; exact List.mem_cons_of_mem _ (List.mem_append_right _ (List.mem_map_of_mem hz)))) c, fun c => by omega⟩
    exact ⟨y, y1, by rw [← es, ← et]; exact h, by rw [← es, ← et]⟩
  · have es : lack s x = lack s (-1000000) := lack_same fun z hz => by have := (U0_mem _).mp (gs.oU z hz); omega
    have et : lack t x = lack t (-1000000) := lack_same fun z hz => by have := (U0_mem _).mp (gt.oU z hz); omega
    exact ⟨-1000000, m0, by rw [← es, ← et]; exact h, by rw [← es, ← et]⟩
theorem hh_one (m : Int) : hh [(-1000000, m)] = .tuple [.tuple [.int (-1000000), .int m]] := rfl
theorem hh_nil : hh [] = .tuple [] := rfl
theorem prt_cases {s t : Thr} (gs : GdT U0 s) (gt : GdT U0 t) :
    (s.1 ≠ t.1 ∧ prt s t = hh []) ∨ (s = t ∧ prt s t = .none) ∨ (s.1 = t.1 ∧ ∃ m, prt s t = hh [(-1000000, m)] ∧ 1 ≤ m ∧ (∃ x, -1000000 ≤ x ∧ lack s x ≠ lack t x ∧ min (lack s x) (lack t x) + 1 = m) ∧ ∀ x, lack s x ≠ lack t x → m ≤ min (lack s x) (lack t x) + 1) := by
  unfold prt
  by_cases h1 : s.1 = t.1
  · rw [if_pos h1]
    right
    cases e : lmin (vals s t (sset (outKeys s t))) with
    | none =>
      left
      refine ⟨thr_uniq gs gt (fun n => by rw [h1]) fun n => ?_, rfl⟩
      by_cases hn : lack s n = lack t n
      · exact hn
      · have := vals_bar gs gt n hn
        cases hv : vals s t (sset (outKeys s t)) with
        | nil => rw [hv] at this; exact nomatch this
        | cons y ys => rw [hv] at e; exact nomatch e
    | some m =>
      right
      obtain ⟨m1, m2⟩ := lmin_spec e
      obtain ⟨x, hx, h2, h3⟩ := (vals_mem s t _ m).mp m1
      have l1 := lack_nonneg gs x
      have l2 := lack_nonneg gt x
      have hx' : -1000000 ≤ x := by
        have := ((sset_spec (outKeys s t)).2 x).mp hx
        unfold outKeys at this
        rcases List.mem_cons.mp this with e | e
        · omega
        · rcases List.mem_append.mp e with e | e
          · obtain ⟨z, hz, rfl⟩ := List.mem_map.mp e
            have := (U0_mem _).mp (gs.oU z hz); omega
          · obtain ⟨z, hz, rfl⟩ := List.mem_map.mp e
            have := (U0_mem _).mp (gt.oU z hz); omega
      exact ⟨h1, m, rfl, by omega, ⟨x, hx', h2, h3⟩, fun y hy => m2 _ (vals_bar gs gt y hy)⟩
  · rw [if_neg h1]
    exact .inl ⟨h1, rfl⟩
theorem prt_comm (s t : Thr) : prt t s = prt s t := by
  unfold prt
  by_cases h1 : s.1 = t.1
  · rw [if_pos h1, if_pos h1.symm]
    congr 1
    refine lmin_same fun m => ?_
    rw [vals_mem, vals_mem]
    have e : ∀ x, x ∈ sset (outKeys t s) ↔ x ∈ sset (outKeys s t) := fun x => by
      rw [(sset_spec (outKeys t s)).2, (sset_spec (outKeys s t)).2]
      unfold outKeys
      simp only [List.mem_cons, List.mem_append]
      constructor
      · rintro (h | h | h)
        · exact .inl h
        · exact .inr (.inr h)
        · exact .inr (.inl h)
      · rintro (h | h | h)
        · exact .inl h
        · exact .inr (.inr h)
        · exact .inr (.inl h)
    constructor
    · rintro ⟨x, hx, h2, h3⟩
      exact ⟨x, (e x).mp hx, fun h => h2 h.symm, by omega⟩
    · rintro ⟨x, hx, h2, h3⟩
      exact ⟨x, (e x).mpr hx, fun h => h2 h.symm, by omega⟩
  · rw [if_neg h1, if_neg fun h => h1 h.symm]
theorem prt_same (t : Thr) : prt t t = .none := by
  unfold prt
  rw [if_pos rfl]
  have : ∀ Y, vals t t Y = [] := fun Y => by simp [vals]
  rw [this]
  rfl
theorem dn_at {ws : List Stp} {h : Hea} (ho : okW U0 2 ws) (s : Sto h) (x : Int) : Bar (dn ws h).1 x = max (Bar h x - lack (th ws) x) 0 + Bar (th ws).1 x := by
  have k := dn_bar ho s x
  rw [eb_th ho] at k
  rw [k]
  simp only [bal]
  omega
theorem dn_th {a b : List Stp} (h : Hea) (e : th a = th b) : dn a h = dn b h := by unfold dn; rw [e]
theorem run_small {a b : List Stp} {h : Hea} (ha : okW U0 2 a) (hb : okW U0 2 b) (s : Sto h) (e : (th a).1 = (th b).1) {m : Int} (hm : ∀ x, lack (th a) x ≠ lack (th b) x → m ≤ min (lack (th a) x) (lack (th b) x) + 1) (hs : sumC h < m) : (dn a h).1 = (dn b h).1 := by
  refine (dn_gd ha s).l.uniq (dn_gd hb s).l fun x => ?_
  rw [dn_at ha s, dn_at hb s, e]
  have hx := Bar_le s.g x
  by_cases hl : lack (th a) x = lack (th b) x
  · rw [hl]
  · have := hm x hl
    omega
theorem one_sto {m : Int} (h1 : 1 ≤ m) (h2 : m ≤ 1000000000000000000) : Sto [(-1000000, m)] := ⟨one_gd h1, by simp, fun y hy => by rw [List.mem_singleton.mp hy]; omega, fun y hy => by rw [List.mem_singleton.mp hy]; exact h2⟩
theorem nil_sto : Sto [] := ⟨.nil, by simp, fun _ h => (nomatch h), fun _ h => (nomatch h)⟩
theorem run_parts {a b : List Stp} (ha : okW U0 2 a) (hb : okW U0 2 b) {m : Int} (h2 : m ≤ 1000000000000000000) (h1 : 1 ≤ m) (e : (th a).1 = (th b).1) (hx : ∃ x, -1000000 ≤ x ∧ lack (th a) x ≠ lack (th b) x ∧ min (lack (th a) x) (lack (th b) x) + 1 = m) : (dn a [(-1000000, m)]).1 ≠ (dn b [(-1000000, m)]).1 := fun k => by
  obtain ⟨x, h3, h4, h5⟩ := hx
  have s := one_sto h1 h2
  have k2 : Bar (dn a [(-1000000, m)]).1 x = Bar (dn b [(-1000000, m)]).1 x := by rw [k]
  rw [dn_at ha s, dn_at hb s, e] at k2
  have hB : Bar [(-1000000, m)] x = m := by rw [Bar_cons, Bar_nil, if_pos h3]; omega
  rw [hB] at k2
  omega
theorem run_nil {a : List Stp} (ha : okW U0 2 a) : (dn a []).1 = (th a).1 := by
  refine (dn_gd ha nil_sto).l.uniq (th_gd ha).l fun x => ?_
  rw [dn_at ha nil_sto, Bar_nil]
  have := lack_nonneg (th_gd ha) x
  omega
theorem sg_lack {ws : List Stp} (sg : Sgl ws) (x : Int) : lack (th ws) x ≤ ws.length := by
  have h1 := (sg_small sg).2.1
  have h2 := Bar_nonneg (th_gd (sg.ok 2)).o x
  rw [lack_hi]
  omega
/-! ### all orders -/
def sgB : Stp → Bool
  | .times _ _ => false
  | _ => true
theorem keyB_sg {s : Stp} (h : sg1 s) : keyB (sD s) = true := by
  cases s with
  | put n => simp [sD, keyB, nkAll, nkD, NestedKey.depth, NestedKey.depthAll]
  | take => simp [sD, keyB, nkAll, nkD, NestedKey.depth, NestedKey.depthAll]
  | times _ _ => exact h.elim
theorem alike_sg {s t : Stp} (h : sg1 s) (k : sg1 t) : PySem.W.alike (sD s) (sD t) = true := by
  cases s with
  | times _ _ => exact h.elim
  | put n =>
    cases t with
    | times _ _ => exact k.elim
    | put m => simp [sD, PySem.W.alike, PySem.W.alikeAll]
    | take => simp [sD, PySem.W.alike, PySem.W.alikeAll]
  | take =>
    cases t with
    | times _ _ => exact k.elim
    | put m => simp [sD, PySem.W.alike, PySem.W.alikeAll]
    | take => simp [sD, PySem.W.alike, PySem.W.alikeAll]
theorem dep_sg {s : Stp} (h : sg1 s) : (sD s).depth = 1 := by
  cases s with
  | put n => simp [sD, PyData.depth, PyData.depthAll]
  | take => simp [sD, PyData.depth, PyData.depthAll]
  | times _ _ => exact h.elim
theorem sortB_sg {E : List Stp} (h : Sgl E) (hl : E.length ≤ 1000) : sortB (E.map sD) = true := by
  unfold sortB
  simp only [Bool.and_eq_true, Bool.or_eq_true, decide_eq_true_eq, List.all_eq_true]
  refine ⟨⟨⟨fun d hd d' hd' => ?_, .inl fun d hd => ?_⟩, fun d hd => ?_⟩, by rw [List.length_map, sizeLine_eq]; omega⟩
  · obtain ⟨s, hs, rfl⟩ := List.mem_map.mp hd
    obtain ⟨t, ht, rfl⟩ := List.mem_map.mp hd'
    exact alike_sg (h s hs) (h t ht)
  · obtain ⟨s, hs, rfl⟩ := List.mem_map.mp hd
    have := h s hs
    cases s with
    | put n => simp [sD]
    | take => simp [sD]
    | times _ _ => exact this.elim
  · obtain ⟨s, hs, rfl⟩ := List.mem_map.mp hd
    rw [dep_sg (h s hs)]
    omega
theorem map_of {α β : Type} (f : α → β) (P : α → Prop) : ∀ (l : List β), (∀ d ∈ l, ∃ a, P a ∧ f a = d) → ∃ E : List α, l = E.map f ∧ ∀ a ∈ E, P a
  | [], _ => ⟨[], rfl, fun _ h => nomatch h⟩
  | d :: l, h => by
    obtain ⟨a, ha, e⟩ := h d (List.mem_cons_self ..)
    obtain ⟨E, e2, hE⟩ := map_of f P l fun y hy => h y (List.mem_cons_of_mem _ hy)
    refine ⟨a :: E, by rw [e2, ← e]; rfl, fun y hy => ?_⟩
    rcases List.mem_cons.mp hy with rfl | hy
    · exact ha
    · exact hE y hy
theorem ddN_go : ∀ (ds acc : List D), (∀ d ∈ ds.foldl (fun acc d => if nkD d ∈ acc.map nkD then acc else acc ++ [d]) acc, d ∈ acc ∨ d ∈ ds) ∧ (ds.foldl (fun acc d => if nkD d ∈ acc.map nkD then acc else acc ++ [d]) acc).length ≤ acc.length + ds.length ∧ acc.length ≤ (ds.foldl (fun acc d => if nkD d ∈ acc.map nkD then acc else acc ++ [d]) acc).length
  | [], acc => ⟨fun d h => .inl h, Nat.le_refl _, Nat.le_refl _⟩
  | d :: ds, acc => by
    rw [List.foldl_cons]
    by_cases h : nkD d ∈ acc.map nkD
    · rw [if_pos h]
      obtain ⟨h1, h2, h3⟩ := ddN_go ds acc
      refine ⟨fun y hy => ?_, by rw [List.length_cons]; omega, h3⟩
      rcases h1 y hy with k | k
      · exact .inl k
      · exact .inr (List.mem_cons_of_mem _ k)
    · rw [if_neg h]
      obtain ⟨h1, h2, h3⟩ := ddN_go ds (acc ++ [d])
      rw [List.length_append, List.length_cons, List.length_nil] at h2 h3
      refine ⟨fun y hy => ?_, by rw [List.length_cons]; omega, by omega⟩
      rcases h1 y hy with k | k
      · rcases List.mem_append.mp k with k | k
        · exact .inl k
        · rw [List.mem_singleton.mp k]; exact .inr (List.mem_cons_self ..)
      · exact .inr (List.mem_cons_of_mem _ k)
theorem ddN_ne {d : D} {ds : List D} : ddN (d :: ds) ≠ [] := fun e => by
  have := (ddN_go ds [d]).2.2
  have e2 : ddN (d :: ds) = ds.foldl (fun acc d => if nkD d ∈ acc.map nkD then acc else acc ++ [d]) [d] := by
    unfold ddN
    rw [List.foldl_cons]
    simp
  rw [← e2, e] at this
  simp at this
/-- the steps, each once, in order -/
theorem steps_sorted {ws : List Stp} (h : Sgl ws) : ∃ E : List Stp, dsort (ddN (ws.map sD)) = E.map sD ∧ (∀ s ∈ E, s ∈ ws) ∧ E.length ≤ ws.length ∧ (ws ≠ [] → E ≠ []) := by
  have hp : (dsort (ddN (ws.map sD))).Perm (ddN (ws.map sD)) := List.mergeSort_perm _ _
  obtain ⟨E, e, hE⟩ := map_of sD (fun s => s ∈ ws) (dsort (ddN (ws.map sD))) fun d hd => by
    rcases (ddN_go (ws.map sD) []).1 d (hp.mem_iff.mp hd) with k | k
    · exact nomatch k
    · exact let ⟨s, hs, e⟩ := List.mem_map.mp k; ⟨s, hs, e⟩
  have hl : (ddN (ws.map sD)).length ≤ ws.length := by
    have := (ddN_go (ws.map sD) []).2.1
    rw [List.length_nil, List.length_map, Nat.zero_add] at this
    exact this
  have hl2 := congrArg List.length e
  rw [hp.length_eq, List.length_map] at hl2
  refine ⟨E, e, hE, by omega, fun hne hE0 => ?_⟩
  subst hE0
  cases ws with
  | nil => exact hne rfl
  | cons s ws =>
    have := hp.length_eq
    rw [e] at this
    exact ddN_ne (List.length_eq_zero_iff.mp this.symm)
theorem dd_steps {ws : List Stp} : ∃ E : List Stp, ddN (ws.map sD) = E.map sD ∧ (∀ s ∈ E, s ∈ ws) ∧ E.length ≤ ws.length := by
  obtain ⟨E, e, hE⟩ := map_of sD (fun s => s ∈ ws) (ddN (ws.map sD)) fun d hd => by
    rcases (ddN_go (ws.map sD) []).1 d hd with k | k
    · exact nomatch k
    · exact let ⟨s, hs, e⟩ := List.mem_map.mp k; ⟨s, hs, e⟩
  have hl : (ddN (ws.map sD)).length ≤ ws.length := by
    have := (ddN_go (ws.map sD) []).2.1
    rw [List.length_nil, List.length_map, Nat.zero_add] at this
    exact this
  have hl2 := congrArg List.length e
  rw [List.length_map] at hl2
  exact ⟨E, e, hE, by omega⟩
theorem unpairs_of (x : D) : ∀ ds : List D, unpairs (ds.map fun d => .tuple [d, x]) = some (ds.map fun d => (d, x))
  | [] => rfl
  | d :: ds => by
    rw [List.map_cons, unpairs, unpairs_of x ds]
    rfl
theorem eqv_sD {s : Stp} (h : sg1 s) : PyData.eqv (sD s) (sD s) = true := by
  cases s with
  | put n => simp [sD, PyData.eqv, PyData.eqvAll, eqvI, eqvS]
  | take => simp [sD, PyData.eqv, PyData.eqvAll, eqvS]
  | times _ _ => exact h.elim
theorem depAll_sg : ∀ {ws : List Stp}, Sgl ws → PyData.depthAll (wsD ws) ≤ 1
  | [], _ => by simp [wsD, PyData.depthAll]
  | s :: ws, h => by
    have := depAll_sg (ws := ws) fun y hy => h y (List.mem_cons_of_mem _ hy)
    rw [wsD, PyData.depthAll, dep_sg (h s (List.mem_cons_self ..))]
    omega
theorem idx_sg {ws : List Stp} (h : Sgl ws) {s : Stp} (hs : s ∈ ws) : ∃ j, j < ws.length ∧ (wsD ws).findIdx? (fun z => PyData.eqv z (sD s)) = some j := by
  cases e : (wsD ws).findIdx? (fun z => PyData.eqv z (sD s)) with
  | some j =>
    rw [List.findIdx?_eq_some_iff_getElem] at e
    obtain ⟨hj, _⟩ := e
    exact ⟨j, by rw [wsD_len] at hj; exact hj, rfl⟩
  | none =>
    rw [List.findIdx?_eq_none_iff] at e
    have := e (sD s) (by rw [wsD_map]; exact List.mem_map_of_mem hs)
    rw [eqv_sD (h s hs)] at this
    cases this
def fac : Nat → Nat
  | 0 => 1
  | n + 1 => (n + 1) * fac n
def OrdsOk (n : Nat) (L : List (List Stp)) : Prop := ∀ l ∈ L, Sgl l ∧ l.length = n
theorem q_ord1 (F : List Arg → Out) (ws : List Stp) (v1 v3 : Option R) (hl : ws.length ≤ 1000) : q__law_orders_1 F ⟨[some (.d (ww ws)), v1, none, v3, none], [none]⟩ = .ok (.own (.lst ((ws.map sD).map fun d => .tuple [d, .bool true]))) ⟨[some (.d (ww ws)), v1, none, v3, none], [none]⟩ := by
  have hfi : fSeqI (fVar 0) ⟨[some (.d (ww ws)), v1, none, v3, none], [none]⟩ = .ok (ws.map sD) ⟨[some (.d (ww ws)), v1, none, v3, none], [none]⟩ := by
    rw [← wsD_map]; rfl
  have e := fLc_list (ks := [2]) (t := gN 2) (ft := fTrue) (fe := e__law_orders_0 F) (fi := fSeqI (fVar 0)) (st := ⟨[some (.d (ww ws)), v1, none, v3, none], [none]⟩) (st1 := ⟨[some (.d (ww ws)), v1, none, v3, none], [none]⟩) sD (fun s => some (.tuple [sD s, .bool true])) ws hfi rfl (by omega) (fun s hs => by
    refine ⟨_, rfl, ?_⟩
    generalize sD s = d
    simp [e__law_orders_0, gSl, gN, gT, gL, gsName, gsNil, gsCons, isVar, gOrC, gMin2, gMax2, gLen, gLenS, gLenD, gInt, gAbs, gTuple, gList, gDict, gOr, gI, gAddT, gAddL, gAddS, gRepL, gEqN, gInN, gIsN, nonB, S.toD, gIx, gIxS, S.seq, S.lst, S.der, S.mlst, S.get, S.put, S.res, S.tgt, mkArgs, mkArg, apartB, owEq, back, gAppend, gPop, gPopAt, tyM, gLst, gTup, allD, fExtend.isSelf, Option.or, sizeLine_eq, isiR, isiD, isL, start0, slots0, slot0, ioM, ioOk, finA, eqvI, eqvS, depI, depS, depB, depN, mGetK, mPutK, keyK, isDK, s_tp, s_tm, s_pt, s_pm, s_mp, s_mt, isT, gIdx, gCount, gRemove, gRepT, u_fAsg, u_fCall, u_fCons, u_fNil, u_fVar, u_fAug, u_fExpr, u_fExtend, u_fBin, u_fC, u_fRet, u_fRetN, u_fNext, u_fTest, u_fNot, u_fChain, u_fNeg, u_fPar, u_fParT, u_fMut, u_fSetIx, u_fDPut, u_fDGet, u_fDGet2, u_fDAug, u_fDNew, u_fSl, u_fPart, u_fNoPart, u_fOfT, u_fNotV, u_fIsi, u_fSortIt, u_fTrue, u_fBrk, u_fCnt, u_fEnum, u_fRev, u_fSortSet, u_fCount, u_fFrz, u_fSortTup, u_fIndex, u_fCallF, callB_some, callD_ret, callE_some, b_ok, b_no, W_ok, W_no, W_bind, W_ite, bind_ite, thenQ_nx, thenQ_rt, thenQ_bk, thenQ_ct, W_seq, fIfS_eq, fIf_eq, fAnd_eq, fOr_eq, fAndV_eq, fOrV_eq, andK_b, orK_b, ite_okT, ite_okF, ite_okTd, ite_okFd, turnQ_nx, turnQ_ct, turnQ_bk, turnQ_rt, cutQ_nx, cutQ_rt, cutQ_bk, cutQ_ct, endOut, wipeS, wipeD])
  rw [filterMap_some] at e
  rw [List.map_map]
  exact e
theorem q_ord3 (F : List Arg → Out) (ws : List Stp) (s : Stp) (j : Nat) (v1 : Option R) (L : List (List Stp)) (hj : j < ws.length) (hF : F [.d (ww (ws.take j ++ ws.drop (j + 1)))] = .ret (.own (.lst (L.map ww))) [.d (ww (ws.take j ++ ws.drop (j + 1)))]) (hL : L.length ≤ 1000) (hl : ws.length ≤ 1000) (hll : ∀ l ∈ L, l.length ≤ 1000) :
    q__law_orders_3 F ⟨[some (.d (ww ws)), v1, some (.d (sD s)), some (.d (.int (j : Nat))), none], [none]⟩ = .ok (.own (.lst ((L.map fun l => s :: l).map ww))) ⟨[some (.d (ww ws)), v1, some (.d (sD s)), some (.d (.int (j : Nat))), none], [none]⟩ := by
  have hfi : fSeqI (fCallF F [.r] (fCons (fBin gAdd (fSl gSl (fVar 0) fNoPart (fPart (fVar 3))) (fSl gSl (fVar 0) (fPart (fBin gAdd (fVar 3) (fC (.int 1)))) fNoPart)) fNil)) ⟨[some (.d (ww ws)), v1, some (.d (sD s)), some (.d (.int (j : Nat))), none], [none]⟩ = .ok (L.map ww) ⟨[some (.d (ww ws)), v1, some (.d (sD s)), some (.d (.int (j : Nat))), none], [none]⟩ := by
    have c1 : cutD (wsD ws) none (some (j : Int)) = wsD (ws.take j) := by rw [cut_to, wsD_take]
    have c2 : cutD (wsD ws) (some ((j : Int) + 1)) none = wsD (ws.drop (j + 1)) := by
      rw [show ((j : Int) + 1) = ((j + 1 : Nat) : Int) by omega, cut_from, wsD_map, wsD_map, List.map_drop]
    have l1 : (wsD (ws.take j)).length + (wsD (ws.drop (j + 1))).length ≤ 16777216 := by
      rw [wsD_len, wsD_len, List.length_take, List.length_drop]; omega
    rw [ww_tup, wsD_cat] at hF
    rw [ww_tup ws]
    generalize wsD ws = A at *
    generalize wsD (ws.take j) = B at *
    generalize wsD (ws.drop (j + 1)) = C at *
    generalize sD s = d at *
    simp [fSeqI, fSeq, fAsg, fCall, fCons, fNil, fVar, fAug, fExpr, fExtend, fBin, fC, fIf, fIfS, fRet, fRetN, fNext, fTest, fAnd, fOr, fNot, fAndV, fOrV, fNotV, fOfT, fChain, fNeg, fPar, fParT, fMut, fSetIx, fDPut, fDGet, fDGet2, fDAug, fDNew, fCallF, fSl, fPart, fNoPart, gSl, gN, gT, gL, gsName, gsNil, gsCons, isVar, Rz.bind, gOrC, gMin2, gMax2, gLen, gLenS, gLenD, gInt, gAbs, gTuple, gList, gDict, gOr, gI, gAddT, gAddL, gAddS, gRepL, gEqN, gInN, gIsN, nonB, S.toD, gIx, gIxS, S.seq, S.lst, S.der, S.mlst, S.get, S.put, S.res, S.tgt, mkArgs, mkArg, apartB, owEq, back, gAppend, gPop, gPopAt, tyM, gLst, gTup, allD, fExtend.isSelf, Option.or, sizeLine_eq, encP, isiR, isiD, isL, fIsi, fSortIt, noX, mkF, bodyF, start0, slots0, slot0, ioM, ioOk, finA, eqvI, eqvS, depI, depS, depB, depN, mGetK, mPutK, keyK, isDK, s_tp, s_tm, s_pt, s_pm, s_mp, s_mt, fRev, fSortSet, fCount, fFrz, fSortTup, fIndex, isT, gIdx, gCount, gRemove, gRepT, c1, c2, l1, hF]
  have e := fLc_list (ks := [4]) (t := gN 4) (ft := fTrue) (fe := e__law_orders_2 F) (fi := fSeqI (fCallF F [.r] (fCons (fBin gAdd (fSl gSl (fVar 0) fNoPart (fPart (fVar 3))) (fSl gSl (fVar 0) (fPart (fBin gAdd (fVar 3) (fC (.int 1)))) fNoPart)) fNil))) (st := ⟨[some (.d (ww ws)), v1, some (.d (sD s)), some (.d (.int (j : Nat))), none], [none]⟩) (st1 := ⟨[some (.d (ww ws)), v1, some (.d (sD s)), some (.d (.int (j : Nat))), none], [none]⟩) ww (fun l => some (ww (s :: l))) L hfi rfl (by omega) (fun l hl2 => by
    refine ⟨_, rfl, ?_⟩
    have h3 : 1 + (wsD l).length ≤ 16777216 := by rw [wsD_len]; have := hll l hl2; omega
    have h4 : ww (s :: l) = .tuple (sD s :: wsD l) := by rw [ww_tup, wsD]
    rw [h4, ww_tup l]
    generalize wsD l = A at *
    generalize sD s = d at *
    simp [e__law_orders_2, gSl, gN, gT, gL, gsName, gsNil, gsCons, isVar, gOrC, gMin2, gMax2, gLen, gLenS, gLenD, gInt, gAbs, gTuple, gList, gDict, gOr, gI, gAddT, gAddL, gAddS, gRepL, gEqN, gInN, gIsN, nonB, S.toD, gIx, gIxS, S.seq, S.lst, S.der, S.mlst, S.get, S.put, S.res, S.tgt, mkArgs, mkArg, apartB, owEq, back, gAppend, gPop, gPopAt, tyM, gLst, gTup, allD, fExtend.isSelf, Option.or, sizeLine_eq, isiR, isiD, isL, start0, slots0, slot0, ioM, ioOk, finA, eqvI, eqvS, depI, depS, depB, depN, mGetK, mPutK, keyK, isDK, s_tp, s_tm, s_pt, s_pm, s_mp, s_mt, isT, gIdx, gCount, gRemove, gRepT, u_fAsg, u_fCall, u_fCons, u_fNil, u_fVar, u_fAug, u_fExpr, u_fExtend, u_fBin, u_fC, u_fRet, u_fRetN, u_fNext, u_fTest, u_fNot, u_fChain, u_fNeg, u_fPar, u_fParT, u_fMut, u_fSetIx, u_fDPut, u_fDGet, u_fDGet2, u_fDAug, u_fDNew, u_fSl, u_fPart, u_fNoPart, u_fOfT, u_fNotV, u_fIsi, u_fSortIt, u_fTrue, u_fBrk, u_fCnt, u_fEnum, u_fRev, u_fSortSet, u_fCount, u_fFrz, u_fSortTup, u_fIndex, u_fCallF, callB_some, callD_ret, callE_some, b_ok, b_no, W_ok, W_no, W_bind, W_ite, bind_ite, thenQ_nx, thenQ_rt, thenQ_bk, thenQ_ct, W_seq, fIfS_eq, fIf_eq, fAnd_eq, fOr_eq, fAndV_eq, fOrV_eq, andK_b, orK_b, ite_okT, ite_okF, ite_okTd, ite_okFd, turnQ_nx, turnQ_ct, turnQ_bk, turnQ_rt, cutQ_nx, cutQ_rt, cutQ_bk, cutQ_ct, endOut, wipeS, wipeD, h3])
  rw [filterMap_some] at e
  rw [List.map_map]
  exact e
theorem fac_small : ∀ n, n ≤ 4 → fac n ≤ 24 := by decide
theorem orders_rw : ∀ (n m : Nat) (ws : List Stp), Sgl ws → ws.length = n → n ≤ m → n ≤ 5 → ∃ L : List (List Stp), OrdsOk n L ∧ L ≠ [] ∧ L.length ≤ fac n ∧ F__law_orders (m + 1) [.d (ww ws)] = .ret (.own (.lst (L.map ww))) [.d (ww ws)]
  | 0, m, ws, h, hn, _, _ => by
    have e0 := List.length_eq_zero_iff.mp hn
    subst e0
    refine ⟨[[]], fun l hl => by rw [List.mem_singleton.mp hl]; exact ⟨fun _ h => (nomatch h), rfl⟩, by simp, by decide, ?_⟩
    simp only [List.map_cons, List.map_nil, ww_nil]
    simp [F__law_orders, c__law_orders, fSeq, fAsg, fCall, fCons, fNil, fVar, fAug, fExpr, fExtend, fBin, fC, fIf, fIfS, fRet, fRetN, fNext, fTest, fAnd, fOr, fNot, fAndV, fOrV, fNotV, fOfT, fChain, fNeg, fPar, fParT, fMut, fSetIx, fDPut, fDGet, fDGet2, fDAug, fDNew, fCallF, fSl, fPart, fNoPart, gSl, gN, gT, gL, gsName, gsNil, gsCons, isVar, Rz.bind, gOrC, gMin2, gMax2, gLen, gLenS, gLenD, gInt, gAbs, gTuple, gList, gDict, gOr, gI, gAddT, gAddL, gAddS, gRepL, gEqN, gInN, gIsN, nonB, S.toD, gIx, gIxS, S.seq, S.lst, S.der, S.mlst, S.get, S.put, S.res, S.tgt, mkArgs, mkArg, apartB, owEq, back, gAppend, gPop, gPopAt, tyM, gLst, gTup, allD, fExtend.isSelf, Option.or, sizeLine_eq, encP, isiR, isiD, isL, fIsi, fSortIt, noX, mkF, bodyF, start0, slots0, slot0, ioM, ioOk, finA, eqvI, eqvS, depI, depS, depB, depN, mGetK, mPutK, keyK, isDK, s_tp, s_tm, s_pt, s_pm, s_mp, s_mt, fRev, fSortSet, fCount, fFrz, fSortTup, fIndex, isT, gIdx, gCount, gRemove, gRepT, eqv_t0, le_t0]
  | n + 1, m, ws, h, hn, hm, h5 => by
    obtain ⟨m', rfl⟩ : ∃ m', m = m' + 1 := ⟨m - 1, by omega⟩
    suffices hh : ∃ r fin, mkF 1 5 (c__law_orders (F__law_orders (m' + 1))) [.d (ww ws)] = .ret r fin ∧ ∃ L : List (List Stp), (OrdsOk (n + 1) L ∧ L ≠ [] ∧ L.length ≤ fac (n + 1)) ∧ r = .own (.lst (L.map ww)) ∧ fin = [.d (ww ws)] by
      obtain ⟨_, _, e, L, k, rfl, rfl⟩ := hh
      exact ⟨L, k.1, k.2.1, k.2.2, e⟩
    have ih := orders_rw n m'
    generalize F__law_orders (m' + 1) = F at *
    refine F_ex rfl fun Q hQ => ?_
    have hne : ws ≠ [] := fun e => by rw [e] at hn; cases hn
    obtain ⟨E, e1, e2, e3, e4⟩ := steps_sorted h
    obtain ⟨E0, d1, d2, d3⟩ := dd_steps (ws := ws)
    have f4 := fac_small n (by omega)
    have sb : sortB (ddN (ws.map sD)) = true := by rw [d1]; exact sortB_sg (fun s hs => h s (d2 s hs)) (by omega)
    have hfi : fSeqI (fSortTup (q__law_orders_1 F)) ⟨[some (.d (ww ws)), some (.own (.lst [])), none, none, none], [none]⟩ = .ok (E.map sD) ⟨[some (.d (ww ws)), some (.own (.lst [])), none, none, none], [none]⟩ := by
      have q1 := q_ord1 F ws (some (.own (.lst []))) none (by omega)
      have u := unpairs_of (.bool true) (ws.map sD)
      have kb : ((ws.map sD).map fun d => (d, PyData.bool true)).all (fun p => keyB p.1) = true := by
        rw [List.all_eq_true]
        intro p hp
        obtain ⟨d, hd, rfl⟩ := List.mem_map.mp hp
        obtain ⟨s, hs, rfl⟩ := List.mem_map.mp hd
        exact keyB_sg (h s hs)
      have mk : ((ws.map sD).map fun d => (d, PyData.bool true)).map (·.1) = ws.map sD := by rw [List.map_map]; simp
      have e5 : fSortTup (q__law_orders_1 F) ⟨[some (.d (ww ws)), some (.own (.lst [])), none, none, none], [none]⟩ = .ok (.own (.lst (E.map sD))) ⟨[some (.d (ww ws)), some (.own (.lst [])), none, none, none], [none]⟩ := by
        rw [u_fSortTup, q1, b_ok]
        simp only [S.lst, S.der, u]
        rw [if_pos ⟨kb, by rw [mk]; exact sb⟩, mk, e1]
      unfold fSeqI
      rw [e5]
      rfl
    have hq : PyData.eqv (ww ws) (.tuple []) = false := by
      cases ws with
      | nil => exact absurd rfl hne
      | cons s ws => rw [ww_tup, wsD]; exact eqv_t1 [] _ _
    have hmn : ∀ x, min x (PyData.tuple []).depth ≤ 60 := min_t0
    unfold c__law_orders
    rw [W_seq]
    refine W_of (a := .nx) (st := ⟨[some (.d (ww ws)), none, none, none, none], [none]⟩) (by simp [fSeq, fAsg, fCall, fCons, fNil, fVar, fAug, fExpr, fExtend, fBin, fC, fIf, fIfS, fRet, fRetN, fNext, fTest, fAnd, fOr, fNot, fAndV, fOrV, fNotV, fOfT, fChain, fNeg, fPar, fParT, fMut, fSetIx, fDPut, fDGet, fDGet2, fDAug, fDNew, fCallF, fSl, fPart, fNoPart, gSl, gN, gT, gL, gsName, gsNil, gsCons, isVar, Rz.bind, gOrC, gMin2, gMax2, gLen, gLenS, gLenD, gInt, gAbs, gTuple, gList, gDict, gOr, gI, gAddT, gAddL, gAddS, gRepL, gEqN, gInN, gIsN, nonB, S.toD, gIx, gIxS, S.seq, S.lst, S.der, S.mlst, S.get, S.put, S.res, S.tgt, mkArgs, mkArg, apartB, owEq, back, gAppend, gPop, gPopAt, tyM, gLst, gTup, allD, fExtend.isSelf, Option.or, sizeLine_eq, encP, isiR, isiD, isL, fIsi, fSortIt, noX, mkF, bodyF, start0, slots0, slot0, ioM, ioOk, finA, eqvI, eqvS, depI, depS, depB, depN, mGetK, mPutK, keyK, isDK, s_tp, s_tm, s_pt, s_pm, s_mp, s_mt, fRev, fSortSet, fCount, fFrz, fSortTup, fIndex, isT, gIdx, gCount, gRemove, gRepT, hq, hmn]) ?_
    rw [thenQ_nx, W_seq]
    refine W_of (a := .nx) (st := ⟨[some (.d (ww ws)), some (.own (.lst [])), none, none, none], [none]⟩) (by simp [fSeq, fAsg, fCall, fCons, fNil, fVar, fAug, fExpr, fExtend, fBin, fC, fIf, fIfS, fRet, fRetN, fNext, fTest, fAnd, fOr, fNot, fAndV, fOrV, fNotV, fOfT, fChain, fNeg, fPar, fParT, fMut, fSetIx, fDPut, fDGet, fDGet2, fDAug, fDNew, fCallF, fSl, fPart, fNoPart, gSl, gN, gT, gL, gsName, gsNil, gsCons, isVar, Rz.bind, gOrC, gMin2, gMax2, gLen, gLenS, gLenD, gInt, gAbs, gTuple, gList, gDict, gOr, gI, gAddT, gAddL, gAddS, gRepL, gEqN, gInN, gIsN, nonB, S.toD, gIx, gIxS, S.seq, S.lst, S.der, S.mlst, S.get, S.put, S.res, S.tgt, mkArgs, mkArg, apartB, owEq, back, gAppend, gPop, gPopAt, tyM, gLst, gTup, allD, fExtend.isSelf, Option.or, sizeLine_eq, encP, isiR, isiD, isL, fIsi, fSortIt, noX, mkF, bodyF, start0, slots0, slot0, ioM, ioOk, finA, eqvI, eqvS, depI, depS, depB, depN, mGetK, mPutK, keyK, isDK, s_tp, s_tm, s_pt, s_pm, s_mp, s_mt, fRev, fSortSet, fCount, fFrz, fSortTup, fIndex, isT, gIdx, gCount, gRemove, gRepT]) ?_
    rw [thenQ_nx]
    refine W_cut (fun st => ∃ (L : List (List Stp)) (v2 v3 : Option R), st = ⟨[some (.d (ww ws)), some (.own (.lst (L.map ww))), v2, v3, none], [none]⟩ ∧ OrdsOk (n + 1) L ∧ L.length ≤ fac (n + 1) ∧ L ≠ []) (fun N1 h1 => ?_) ?_
    · unfold s__law_orders_5
      refine W_for sD E (fun pre _ st => ∃ (L : List (List Stp)) (v2 v3 : Option R), st = ⟨[some (.d (ww ws)), some (.own (.lst (L.map ww))), v2, v3, none], [none]⟩ ∧ OrdsOk (n + 1) L ∧ L.length ≤ pre.length * fac n ∧ (pre ≠ [] → L ≠ [])) hfi ⟨[], none, none, rfl, fun _ h => (nomatch h), by simp, fun h => absurd rfl h⟩ ?_ ?_
      · rintro st ⟨L, v2, v3, rfl, k1, k2, k3⟩
        refine h1 _ ⟨L, v2, v3, rfl, k1, ?_, k3 (e4 hne)⟩
        have := Nat.mul_le_mul_right (fac n) (show E.length ≤ n + 1 by omega)
        show L.length ≤ (n + 1) * fac n
        omega
      · rintro pre s post st N e ⟨L, v2, v3, rfl, k1, k2, k3⟩ hN
        refine ⟨_, rfl, ?_⟩
        have hs : s ∈ ws := e2 s (by rw [e]; simp)
        have lp : pre.length < E.length := by rw [e]; simp
        obtain ⟨j, hj, hidx⟩ := idx_sg h hs
        have hda : min (PyData.depthAll (wsD ws)) (sD s).depth ≤ 60 := by rw [dep_sg (h s hs)]; omega
        have sub : ∀ t ∈ ws.take j ++ ws.drop (j + 1), t ∈ ws := fun t ht => by
          rcases List.mem_append.mp ht with ht | ht
          · exact List.mem_of_mem_take ht
          · exact List.mem_of_mem_drop ht
        obtain ⟨M, m1, m2, m3, m4⟩ := ih (ws.take j ++ ws.drop (j + 1)) (fun t ht => h t (sub t ht)) (by rw [List.length_append, List.length_take, List.length_drop]; omega) (by omega) (by omega)
        have q3 := q_ord3 F ws s j (some (.own (.lst (L.map ww)))) M hj m4 (by omega) (by omega) (fun l hl => by have := (m1 l hl).2; omega)
        have lk : L.length ≤ 120 := by
          have := Nat.mul_le_mul (show pre.length ≤ 5 by omega) f4
          omega
        have hN' := hN ⟨[some (.d (ww ws)), some (.own (.lst ((L ++ M.map fun l => s :: l).map ww))), some (.d (sD s)), some (.d (.int (j : Nat))), none], [none]⟩ ⟨L ++ M.map fun l => s :: l, _, _, rfl, fun l hl => by
          rcases List.mem_append.mp hl with hl | hl
          · exact k1 l hl
          · obtain ⟨l', hl', rfl⟩ := List.mem_map.mp hl
            obtain ⟨g1, g2⟩ := m1 l' hl'
            refine ⟨fun t ht => ?_, by rw [List.length_cons, g2]⟩
            rcases List.mem_cons.mp ht with rfl | ht
            · exact h _ hs
            · exact g1 t ht, by rw [List.length_append, List.length_map, List.length_append, List.length_cons, List.length_nil, Nat.add_mul]; omega, fun _ => by
          intro k
          have := congrArg List.length k
          rw [List.length_append, List.length_map, List.length_nil] at this
          exact m2 (List.length_eq_zero_iff.mp (by omega))⟩
        unfold l__law_orders_4
        rw [W_seq]
        refine W_of (a := .nx) (st := ⟨[some (.d (ww ws)), some (.own (.lst (L.map ww))), some (.d (sD s)), some (.d (.int (j : Nat))), none], [none]⟩) (by
          rw [ww_tup]
          generalize sD s = d at *
          generalize wsD ws = A at *
          simp [fSeq, fAsg, fCall, fCons, fNil, fVar, fAug, fExpr, fExtend, fBin, fC, fIf, fIfS, fRet, fRetN, fNext, fTest, fAnd, fOr, fNot, fAndV, fOrV, fNotV, fOfT, fChain, fNeg, fPar, fParT, fMut, fSetIx, fDPut, fDGet, fDGet2, fDAug, fDNew, fCallF, fSl, fPart, fNoPart, gSl, gN, gT, gL, gsName, gsNil, gsCons, isVar, Rz.bind, gOrC, gMin2, gMax2, gLen, gLenS, gLenD, gInt, gAbs, gTuple, gList, gDict, gOr, gI, gAddT, gAddL, gAddS, gRepL, gEqN, gInN, gIsN, nonB, S.toD, gIx, gIxS, S.seq, S.lst, S.der, S.mlst, S.get, S.put, S.res, S.tgt, mkArgs, mkArg, apartB, owEq, back, gAppend, gPop, gPopAt, tyM, gLst, gTup, allD, fExtend.isSelf, Option.or, sizeLine_eq, encP, isiR, isiD, isL, fIsi, fSortIt, noX, mkF, bodyF, start0, slots0, slot0, ioM, ioOk, finA, eqvI, eqvS, depI, depS, depB, depN, mGetK, mPutK, keyK, isDK, s_tp, s_tm, s_pt, s_pm, s_mp, s_mt, fRev, fSortSet, fCount, fFrz, fSortTup, fIndex, isT, gIdx, gCount, gRemove, gRepT, hidx, hda]) ?_
        rw [thenQ_nx]
        have ll : (L.map ww).length + ((M.map fun l => s :: l).map ww).length ≤ 16777216 := by rw [List.length_map, List.length_map, List.length_map]; omega
        rw [List.map_append] at hN'
        clear hN m4 hidx hda
        generalize L.map ww = A at *
        generalize (M.map fun l => s :: l).map ww = B at *
        generalize sD s = d at *
        refine W_of (a := .nx) (st := ⟨[some (.d (ww ws)), some (.own (.lst (A ++ B))), some (.d d), some (.d (.int (j : Nat))), none], [none]⟩) (by simp [fSeq, fAsg, fCall, fCons, fNil, fVar, fAug, fExpr, fExtend, fBin, fC, fIf, fIfS, fRet, fRetN, fNext, fTest, fAnd, fOr, fNot, fAndV, fOrV, fNotV, fOfT, fChain, fNeg, fPar, fParT, fMut, fSetIx, fDPut, fDGet, fDGet2, fDAug, fDNew, fCallF, fSl, fPart, fNoPart, gSl, gN, gT, gL, gsName, gsNil, gsCons, isVar, Rz.bind, gOrC, gMin2, gMax2, gLen, gLenS, gLenD, gInt, gAbs, gTuple, gList, gDict, gOr, gI, gAddT, gAddL, gAddS, gRepL, gEqN, gInN, gIsN, nonB, S.toD, gIx, gIxS, S.seq, S.lst, S.der, S.mlst, S.get, S.put, S.res, S.tgt, mkArgs, mkArg, apartB, owEq, back, gAppend, gPop, gPopAt, tyM, gLst, gTup, allD, fExtend.isSelf, Option.or, sizeLine_eq, encP, isiR, isiD, isL, fIsi, fSortIt, noX, mkF, bodyF, start0, slots0, slot0, ioM, ioOk, finA, eqvI, eqvS, depI, depS, depB, depN, mGetK, mPutK, keyK, isDK, s_tp, s_tm, s_pt, s_pm, s_mp, s_mt, fRev, fSortSet, fCount, fFrz, fSortTup, fIndex, isT, gIdx, gCount, gRemove, gRepT, q3, ll]) ?_
        rw [turnQ_nx]
        exact hN'
    · rintro st ⟨L, v2, v3, rfl, k1, k2, k3⟩
      simp [gSl, gN, gT, gL, gsName, gsNil, gsCons, isVar, gOrC, gMin2, gMax2, gLen, gLenS, gLenD, gInt, gAbs, gTuple, gList, gDict, gOr, gI, gAddT, gAddL, gAddS, gRepL, gEqN, gInN, gIsN, nonB, S.toD, gIx, gIxS, S.seq, S.lst, S.der, S.mlst, S.get, S.put, S.res, S.tgt, mkArgs, mkArg, apartB, owEq, back, gAppend, gPop, gPopAt, tyM, gLst, gTup, allD, fExtend.isSelf, Option.or, sizeLine_eq, isiR, isiD, isL, start0, slots0, slot0, ioM, ioOk, finA, eqvI, eqvS, depI, depS, depB, depN, mGetK, mPutK, keyK, isDK, s_tp, s_tm, s_pt, s_pm, s_mp, s_mt, isT, gIdx, gCount, gRemove, gRepT, u_fAsg, u_fCall, u_fCons, u_fNil, u_fVar, u_fAug, u_fExpr, u_fExtend, u_fBin, u_fC, u_fRet, u_fRetN, u_fNext, u_fTest, u_fNot, u_fChain, u_fNeg, u_fPar, u_fParT, u_fMut, u_fSetIx, u_fDPut, u_fDGet, u_fDGet2, u_fDAug, u_fDNew, u_fSl, u_fPart, u_fNoPart, u_fOfT, u_fNotV, u_fIsi, u_fSortIt, u_fTrue, u_fBrk, u_fCnt, u_fEnum, u_fRev, u_fSortSet, u_fCount, u_fFrz, u_fSortTup, u_fIndex, u_fCallF, callB_some, callD_ret, callE_some, b_ok, b_no, W_ok, W_no, W_bind, W_ite, bind_ite, thenQ_nx, thenQ_rt, thenQ_bk, thenQ_ct, W_seq, fIfS_eq, fIf_eq, fAnd_eq, fOr_eq, fAndV_eq, fOrV_eq, andK_b, orK_b, ite_okT, ite_okF, ite_okTd, ite_okFd, turnQ_nx, turnQ_ct, turnQ_bk, turnQ_rt, cutQ_nx, cutQ_rt, cutQ_bk, cutQ_ct, endOut]
      exact hQ _ _ _ _ rfl ⟨L, ⟨k1, k3, k2⟩, rfl, rfl⟩
theorem pick_die (d : Die) (L : List (List Stp)) (h0 : L ≠ []) (h1 : L.length ≤ 1000) : ∃ (l : List Stp) (d' : Die), l ∈ L ∧ F__law_pick [.io d.m, .ro (.lst (L.map ww))] = .ret (.d (ww l)) [.io d'.m, .ro (.lst (L.map ww))] := by
  have hp : 0 < L.length := List.length_pos_iff.mpr h0
  have r := next_rw d (L.length : Nat) (by omega) (by omega)
  have b := d.b (L.length : Nat) (by omega) (by omega)
  obtain ⟨v, hv⟩ : ∃ v : Nat, d.v (L.length : Nat) = v := ⟨(d.v (L.length : Nat)).toNat, by omega⟩
  rw [hv] at r b
  have hlt : v < L.length := by omega
  have lm : (L.map ww).length = L.length := List.length_map ..
  have gt : (L.map ww)[v]? = some (ww L[v]) := by rw [List.getElem?_map, List.getElem?_eq_getElem hlt]; rfl
  refine ⟨L[v], d.n (L.length : Nat), List.getElem_mem hlt, ?_⟩
  have hl2 : L.length ≤ 16777216 := by omega
  generalize L.map ww = A at *
  have ai : atI A (v : Int) = some (ww L[v]) := by rw [atI_nat]; exact gt
  simp [F__law_pick, c__law_pick, fSeq, fAsg, fCall, fCons, fNil, fVar, fAug, fExpr, fExtend, fBin, fC, fIf, fIfS, fRet, fRetN, fNext, fTest, fAnd, fOr, fNot, fAndV, fOrV, fNotV, fOfT, fChain, fNeg, fPar, fParT, fMut, fSetIx, fDPut, fDGet, fDGet2, fDAug, fDNew, fCallF, fSl, fPart, fNoPart, gSl, gN, gT, gL, gsName, gsNil, gsCons, isVar, Rz.bind, gOrC, gMin2, gMax2, gLen, gLenS, gLenD, gInt, gAbs, gTuple, gList, gDict, gOr, gI, gAddT, gAddL, gAddS, gRepL, gEqN, gInN, gIsN, nonB, S.toD, gIx, gIxS, S.seq, S.lst, S.der, S.mlst, S.get, S.put, S.res, S.tgt, mkArgs, mkArg, apartB, owEq, back, gAppend, gPop, gPopAt, tyM, gLst, gTup, allD, fExtend.isSelf, Option.or, sizeLine_eq, encP, isiR, isiD, isL, fIsi, fSortIt, noX, mkF, bodyF, start0, slots0, slot0, ioM, ioOk, finA, eqvI, eqvS, depI, depS, depB, depN, mGetK, mPutK, keyK, isDK, s_tp, s_tm, s_pt, s_pm, s_mp, s_mt, fRev, fSortSet, fCount, fFrz, fSortTup, fIndex, isT, gIdx, gCount, gRemove, gRepT, r, ai, lm]
end FL
end
section
set_option Elab.async false
set_option linter.all false
set_option maxRecDepth 100000
namespace FL
open PySem PySem.Spec PyProof.Rows L2
theorem law_true (ns : List Int) (hl : ns.length ≤ 63) : ∃ fin, F_law [.d (.list (ns.map .int))] = .ret (.d (.bool true)) fin := by
  obtain ⟨d0, e0⟩ := dice_die ns
  generalize PyData.list (ns.map .int) = a at *
  suffices h : ∃ r fin, mkF 1 8 c_law [.d a] = .ret r fin ∧ r = .d (.bool true) by obtain ⟨_, fin, e, rfl⟩ := h; exact ⟨fin, e⟩
  refine F_ex rfl fun Q hQ => ?_
  unfold c_law
  rw [W_seq]
  refine W_of (a := .nx) (st := ⟨[some (.d a), some (.own d0.m), none, none, none, none, none, none], [none]⟩) (by simp [fSeq, fAsg, fCall, fCons, fNil, fVar, fAug, fExpr, fExtend, fBin, fC, fIf, fIfS, fRet, fRetN, fNext, fTest, fAnd, fOr, fNot, fAndV, fOrV, fNotV, fOfT, fChain, fNeg, fPar, fParT, fMut, fSetIx, fDPut, fDGet, fDGet2, fDAug, fDNew, fCallF, fSl, fPart, fNoPart, gSl, gN, gT, gL, gsName, gsNil, gsCons, isVar, Rz.bind, gOrC, gMin2, gMax2, gLen, gLenS, gLenD, gInt, gAbs, gTuple, gList, gDict, gOr, gI, gAddT, gAddL, gAddS, gRepL, gEqN, gInN, gIsN, nonB, S.toD, gIx, gIxS, S.seq, S.lst, S.der, S.mlst, S.get, S.put, S.res, S.tgt, mkArgs, mkArg, apartB, owEq, back, gAppend, gPop, gPopAt, tyM, gLst, gTup, allD, fExtend.isSelf, Option.or, sizeLine_eq, encP, isiR, isiD, isL, fIsi, fSortIt, noX, mkF, bodyF, start0, slots0, slot0, ioM, ioOk, finA, eqvI, eqvS, depI, depS, depB, depN, mGetK, mPutK, keyK, isDK, s_tp, s_tm, s_pt, s_pm, s_mp, s_mt, fRev, fSortSet, fCount, fFrz, fSortTup, fIndex, isT, gIdx, gCount, gRemove, gRepT, e0]) ?_
  have r1 := sg_rw d0 8 (by omega) (by omega)
  have B1 := d0.sgB 8 (by omega) (by omega)
  generalize d0.sgV 8 = one at *
  generalize d0.sgN 8 = d1 at *
  have r2 := sg_rw d1 8 (by omega) (by omega)
  have B2 := d1.sgB 8 (by omega) (by omega)
  generalize d1.sgV 8 = oth at *
  generalize d1.sgN 8 = d2 at *
  rw [thenQ_nx, W_seq]
  refine W_of (a := .nx) (st := ⟨[some (.d a), some (.own d2.m), some (.d (ww one)), some (.d (ww oth)), none, none, none, none], [none]⟩) (by simp [fSeq, fAsg, fCall, fCons, fNil, fVar, fAug, fExpr, fExtend, fBin, fC, fIf, fIfS, fRet, fRetN, fNext, fTest, fAnd, fOr, fNot, fAndV, fOrV, fNotV, fOfT, fChain, fNeg, fPar, fParT, fMut, fSetIx, fDPut, fDGet, fDGet2, fDAug, fDNew, fCallF, fSl, fPart, fNoPart, gSl, gN, gT, gL, gsName, gsNil, gsCons, isVar, Rz.bind, gOrC, gMin2, gMax2, gLen, gLenS, gLenD, gInt, gAbs, gTuple, gList, gDict, gOr, gI, gAddT, gAddL, gAddS, gRepL, gEqN, gInN, gIsN, nonB, S.toD, gIx, gIxS, S.seq, S.lst, S.der, S.mlst, S.get, S.put, S.res, S.tgt, mkArgs, mkArg, apartB, owEq, back, gAppend, gPop, gPopAt, tyM, gLst, gTup, allD, fExtend.isSelf, Option.or, sizeLine_eq, encP, isiR, isiD, isL, fIsi, fSortIt, noX, mkF, bodyF, start0, slots0, slot0, ioM, ioOk, finA, eqvI, eqvS, depI, depS, depB, depN, mGetK, mPutK, keyK, isDK, s_tp, s_tm, s_pt, s_pm, s_mp, s_mt, fRev, fSortSet, fCount, fFrz, fSortTup, fIndex, isT, gIdx, gCount, gRemove, gRepT, r1, r2]) ?_
  rw [thenQ_nx]
  have s1 := B1.1
  have l1 : one.length ≤ 8 := by omega
  refine W_cut (fun st => ∃ (d : Die) (b : List Stp), Sgl b ∧ b.length ≤ 8 ∧ st = ⟨[some (.d a), some (.own d.m), some (.d (ww one)), some (.d (ww b)), none, none, none, none], [none]⟩) (fun N1 h1 => ?_) ?_
  · have r3 := next_rw d2 2 (by omega) (by omega)
    generalize d2.v 2 = v at *
    generalize d2.n 2 = d3 at *
    by_cases hv : v = 0
    · subst hv
      have st5 : Sgl (one.take 5) := fun s hs => s1 s (List.mem_of_mem_take hs)
      obtain ⟨L, k1, k2, k3, k4⟩ := orders_rw (one.take 5).length 5 (one.take 5) st5 rfl (by rw [List.length_take]; omega) (by rw [List.length_take]; omega)
      have lf : fac (one.take 5).length ≤ 120 := by
        have : ∀ n, n ≤ 5 → fac n ≤ 120 := by decide
        exact this _ (by rw [List.length_take]; omega)
      obtain ⟨l, d4, hl1, hl2⟩ := pick_die d3 L k2 (by omega)
      obtain ⟨g1, g2⟩ := k1 l hl1
      have c1 : cutD (wsD one) none (some 5) = wsD (one.take 5) := by rw [show (5 : Int) = ((5 : Nat) : Int) by rfl, cut_to, wsD_take]
      have c2 : cutD (wsD one) (some 5) none = wsD (one.drop 5) := by rw [show (5 : Int) = ((5 : Nat) : Int) by rfl, cut_from, wsD_map, wsD_map, List.map_drop]
      rw [List.length_take] at g2
      have ll : (wsD l).length + (wsD (one.drop 5)).length ≤ 16777216 := by rw [wsD_len, wsD_len, List.length_drop]; omega
      have hN := h1 ⟨[some (.d a), some (.own d4.m), some (.d (ww one)), some (.d (ww (l ++ one.drop 5))), none, none, none, none], [none]⟩ ⟨d4, l ++ one.drop 5, fun s hs => by
        rcases List.mem_append.mp hs with hs | hs
        · exact g1 s hs
        · exact s1 s (List.mem_of_mem_drop hs), by rw [List.length_append, List.length_drop]; omega, rfl⟩
      rw [ww_tup (l ++ one.drop 5), wsD_cat] at hN
      rw [ww_tup l] at hl2
      rw [ww_tup (one.take 5)] at k4
      have w1 : ww one = .tuple (wsD one) := rfl
      rw [w1] at hN ⊢
      clear h1 k1 k2 k3 g1 hl1
      generalize wsD one = A at *
      generalize wsD (one.take 5) = A5 at *
      generalize wsD (one.drop 5) = B5 at *
      generalize wsD l = C at *
      generalize L.map ww = LL at *
      simp [gSl, gN, gT, gL, gsName, gsNil, gsCons, isVar, gOrC, gMin2, gMax2, gLen, gLenS, gLenD, gInt, gAbs, gTuple, gList, gDict, gOr, gI, gAddT, gAddL, gAddS, gRepL, gEqN, gInN, gIsN, nonB, S.toD, gIx, gIxS, S.seq, S.lst, S.der, S.mlst, S.get, S.put, S.res, S.tgt, mkArgs, mkArg, apartB, owEq, back, gAppend, gPop, gPopAt, tyM, gLst, gTup, allD, fExtend.isSelf, Option.or, sizeLine_eq, isiR, isiD, isL, start0, slots0, slot0, ioM, ioOk, finA, eqvI, eqvS, depI, depS, depB, depN, mGetK, mPutK, keyK, isDK, s_tp, s_tm, s_pt, s_pm, s_mp, s_mt, isT, gIdx, gCount, gRemove, gRepT, u_fAsg, u_fCall, u_fCons, u_fNil, u_fVar, u_fAug, u_fExpr, u_fExtend, u_fBin, u_fC, u_fRet, u_fRetN, u_fNext, u_fTest, u_fNot, u_fChain, u_fNeg, u_fPar, u_fParT, u_fMut, u_fSetIx, u_fDPut, u_fDGet, u_fDGet2, u_fDAug, u_fDNew, u_fSl, u_fPart, u_fNoPart, u_fOfT, u_fNotV, u_fIsi, u_fSortIt, u_fTrue, u_fBrk, u_fCnt, u_fEnum, u_fRev, u_fSortSet, u_fCount, u_fFrz, u_fSortTup, u_fIndex, u_fCallF, callB_some, callD_ret, callE_some, b_ok, b_no, W_ok, W_no, W_bind, W_ite, bind_ite, thenQ_nx, thenQ_rt, thenQ_bk, thenQ_ct, W_seq, fIfS_eq, fIf_eq, fAnd_eq, fOr_eq, fAndV_eq, fOrV_eq, andK_b, orK_b, ite_okT, ite_okF, ite_okTd, ite_okFd, turnQ_nx, turnQ_ct, turnQ_bk, turnQ_rt, cutQ_nx, cutQ_rt, cutQ_bk, cutQ_ct, endOut, r3, c1, c2, k4, hl2, ll]
      exact hN
    · have hN := h1 ⟨[some (.d a), some (.own d3.m), some (.d (ww one)), some (.d (ww oth)), none, none, none, none], [none]⟩ ⟨d3, oth, B2.1, by omega, rfl⟩
      simp [gSl, gN, gT, gL, gsName, gsNil, gsCons, isVar, gOrC, gMin2, gMax2, gLen, gLenS, gLenD, gInt, gAbs, gTuple, gList, gDict, gOr, gI, gAddT, gAddL, gAddS, gRepL, gEqN, gInN, gIsN, nonB, S.toD, gIx, gIxS, S.seq, S.lst, S.der, S.mlst, S.get, S.put, S.res, S.tgt, mkArgs, mkArg, apartB, owEq, back, gAppend, gPop, gPopAt, tyM, gLst, gTup, allD, fExtend.isSelf, Option.or, sizeLine_eq, isiR, isiD, isL, start0, slots0, slot0, ioM, ioOk, finA, eqvI, eqvS, depI, depS, depB, depN, mGetK, mPutK, keyK, isDK, s_tp, s_tm, s_pt, s_pm, s_mp, s_mt, isT, gIdx, gCount, gRemove, gRepT, u_fAsg, u_fCall, u_fCons, u_fNil, u_fVar, u_fAug, u_fExpr, u_fExtend, u_fBin, u_fC, u_fRet, u_fRetN, u_fNext, u_fTest, u_fNot, u_fChain, u_fNeg, u_fPar, u_fParT, u_fMut, u_fSetIx, u_fDPut, u_fDGet, u_fDGet2, u_fDAug, u_fDNew, u_fSl, u_fPart, u_fNoPart, u_fOfT, u_fNotV, u_fIsi, u_fSortIt, u_fTrue, u_fBrk, u_fCnt, u_fEnum, u_fRev, u_fSortSet, u_fCount, u_fFrz, u_fSortTup, u_fIndex, u_fCallF, callB_some, callD_ret, callE_some, b_ok, b_no, W_ok, W_no, W_bind, W_ite, bind_ite, thenQ_nx, thenQ_rt, thenQ_bk, thenQ_ct, W_seq, fIfS_eq, fIf_eq, fAnd_eq, fOr_eq, fAndV_eq, fOrV_eq, andK_b, orK_b, ite_okT, ite_okF, ite_okTd, ite_okFd, turnQ_nx, turnQ_ct, turnQ_bk, turnQ_rt, cutQ_nx, cutQ_rt, cutQ_bk, cutQ_ct, endOut, r3, hv]
      exact hN
  rintro st ⟨d3, b, s2, l2, rfl⟩
  clear r1 r2 B2
  have o1 := s1.ok 2
  have o2 := s2.ok 2
  have z1 := s1.sz
  have z2 := s2.sz
  have a1 := alike_rw o1 o2 (by omega) (by omega)
  have a2 := alike_rw o2 o1 (by omega) (by omega)
  have a3 := alike_rw o1 o1 (by omega) (by omega)
  rw [prt_same] at a3
  rw [prt_comm] at a2
  have h1 := heaps_rw one o1 (by omega)
  have h2 := heaps_rw b o2 (by omega)
  have pc := prt_cases (th_gd o1) (th_gd o2)
  have lk := sg_lack s1
  rw [W_seq]
  refine W_of (a := .nx) (st := ⟨[some (.d a), some (.own d3.m), some (.d (ww one)), some (.d (ww b)), some (.d (prt (th one) (th b))), none, none, none], [none]⟩) (by simp [fSeq, fAsg, fCall, fCons, fNil, fVar, fAug, fExpr, fExtend, fBin, fC, fIf, fIfS, fRet, fRetN, fNext, fTest, fAnd, fOr, fNot, fAndV, fOrV, fNotV, fOfT, fChain, fNeg, fPar, fParT, fMut, fSetIx, fDPut, fDGet, fDGet2, fDAug, fDNew, fCallF, fSl, fPart, fNoPart, gSl, gN, gT, gL, gsName, gsNil, gsCons, isVar, Rz.bind, gOrC, gMin2, gMax2, gLen, gLenS, gLenD, gInt, gAbs, gTuple, gList, gDict, gOr, gI, gAddT, gAddL, gAddS, gRepL, gEqN, gInN, gIsN, nonB, S.toD, gIx, gIxS, S.seq, S.lst, S.der, S.mlst, S.get, S.put, S.res, S.tgt, mkArgs, mkArg, apartB, owEq, back, gAppend, gPop, gPopAt, tyM, gLst, gTup, allD, fExtend.isSelf, Option.or, sizeLine_eq, encP, isiR, isiD, isL, fIsi, fSortIt, noX, mkF, bodyF, start0, slots0, slot0, ioM, ioOk, finA, eqvI, eqvS, depI, depS, depB, depN, mGetK, mPutK, keyK, isDK, s_tp, s_tm, s_pt, s_pm, s_mp, s_mt, fRev, fSortSet, fCount, fFrz, fSortTup, fIndex, isT, gIdx, gCount, gRemove, gRepT, a1]) ?_
  rw [thenQ_nx, W_seq]
  have key : (∃ T : Hea, Sto T ∧ prt (th one) (th b) = hh T ∧ th one ≠ th b ∧ (dn one T).1 ≠ (dn b T).1 ∧ ∀ h, Sto h → (dn one h).1 ≠ (dn b h).1 → sumC T ≤ sumC h) ∨ (prt (th one) (th b) = .none ∧ th one = th b) := by
    rcases pc with ⟨k1, k2⟩ | ⟨k1, k2⟩ | ⟨k1, m, k2, k3, k4, k5⟩
    · exact .inl ⟨[], nil_sto, k2, fun e => k1 (by rw [e]), fun e => by rw [run_nil o1, run_nil o2] at e; exact k1 e, fun h sh _ => sumC_nonneg sh.g⟩
    · exact .inr ⟨k2, k1⟩
    · have hm : m ≤ 1000000000000000000 := by
        obtain ⟨x, _, _, e⟩ := k4
        have := lk x
        omega
      refine .inl ⟨[(-1000000, m)], one_sto k3 hm, k2, fun e => ?_, run_parts o1 o2 hm k3 k1 k4, fun h sh hne => ?_⟩
      · obtain ⟨x, _, h4, _⟩ := k4
        exact h4 (by rw [e])
      · have hs : sumC [(-1000000, m)] = m := by simp [sumC]
        rw [hs]
        exact Classical.byContradiction fun hc => hne (run_small o1 o2 sh k1 k5 (by omega))
  rcases key with ⟨T, sT, eT, hne, hp, hmin⟩ | ⟨eT, heq⟩
  · rw [eT] at a1 a2 ⊢
    have tn : ∀ T : Hea, ∃ X, hh T = .tuple X := fun T => ⟨_, hh_tup T⟩
    refine W_of (a := .nx) (st := ⟨[some (.d a), some (.own d3.m), some (.d (ww one)), some (.d (ww b)), some (.d (hh T)), none, none, none], [none]⟩) (by simp [fSeq, fAsg, fCall, fCons, fNil, fVar, fAug, fExpr, fExtend, fBin, fC, fIf, fIfS, fRet, fRetN, fNext, fTest, fAnd, fOr, fNot, fAndV, fOrV, fNotV, fOfT, fChain, fNeg, fPar, fParT, fMut, fSetIx, fDPut, fDGet, fDGet2, fDAug, fDNew, fCallF, fSl, fPart, fNoPart, gSl, gN, gT, gL, gsName, gsNil, gsCons, isVar, Rz.bind, gOrC, gMin2, gMax2, gLen, gLenS, gLenD, gInt, gAbs, gTuple, gList, gDict, gOr, gI, gAddT, gAddL, gAddS, gRepL, gEqN, gInN, gIsN, nonB, S.toD, gIx, gIxS, S.seq, S.lst, S.der, S.mlst, S.get, S.put, S.res, S.tgt, mkArgs, mkArg, apartB, owEq, back, gAppend, gPop, gPopAt, tyM, gLst, gTup, allD, fExtend.isSelf, Option.or, sizeLine_eq, encP, isiR, isiD, isL, fIsi, fSortIt, noX, mkF, bodyF, start0, slots0, slot0, ioM, ioOk, finA, eqvI, eqvS, depI, depS, depB, depN, mGetK, mPutK, keyK, isDK, s_tp, s_tm, s_pt, s_pm, s_mp, s_mt, fRev, fSortSet, fCount, fFrz, fSortTup, fIndex, isT, gIdx, gCount, gRemove, gRepT, a2, a3, eqv_hh, min_hh, le_hh]) ?_
    rw [thenQ_nx]
    refine W_cut (fun st => ∃ (d : Die) (v5 v6 v7 : Option R), st = ⟨[some (.d a), some (.own d.m), some (.d (ww one)), some (.d (ww b)), some (.d (hh T)), v5, v6, v7], [none]⟩) (fun N1 hN1 => ?_) ?_
    · unfold s_law_1
      refine W_forI ((List.range 5).map fun i => (.int (i : Nat) : D)) (fun st => ∃ (d : Die) (v5 v6 v7 : Option R), st = ⟨[some (.d a), some (.own d.m), some (.d (ww one)), some (.d (ww b)), some (.d (hh T)), v5, v6, v7], [none]⟩) (range1_ok (n := 5) rfl (by omega)) ⟨d3, none, none, none, rfl⟩ ?_ ?_
      · rintro st ⟨d, v5, v6, v7, rfl⟩
        exact hN1 _ ⟨d, v5, v6, v7, rfl⟩
      rintro x st N hx ⟨d, v5, v6, v7, rfl⟩ hN
      refine ⟨_, rfl, ?_⟩
      unfold l_law_0
      have r := st_rw d 4 (by omega) (by omega)
      have B := d.stB 4 (by omega) (by omega)
      generalize d.stV 4 = h at *
      generalize d.stN 4 = d4 at *
      have sh := B.sto (by omega)
      have q1 := run_rw o1 (by omega) sh
      have q2 := run_rw o2 (by omega) sh
      have q3 := lsize_rw h (by have := sh.l; omega)
      have q4 := lsize_rw T (by have := sT.l; omega)
      have mn := hmin h sh
      rw [W_seq]
      refine W_of (a := .nx) (st := ⟨[some (.d a), some (.own d4.m), some (.d (ww one)), some (.d (ww b)), some (.d (hh T)), some (.d x), some (.d (hh h)), v7], [none]⟩) (by simp [fSeq, fAsg, fCall, fCons, fNil, fVar, fAug, fExpr, fExtend, fBin, fC, fIf, fIfS, fRet, fRetN, fNext, fTest, fAnd, fOr, fNot, fAndV, fOrV, fNotV, fOfT, fChain, fNeg, fPar, fParT, fMut, fSetIx, fDPut, fDGet, fDGet2, fDAug, fDNew, fCallF, fSl, fPart, fNoPart, gSl, gN, gT, gL, gsName, gsNil, gsCons, isVar, Rz.bind, gOrC, gMin2, gMax2, gLen, gLenS, gLenD, gInt, gAbs, gTuple, gList, gDict, gOr, gI, gAddT, gAddL, gAddS, gRepL, gEqN, gInN, gIsN, nonB, S.toD, gIx, gIxS, S.seq, S.lst, S.der, S.mlst, S.get, S.put, S.res, S.tgt, mkArgs, mkArg, apartB, owEq, back, gAppend, gPop, gPopAt, tyM, gLst, gTup, allD, fExtend.isSelf, Option.or, sizeLine_eq, encP, isiR, isiD, isL, fIsi, fSortIt, noX, mkF, bodyF, start0, slots0, slot0, ioM, ioOk, finA, eqvI, eqvS, depI, depS, depB, depN, mGetK, mPutK, keyK, isDK, s_tp, s_tm, s_pt, s_pm, s_mp, s_mt, fRev, fSortSet, fCount, fFrz, fSortTup, fIndex, isT, gIdx, gCount, gRemove, gRepT, r]) ?_
      rw [thenQ_nx, W_seq]
      refine W_of (a := .nx) (st := ⟨[some (.d a), some (.own d4.m), some (.d (ww one)), some (.d (ww b)), some (.d (hh T)), some (.d x), some (.d (hh h)), some (.d (.bool (decide ((dn one h).1 = (dn b h).1))))], [none]⟩) (by simp [fSeq, fAsg, fCall, fCons, fNil, fVar, fAug, fExpr, fExtend, fBin, fC, fIf, fIfS, fRet, fRetN, fNext, fTest, fAnd, fOr, fNot, fAndV, fOrV, fNotV, fOfT, fChain, fNeg, fPar, fParT, fMut, fSetIx, fDPut, fDGet, fDGet2, fDAug, fDNew, fCallF, fSl, fPart, fNoPart, gSl, gN, gT, gL, gsName, gsNil, gsCons, isVar, Rz.bind, gOrC, gMin2, gMax2, gLen, gLenS, gLenD, gInt, gAbs, gTuple, gList, gDict, gOr, gI, gAddT, gAddL, gAddS, gRepL, gEqN, gInN, gIsN, nonB, S.toD, gIx, gIxS, S.seq, S.lst, S.der, S.mlst, S.get, S.put, S.res, S.tgt, mkArgs, mkArg, apartB, owEq, back, gAppend, gPop, gPopAt, tyM, gLst, gTup, allD, fExtend.isSelf, Option.or, sizeLine_eq, encP, isiR, isiD, isL, fIsi, fSortIt, noX, mkF, bodyF, start0, slots0, slot0, ioM, ioOk, finA, eqvI, eqvS, depI, depS, depB, depN, mGetK, mPutK, keyK, isDK, s_tp, s_tm, s_pt, s_pm, s_mp, s_mt, fRev, fSortSet, fCount, fFrz, fSortTup, fIndex, isT, gIdx, gCount, gRemove, gRepT, q1, q2, eqv_hh, min_hh, le_hh]) ?_
      rw [thenQ_nx]
      have hN' := fun v7 => hN _ ⟨d4, some (.d x), some (.d (hh h)), v7, rfl⟩
      by_cases hc : (dn one h).1 = (dn b h).1
      · simp [gSl, gN, gT, gL, gsName, gsNil, gsCons, isVar, gOrC, gMin2, gMax2, gLen, gLenS, gLenD, gInt, gAbs, gTuple, gList, gDict, gOr, gI, gAddT, gAddL, gAddS, gRepL, gEqN, gInN, gIsN, nonB, S.toD, gIx, gIxS, S.seq, S.lst, S.der, S.mlst, S.get, S.put, S.res, S.tgt, mkArgs, mkArg, apartB, owEq, back, gAppend, gPop, gPopAt, tyM, gLst, gTup, allD, fExtend.isSelf, Option.or, sizeLine_eq, isiR, isiD, isL, start0, slots0, slot0, ioM, ioOk, finA, eqvI, eqvS, depI, depS, depB, depN, mGetK, mPutK, keyK, isDK, s_tp, s_tm, s_pt, s_pm, s_mp, s_mt, isT, gIdx, gCount, gRemove, gRepT, u_fAsg, u_fCall, u_fCons, u_fNil, u_fVar, u_fAug, u_fExpr, u_fExtend, u_fBin, u_fC, u_fRet, u_fRetN, u_fNext, u_fTest, u_fNot, u_fChain, u_fNeg, u_fPar, u_fParT, u_fMut, u_fSetIx, u_fDPut, u_fDGet, u_fDGet2, u_fDAug, u_fDNew, u_fSl, u_fPart, u_fNoPart, u_fOfT, u_fNotV, u_fIsi, u_fSortIt, u_fTrue, u_fBrk, u_fCnt, u_fEnum, u_fRev, u_fSortSet, u_fCount, u_fFrz, u_fSortTup, u_fIndex, u_fCallF, callB_some, callD_ret, callE_some, b_ok, b_no, W_ok, W_no, W_bind, W_ite, bind_ite, thenQ_nx, thenQ_rt, thenQ_bk, thenQ_ct, W_seq, fIfS_eq, fIf_eq, fAnd_eq, fOr_eq, fAndV_eq, fOrV_eq, andK_b, orK_b, ite_okT, ite_okF, ite_okTd, ite_okFd, turnQ_nx, turnQ_ct, turnQ_bk, turnQ_rt, cutQ_nx, cutQ_rt, cutQ_bk, cutQ_ct, endOut, hc]
        exact hN' _
      · have hlt : ¬ (sumC h < sumC T) := by have := mn hc; omega
        obtain ⟨X, hX⟩ := tn T
        rw [hX] at q4 hN' ⊢
        clear hX
        simp [gSl, gN, gT, gL, gsName, gsNil, gsCons, isVar, gOrC, gMin2, gMax2, gLen, gLenS, gLenD, gInt, gAbs, gTuple, gList, gDict, gOr, gI, gAddT, gAddL, gAddS, gRepL, gEqN, gInN, gIsN, nonB, S.toD, gIx, gIxS, S.seq, S.lst, S.der, S.mlst, S.get, S.put, S.res, S.tgt, mkArgs, mkArg, apartB, owEq, back, gAppend, gPop, gPopAt, tyM, gLst, gTup, allD, fExtend.isSelf, Option.or, sizeLine_eq, isiR, isiD, isL, start0, slots0, slot0, ioM, ioOk, finA, eqvI, eqvS, depI, depS, depB, depN, mGetK, mPutK, keyK, isDK, s_tp, s_tm, s_pt, s_pm, s_mp, s_mt, isT, gIdx, gCount, gRemove, gRepT, u_fAsg, u_fCall, u_fCons, u_fNil, u_fVar, u_fAug, u_fExpr, u_fExtend, u_fBin, u_fC, u_fRet, u_fRetN, u_fNext, u_fTest, u_fNot, u_fChain, u_fNeg, u_fPar, u_fParT, u_fMut, u_fSetIx, u_fDPut, u_fDGet, u_fDGet2, u_fDAug, u_fDNew, u_fSl, u_fPart, u_fNoPart, u_fOfT, u_fNotV, u_fIsi, u_fSortIt, u_fTrue, u_fBrk, u_fCnt, u_fEnum, u_fRev, u_fSortSet, u_fCount, u_fFrz, u_fSortTup, u_fIndex, u_fCallF, callB_some, callD_ret, callE_some, b_ok, b_no, W_ok, W_no, W_bind, W_ite, bind_ite, thenQ_nx, thenQ_rt, thenQ_bk, thenQ_ct, W_seq, fIfS_eq, fIf_eq, fAnd_eq, fOr_eq, fAndV_eq, fOrV_eq, andK_b, orK_b, ite_okT, ite_okF, ite_okTd, ite_okFd, turnQ_nx, turnQ_ct, turnQ_bk, turnQ_rt, cutQ_nx, cutQ_rt, cutQ_bk, cutQ_ct, endOut, hc, q3, q4, hlt]
        exact hN' _
    · rintro st ⟨d, v5, v6, v7, rfl⟩
      have q1 := run_rw o1 (by omega) sT
      have q2 := run_rw o2 (by omega) sT
      have hne' : tt (th one) ≠ tt (th b) → True := fun _ => trivial
      have k1 := eqv_tt (th one) (th b)
      have k2 := fun x => min_tt (th one) x
      have k3 := le_tt (th one)
      have k4 := fun x => min_tt (th b) x
      have k5 := le_tt (th b)
      rw [show decide (th one = th b) = false by simp [hne]] at k1
      obtain ⟨X, hX⟩ := tn T
      rw [hX] at q1 q2 ⊢
      clear hX
      change F_heaps [.d (ww one)] = .ret (.d (tt (th one))) [.d (ww one)] at h1
      change F_heaps [.d (ww b)] = .ret (.d (tt (th b))) [.d (ww b)] at h2
      generalize tt (th one) = T1 at *
      generalize tt (th b) = T2 at *
      simp [gSl, gN, gT, gL, gsName, gsNil, gsCons, isVar, gOrC, gMin2, gMax2, gLen, gLenS, gLenD, gInt, gAbs, gTuple, gList, gDict, gOr, gI, gAddT, gAddL, gAddS, gRepL, gEqN, gInN, gIsN, nonB, S.toD, gIx, gIxS, S.seq, S.lst, S.der, S.mlst, S.get, S.put, S.res, S.tgt, mkArgs, mkArg, apartB, owEq, back, gAppend, gPop, gPopAt, tyM, gLst, gTup, allD, fExtend.isSelf, Option.or, sizeLine_eq, isiR, isiD, isL, start0, slots0, slot0, ioM, ioOk, finA, eqvI, eqvS, depI, depS, depB, depN, mGetK, mPutK, keyK, isDK, s_tp, s_tm, s_pt, s_pm, s_mp, s_mt, isT, gIdx, gCount, gRemove, gRepT, u_fAsg, u_fCall, u_fCons, u_fNil, u_fVar, u_fAug, u_fExpr, u_fExtend, u_fBin, u_fC, u_fRet, u_fRetN, u_fNext, u_fTest, u_fNot, u_fChain, u_fNeg, u_fPar, u_fParT, u_fMut, u_fSetIx, u_fDPut, u_fDGet, u_fDGet2, u_fDAug, u_fDNew, u_fSl, u_fPart, u_fNoPart, u_fOfT, u_fNotV, u_fIsi, u_fSortIt, u_fTrue, u_fBrk, u_fCnt, u_fEnum, u_fRev, u_fSortSet, u_fCount, u_fFrz, u_fSortTup, u_fIndex, u_fCallF, callB_some, callD_ret, callE_some, b_ok, b_no, W_ok, W_no, W_bind, W_ite, bind_ite, thenQ_nx, thenQ_rt, thenQ_bk, thenQ_ct, W_seq, fIfS_eq, fIf_eq, fAnd_eq, fOr_eq, fAndV_eq, fOrV_eq, andK_b, orK_b, ite_okT, ite_okF, ite_okTd, ite_okFd, turnQ_nx, turnQ_ct, turnQ_bk, turnQ_rt, cutQ_nx, cutQ_rt, cutQ_bk, cutQ_ct, endOut, q1, q2, eqv_hh, min_hh, le_hh, hp, h1, h2, k1, k2, k3, k4, k5]
      exact hQ _ _ _ _ rfl rfl
  · rw [eT] at a1 a2 ⊢
    refine W_of (a := .nx) (st := ⟨[some (.d a), some (.own d3.m), some (.d (ww one)), some (.d (ww b)), some (.d .none), none, none, none], [none]⟩) (by simp [fSeq, fAsg, fCall, fCons, fNil, fVar, fAug, fExpr, fExtend, fBin, fC, fIf, fIfS, fRet, fRetN, fNext, fTest, fAnd, fOr, fNot, fAndV, fOrV, fNotV, fOfT, fChain, fNeg, fPar, fParT, fMut, fSetIx, fDPut, fDGet, fDGet2, fDAug, fDNew, fCallF, fSl, fPart, fNoPart, gSl, gN, gT, gL, gsName, gsNil, gsCons, isVar, Rz.bind, gOrC, gMin2, gMax2, gLen, gLenS, gLenD, gInt, gAbs, gTuple, gList, gDict, gOr, gI, gAddT, gAddL, gAddS, gRepL, gEqN, gInN, gIsN, nonB, S.toD, gIx, gIxS, S.seq, S.lst, S.der, S.mlst, S.get, S.put, S.res, S.tgt, mkArgs, mkArg, apartB, owEq, back, gAppend, gPop, gPopAt, tyM, gLst, gTup, allD, fExtend.isSelf, Option.or, sizeLine_eq, encP, isiR, isiD, isL, fIsi, fSortIt, noX, mkF, bodyF, start0, slots0, slot0, ioM, ioOk, finA, eqvI, eqvS, depI, depS, depB, depN, mGetK, mPutK, keyK, isDK, s_tp, s_tm, s_pt, s_pm, s_mp, s_mt, fRev, fSortSet, fCount, fFrz, fSortTup, fIndex, isT, gIdx, gCount, gRemove, gRepT, a2, a3, PyData.eqv, PyData.depth]) ?_
    rw [thenQ_nx]
    refine W_cut (fun st => ∃ (d : Die) (v5 v6 v7 : Option R), st = ⟨[some (.d a), some (.own d.m), some (.d (ww one)), some (.d (ww b)), some (.d .none), v5, v6, v7], [none]⟩) (fun N1 hN1 => ?_) ?_
    · unfold s_law_1
      refine W_forI ((List.range 5).map fun i => (.int (i : Nat) : D)) (fun st => ∃ (d : Die) (v5 v6 v7 : Option R), st = ⟨[some (.d a), some (.own d.m), some (.d (ww one)), some (.d (ww b)), some (.d .none), v5, v6, v7], [none]⟩) (range1_ok (n := 5) rfl (by omega)) ⟨d3, none, none, none, rfl⟩ ?_ ?_
      · rintro st ⟨d, v5, v6, v7, rfl⟩
        exact hN1 _ ⟨d, v5, v6, v7, rfl⟩
      rintro x st N hx ⟨d, v5, v6, v7, rfl⟩ hN
      refine ⟨_, rfl, ?_⟩
      unfold l_law_0
      have r := st_rw d 4 (by omega) (by omega)
      have B := d.stB 4 (by omega) (by omega)
      generalize d.stV 4 = h at *
      generalize d.stN 4 = d4 at *
      have sh := B.sto (by omega)
      have q1 := run_rw o1 (by omega) sh
      have q2 := run_rw o2 (by omega) sh
      rw [dn_th h heq] at q1
      simp [gSl, gN, gT, gL, gsName, gsNil, gsCons, isVar, gOrC, gMin2, gMax2, gLen, gLenS, gLenD, gInt, gAbs, gTuple, gList, gDict, gOr, gI, gAddT, gAddL, gAddS, gRepL, gEqN, gInN, gIsN, nonB, S.toD, gIx, gIxS, S.seq, S.lst, S.der, S.mlst, S.get, S.put, S.res, S.tgt, mkArgs, mkArg, apartB, owEq, back, gAppend, gPop, gPopAt, tyM, gLst, gTup, allD, fExtend.isSelf, Option.or, sizeLine_eq, isiR, isiD, isL, start0, slots0, slot0, ioM, ioOk, finA, eqvI, eqvS, depI, depS, depB, depN, mGetK, mPutK, keyK, isDK, s_tp, s_tm, s_pt, s_pm, s_mp, s_mt, isT, gIdx, gCount, gRemove, gRepT, u_fAsg, u_fCall, u_fCons, u_fNil, u_fVar, u_fAug, u_fExpr, u_fExtend, u_fBin, u_fC, u_fRet, u_fRetN, u_fNext, u_fTest, u_fNot, u_fChain, u_fNeg, u_fPar, u_fParT, u_fMut, u_fSetIx, u_fDPut, u_fDGet, u_fDGet2, u_fDAug, u_fDNew, u_fSl, u_fPart, u_fNoPart, u_fOfT, u_fNotV, u_fIsi, u_fSortIt, u_fTrue, u_fBrk, u_fCnt, u_fEnum, u_fRev, u_fSortSet, u_fCount, u_fFrz, u_fSortTup, u_fIndex, u_fCallF, callB_some, callD_ret, callE_some, b_ok, b_no, W_ok, W_no, W_bind, W_ite, bind_ite, thenQ_nx, thenQ_rt, thenQ_bk, thenQ_ct, W_seq, fIfS_eq, fIf_eq, fAnd_eq, fOr_eq, fAndV_eq, fOrV_eq, andK_b, orK_b, ite_okT, ite_okF, ite_okTd, ite_okFd, turnQ_nx, turnQ_ct, turnQ_bk, turnQ_rt, cutQ_nx, cutQ_rt, cutQ_bk, cutQ_ct, endOut, r, q1, q2, eqv_hh, min_hh, le_hh]
      exact hN _ ⟨d4, _, _, _, rfl⟩
    · rintro st ⟨d, v5, v6, v7, rfl⟩
      change F_heaps [.d (ww one)] = .ret (.d (tt (th one))) [.d (ww one)] at h1
      change F_heaps [.d (ww b)] = .ret (.d (tt (th b))) [.d (ww b)] at h2
      rw [heq] at h1
      have k1 := eqv_tt (th b) (th b)
      have k4 := fun x => min_tt (th b) x
      have k5 := le_tt (th b)
      simp only [decide_true] at k1
      generalize tt (th b) = T2 at *
      simp [gSl, gN, gT, gL, gsName, gsNil, gsCons, isVar, gOrC, gMin2, gMax2, gLen, gLenS, gLenD, gInt, gAbs, gTuple, gList, gDict, gOr, gI, gAddT, gAddL, gAddS, gRepL, gEqN, gInN, gIsN, nonB, S.toD, gIx, gIxS, S.seq, S.lst, S.der, S.mlst, S.get, S.put, S.res, S.tgt, mkArgs, mkArg, apartB, owEq, back, gAppend, gPop, gPopAt, tyM, gLst, gTup, allD, fExtend.isSelf, Option.or, sizeLine_eq, isiR, isiD, isL, start0, slots0, slot0, ioM, ioOk, finA, eqvI, eqvS, depI, depS, depB, depN, mGetK, mPutK, keyK, isDK, s_tp, s_tm, s_pt, s_pm, s_mp, s_mt, isT, gIdx, gCount, gRemove, gRepT, u_fAsg, u_fCall, u_fCons, u_fNil, u_fVar, u_fAug, u_fExpr, u_fExtend, u_fBin, u_fC, u_fRet, u_fRetN, u_fNext, u_fTest, u_fNot, u_fChain, u_fNeg, u_fPar, u_fParT, u_fMut, u_fSetIx, u_fDPut, u_fDGet, u_fDGet2, u_fDAug, u_fDNew, u_fSl, u_fPart, u_fNoPart, u_fOfT, u_fNotV, u_fIsi, u_fSortIt, u_fTrue, u_fBrk, u_fCnt, u_fEnum, u_fRev, u_fSortSet, u_fCount, u_fFrz, u_fSortTup, u_fIndex, u_fCallF, callB_some, callD_ret, callE_some, b_ok, b_no, W_ok, W_no, W_bind, W_ite, bind_ite, thenQ_nx, thenQ_rt, thenQ_bk, thenQ_ct, W_seq, fIfS_eq, fIf_eq, fAnd_eq, fOr_eq, fAndV_eq, fOrV_eq, andK_b, orK_b, ite_okT, ite_okF, ite_okTd, ite_okFd, turnQ_nx, turnQ_ct, turnQ_bk, turnQ_rt, cutQ_nx, cutQ_rt, cutQ_bk, cutQ_ct, endOut, h1, h2, k1, k4, k5]
      exact hQ _ _ _ _ rfl rfl
end FL
end
section
set_option Elab.async false
set_option linter.all false
set_option maxRecDepth 100000
set_option maxHeartbeats 4000000
namespace FL
open PySem PySem.Spec PyProof.Rows L2
def top (i : Nat) : Stmt := PySem.Challenge.pw_leastout_k24_whole_parted_by_a_store.main.body.getD i (.Pass ⟨0, 0, 0, 0⟩)
abbrev FnP (K : PySem.W.Frag) (x : Str) (st : Stmt) (f : Addr) (fd : FuncData) : Prop := FunD K x x (defArgs st) (defBody st) (defScope st) [] [] f fd
abbrev FnPk (K : PySem.W.Frag) (x : Str) (st : Stmt) (kws : List (Str × V)) (f : Addr) (fd : FuncData) : Prop := FunD K x x (defArgs st) (defBody st) (defScope st) [] kws f fd
abbrev s__law_dice : Stmt := top 36
theorem sc__law_dice : FnScope ["_law_script", "_law_mixed", "_law_cell"] ["_law_script"] (defScope s__law_dice) := ⟨rfl, rfl, rfl, by decide +kernel, rfl, by decide +kernel, by decide +kernel⟩
abbrev s__law_next : Stmt := top 37
theorem sc__law_next : FnScope ["_law_dice_here", "_law_many", "_law_found", "_law_cell"] ["_law_dice_here", "_law_many"] (defScope s__law_next) := ⟨rfl, rfl, rfl, by decide +kernel, rfl, by decide +kernel, by decide +kernel⟩
abbrev s__law_orders : Stmt := top 43
theorem sc__law_orders : FnScope ["_law_single_here", "_law_found", "_law_step", "_law_k", "_law_rest"] ["_law_single_here"] (defScope s__law_orders) := ⟨rfl, rfl, rfl, by decide +kernel, rfl, by decide +kernel, by decide +kernel⟩
abbrev s__law_pick : Stmt := top 38
theorem sc__law_pick : FnScope ["_law_d", "_law_some"] ["_law_d", "_law_some"] (defScope s__law_pick) := ⟨rfl, rfl, rfl, by decide +kernel, rfl, by decide +kernel, by decide +kernel⟩
abbrev s__law_single : Stmt := top 40
theorem sc__law_single : FnScope ["_law_d", "_law_most_of", "_law_found", "_law_k"] ["_law_d", "_law_most_of"] (defScope s__law_single) := ⟨rfl, rfl, rfl, by decide +kernel, rfl, by decide +kernel, by decide +kernel⟩
abbrev s__law_size : Stmt := top 42
theorem sc__law_size : FnScope ["_law_heap", "_law_number_here", "_law_count"] ["_law_heap"] (defScope s__law_size) := ⟨rfl, rfl, rfl, by decide +kernel, rfl, by decide +kernel, by decide +kernel⟩
abbrev s__law_number : Stmt := top 39
theorem sc__law_number : FnScope ["_law_d"] ["_law_d"] (defScope s__law_number) := ⟨rfl, rfl, rfl, by decide +kernel, rfl, by decide +kernel, by decide +kernel⟩
abbrev s__law_store : Stmt := top 41
theorem sc__law_store : FnScope ["_law_d", "_law_far", "_law_found", "_law_k", "_law_number_here"] ["_law_d", "_law_far"] (defScope s__law_store) := ⟨rfl, rfl, rfl, by decide +kernel, rfl, by decide +kernel, by decide +kernel⟩
abbrev s_is_step : Stmt := top 21
theorem sc_is_step : FnScope ["step"] ["step"] (defScope s_is_step) := ⟨rfl, rfl, rfl, by decide +kernel, rfl, by decide +kernel, by decide +kernel⟩
abbrev s_need_steps : Stmt := top 22
theorem sc_need_steps : FnScope ["steps", "deep", "number", "step"] ["steps", "deep", "number"] (defScope s_need_steps) := ⟨rfl, rfl, rfl, by decide +kernel, rfl, by decide +kernel, by decide +kernel⟩
abbrev s_need_work : Stmt := top 23
theorem sc_need_work : FnScope ["work"] ["work"] (defScope s_need_work) := ⟨rfl, rfl, rfl, by decide +kernel, rfl, by decide +kernel, by decide +kernel⟩
abbrev s_bars_of : Stmt := top 32
theorem sc_bars_of : FnScope ["one", "other", "found", "number", "count"] ["one", "other"] (defScope s_bars_of) := ⟨rfl, rfl, rfl, by decide +kernel, rfl, by decide +kernel, by decide +kernel⟩
abbrev s_beyond : Stmt := top 31
theorem sc_beyond : FnScope ["three", "bar", "number", "count"] ["three", "bar"] (defScope s_beyond) := ⟨rfl, rfl, rfl, by decide +kernel, rfl, by decide +kernel, by decide +kernel⟩
abbrev s_parting : Stmt := top 33
theorem sc_parting : FnScope ["one", "other", "found", "bar", "here"] ["one", "other"] (defScope s_parting) := ⟨rfl, rfl, rfl, by decide +kernel, rfl, by decide +kernel, by decide +kernel⟩
abbrev s_both : Stmt := top 10
theorem sc_both : FnScope ["one", "other", "found", "number", "count"] ["one", "other"] (defScope s_both) := ⟨rfl, rfl, rfl, by decide +kernel, rfl, by decide +kernel, by decide +kernel⟩
abbrev s_parted : Stmt := top 12
theorem sc_parted : FnScope ["heap", "many", "out", "rest", "number", "count", "here"] ["heap", "many"] (defScope s_parted) := ⟨rfl, rfl, rfl, by decide +kernel, rfl, by decide +kernel, by decide +kernel⟩
abbrev s_size_of : Stmt := top 11
theorem sc_size_of : FnScope ["heap", "number", "count"] ["heap"] (defScope s_size_of) := ⟨rfl, rfl, rfl, by decide +kernel, rfl, by decide +kernel, by decide +kernel⟩
abbrev s_behind : Stmt := top 24
theorem sc_behind : FnScope ["one", "other", "left", "out", "idle", "first", "rest", "lacking", "second", "none"] ["one", "other"] (defScope s_behind) := ⟨rfl, rfl, rfl, by decide +kernel, rfl, by decide +kernel, by decide +kernel⟩
abbrev s_power : Stmt := top 25
theorem sc_power : FnScope ["three", "many", "found"] ["three", "many"] (defScope s_power) := ⟨rfl, rfl, rfl, by decide +kernel, rfl, by decide +kernel, by decide +kernel⟩
abbrev s_three_of : Stmt := top 26
theorem sc_three_of : FnScope ["steps", "found", "step", "here"] ["steps"] (defScope s_three_of) := ⟨rfl, rfl, rfl, by decide +kernel, rfl, by decide +kernel, by decide +kernel⟩
abbrev s_alike : Stmt := top 34
theorem sc_alike : FnScope ["one", "other"] ["one", "other"] (defScope s_alike) := ⟨rfl, rfl, rfl, by decide +kernel, rfl, by decide +kernel, by decide +kernel⟩
abbrev s_heaps : Stmt := top 29
theorem sc_heaps : FnScope ["work"] ["work"] (defScope s_heaps) := ⟨rfl, rfl, rfl, by decide +kernel, rfl, by decide +kernel, by decide +kernel⟩
abbrev s_done : Stmt := top 27
theorem sc_done : FnScope ["three", "store"] ["three", "store"] (defScope s_done) := ⟨rfl, rfl, rfl, by decide +kernel, rfl, by decide +kernel, by decide +kernel⟩
abbrev s_bad_place : Stmt := top 8
theorem sc_bad_place : FnScope ["heap", "far", "place", "number", "count"] ["heap", "far"] (defScope s_bad_place) := ⟨rfl, rfl, rfl, by decide +kernel, rfl, by decide +kernel, by decide +kernel⟩
abbrev s_need_heap : Stmt := top 9
theorem sc_need_heap : FnScope ["heap", "place"] ["heap"] (defScope s_need_heap) := ⟨rfl, rfl, rfl, by decide +kernel, rfl, by decide +kernel, by decide +kernel⟩
abbrev s_run : Stmt := top 28
theorem sc_run : FnScope ["work", "store"] ["work", "store"] (defScope s_run) := ⟨rfl, rfl, rfl, by decide +kernel, rfl, by decide +kernel, by decide +kernel⟩
abbrev s_law : Stmt := top 44
theorem sc_law : FnScope ["_law_script", "_law_d", "_law_one", "_law_other", "_law_told", "_law_turn", "_law_heap", "_law_same"] ["_law_script"] (defScope s_law) := ⟨rfl, rfl, rfl, by decide +kernel, rfl, by decide +kernel, by decide +kernel⟩
section
variable {P : Program} {w : World} {K : PySem.W.Frag} {mg : Str → Option Value} {base h : Heap} {Hr : Hp} {f0 : Addr} {fd0 : FuncData} (KX : K.In h) (G : h.Ns mainGlobals mg)
include KX G
theorem ok__law_dice (F0 : FnP K "_law_dice" s__law_dice f0 fd0)
    (z_int : mg "int" = none)
    (z_len : mg "len" = none) : FnOk P w K mg base CX0 1 f0 fd0 ["_law_script"] (spF K Hr mg FL.F__law_dice) := by
  show FnOk P w K mg base CX0 (0 + 1) f0 fd0 ["_law_script"] (spF K Hr mg (mkF 1 3 c__law_dice))
  refine fnM F0 sc__law_dice 1 3 rfl rfl fun cdv A outer s0 H E o vs hr => ?_
  have hN := sc__law_dice.nd
  have hu : (A.deeper (envOfC "_law_dice" (defScope s__law_dice) s0.heap.objs.size f0 cdv)).units + 100 < cLine := by have := hr.un; omega
  have hu64 : (A.deeper (envOfC "_law_dice" (defScope s__law_dice) s0.heap.objs.size f0 cdv)).units + 64 < cLine := by omega
  have hu1 : (A.deeper (envOfC "_law_dice" (defScope s__law_dice) s0.heap.objs.size f0 cdv)).units + 1 < cLine := by omega
  exact (ds_cons (ds_set 1 hN de_int)
  (ds_cons (ds_for PassesOwn.never rfl (di_seq rfl (de_var 0)) (dg_name 2 hN)
  (ds_one (ds_set 1 hN (d_bin o_mod (d_bin (o_add rfl) (d_bin (o_add rfl) (d_bin o_mul (de_var 1) de_int) (d_bin o_mul (d_bin o_mod (de_var 2) de_int) de_int)) de_int) de_int))))
  (ds_one (ds_ret (d_lst (da_cons (de_var 0) (da_cons de_int (da_cons (d_bin o_mul (de_var 1) (d_callT (b_int) z_int bt_int (da_cons (d_cmp o_gt (d_callB (b_len rfl) z_len bt_len (da_cons (de_var 0) da_nil)) de_int) da_nil))) (da_cons de_int da_nil)))))))))
theorem ok__law_next (F0 : FnP K "_law_next" s__law_next f0 fd0)
    (z_len : mg "len" = none) : FnOk P w K mg base CX0 1 f0 fd0 ["_law_dice_here", "_law_many"] (spF K Hr mg FL.F__law_next) := by
  show FnOk P w K mg base CX0 (0 + 1) f0 fd0 ["_law_dice_here", "_law_many"] (spF K Hr mg (mkF 2 4 c__law_next))
  refine fnM F0 sc__law_next 2 4 rfl rfl fun cdv A outer s0 H E o vs hr => ?_
  have hN := sc__law_next.nd
  have hu : (A.deeper (envOfC "_law_next" (defScope s__law_next) s0.heap.objs.size f0 cdv)).units + 100 < cLine := by have := hr.un; omega
  have hu64 : (A.deeper (envOfC "_law_next" (defScope s__law_next) s0.heap.objs.size f0 cdv)).units + 64 < cLine := by omega
  have hu1 : (A.deeper (envOfC "_law_next" (defScope s__law_next) s0.heap.objs.size f0 cdv)).units + 1 < cLine := by omega
  exact (ds_cons (ds_if (t_cmp o_gt (d_ix rfl (de_var 0) de_int) de_int)
  (ds_cons (ds_set 2 hN (d_bin o_mod (d_ix rfl (de_var 0) de_int) (de_var 1)))
  (ds_cons (ds_setix (i := 0) (pe_var (i := 0) rfl (by first | exact Or.inl rfl | exact Or.inr (Or.inl rfl) | exact Or.inr (Or.inr rfl))) de_int (d_bin o_fdiv (d_ix rfl (de_var 0) de_int) (de_var 1)))
  (ds_one (ds_ret (de_var 2)))))
  ds_nil)
  (ds_cons (ds_setix (i := 0) (pe_var (i := 0) rfl (by first | exact Or.inl rfl | exact Or.inr (Or.inl rfl) | exact Or.inr (Or.inr rfl))) de_int (d_bin (o_add rfl) (d_ix rfl (de_var 0) de_int) de_int))
  (ds_cons (ds_if (t_cmp o_le (d_ix rfl (de_var 0) de_int) (d_callB (b_len rfl) z_len bt_len (da_cons (d_ix rfl (de_var 0) de_int) da_nil)))
  (ds_cons (ds_set 3 hN (d_ix rfl (d_ix rfl (de_var 0) de_int) (d_bin o_sub (d_ix rfl (de_var 0) de_int) de_int)))
  (ds_cons (ds_setix (i := 0) (pe_var (i := 0) rfl (by first | exact Or.inl rfl | exact Or.inr (Or.inl rfl) | exact Or.inr (Or.inr rfl))) de_int (de_if (t_cmp o_ge (de_var 3) (d_bin o_pow de_int de_int)) (d_bin o_fdiv (de_var 3) (de_var 1)) de_int))
  (ds_one (ds_ret (d_bin o_mod (de_var 3) (de_var 1))))))
  ds_nil)
  (ds_cons (ds_setix (i := 0) (pe_var (i := 0) rfl (by first | exact Or.inl rfl | exact Or.inr (Or.inl rfl) | exact Or.inr (Or.inr rfl))) de_int (d_bin o_mod (d_bin o_mul (d_ix rfl (de_var 0) de_int) de_int) de_int))
  (ds_one (ds_ret (d_bin o_mod (d_bin o_fdiv (d_ix rfl (de_var 0) de_int) de_int) (de_var 1))))))))
theorem ok__law_orders (F0 : FnP K "_law_orders" s__law_orders f0 fd0)
    (z_dict : mg "dict" = none)
    (z_sorted : mg "sorted" = none)
    (g__law_orders : mg "_law_orders" = some (.ref f0)) (b__law_orders : Binds K fd0 ["_law_single_here"] []) : ∀ n : Nat, FnOk P w K mg base CX0 (0 + n) f0 fd0 ["_law_single_here"] (spF K Hr mg (FL.F__law_orders n))
  | 0 => fn_no
  | n + 1 => by
    have GF := ok__law_orders F0 z_dict z_sorted g__law_orders b__law_orders n
    have F__law_orders := F0
    show FnOk P w K mg base CX0 ((0 + n) + 1) f0 fd0 ["_law_single_here"] (spF K Hr mg (mkF 1 5 (c__law_orders (FL.F__law_orders n))))
    refine fnM F0 sc__law_orders 1 5 rfl rfl fun cdv A outer s0 H E o vs hr => ?_
    have hN := sc__law_orders.nd
    have hu : (A.deeper (envOfC "_law_orders" (defScope s__law_orders) s0.heap.objs.size f0 cdv)).units + 100 < cLine := by have := hr.un; omega
    have hu64 : (A.deeper (envOfC "_law_orders" (defScope s__law_orders) s0.heap.objs.size f0 cdv)).units + 64 < cLine := by omega
    have hu1 : (A.deeper (envOfC "_law_orders" (defScope s__law_orders) s0.heap.objs.size f0 cdv)).units + 1 < cLine := by omega
    exact (ds_cons (ds_if (t_cmp (o_eq rfl hu) (de_var 0) (d_tup da_nil))
    (ds_one (ds_ret (d_lst (da_cons (d_tup da_nil) da_nil))))
    ds_nil)
    (ds_cons (ds_set 1 hN (d_lst da_nil))
    (ds_cons (ds_for PassesOwn.never rfl (di_seq rfl (de_sortTup rfl rfl hu rfl z_sorted rfl z_dict (de_lc (own := [("_law_step", 2)]) rfl hN (di_seq rfl (de_var 0)) (blkOk_by (by kernel_rfl)) (fun _ _ _ _ _ => (dg_name 2 hN)) (fun _ _ _ _ _ => dts_nil) (fun _ _ _ _ _ => (d_tup (da_cons (de_var 2) (da_cons de_bool da_nil))))) (hv := bt_sorted) (hv2 := bt_dict))) (dg_name 2 hN)
    (ds_cons (ds_set 3 hN (de_index rfl hu (de_var 0) (da_cons (de_var 2) da_nil)))
    (ds_one (ds_set 1 hN (d_bin (o_add rfl) (de_var 1) (de_lc (own := [("_law_rest", 4)]) rfl hN (di_seq rfl (de_callF [.r] GF hr g__law_orders F__law_orders.kp b__law_orders pass00 (da_cons (d_bin (o_add rfl) (d_slice rfl (de_var 0) do_none (do_some (de_var 3))) (d_slice rfl (de_var 0) (do_some (d_bin (o_add rfl) (de_var 3) de_int)) do_none)) da_nil))) (blkOk_by (by kernel_rfl)) (fun _ _ _ _ _ => (dg_name 4 hN)) (fun _ _ _ _ _ => dts_nil) (fun _ _ _ _ _ => (d_bin (o_add rfl) (d_tup (da_cons (de_var 2) da_nil)) (de_var 4)))))))))
    (ds_one (ds_ret (de_var 1))))))
theorem ok__law_pick (F0 : FnP K "_law_pick" s__law_pick f0 fd0)
    {f__law_next : Addr} {fd__law_next : FuncData} (F__law_next : FnP K "_law_next" s__law_next f__law_next fd__law_next) (G__law_next' : FnOk P w K mg base CX0 1 f__law_next fd__law_next ["_law_dice_here", "_law_many"] (spF K Hr mg FL.F__law_next)) (g__law_next : mg "_law_next" = some (.ref f__law_next)) (b__law_next : Binds K fd__law_next ["_law_dice_here", "_law_many"] [])
    (z_len : mg "len" = none) : FnOk P w K mg base CX0 2 f0 fd0 ["_law_d", "_law_some"] (spF K Hr mg FL.F__law_pick) := by
  have G__law_next := G__law_next'.mono (show 1 ≤ 1 by omega)
  show FnOk P w K mg base CX0 (1 + 1) f0 fd0 ["_law_d", "_law_some"] (spF K Hr mg (mkF 2 2 c__law_pick))
  refine fnM F0 sc__law_pick 2 2 rfl rfl fun cdv A outer s0 H E o vs hr => ?_
  have hN := sc__law_pick.nd
  have hu : (A.deeper (envOfC "_law_pick" (defScope s__law_pick) s0.heap.objs.size f0 cdv)).units + 100 < cLine := by have := hr.un; omega
  have hu64 : (A.deeper (envOfC "_law_pick" (defScope s__law_pick) s0.heap.objs.size f0 cdv)).units + 64 < cLine := by omega
  have hu1 : (A.deeper (envOfC "_law_pick" (defScope s__law_pick) s0.heap.objs.size f0 cdv)).units + 1 < cLine := by omega
  exact (ds_one (ds_ret (d_ix rfl (de_var 1) (de_callF [.w, .r] G__law_next hr g__law_next F__law_next.kp b__law_next pass00 (da_cons (de_var 0) (da_cons (d_callB (b_len rfl) z_len bt_len (da_cons (de_var 1) da_nil)) da_nil))))))
theorem ok__law_single (F0 : FnP K "_law_single" s__law_single f0 fd0)
    {f__law_next : Addr} {fd__law_next : FuncData} (F__law_next : FnP K "_law_next" s__law_next f__law_next fd__law_next) (G__law_next' : FnOk P w K mg base CX0 1 f__law_next fd__law_next ["_law_dice_here", "_law_many"] (spF K Hr mg FL.F__law_next)) (g__law_next : mg "_law_next" = some (.ref f__law_next)) (b__law_next : Binds K fd__law_next ["_law_dice_here", "_law_many"] [])
    (z_range : mg "range" = none)
    (z_tuple : mg "tuple" = none) : FnOk P w K mg base CX0 2 f0 fd0 ["_law_d", "_law_most_of"] (spF K Hr mg FL.F__law_single) := by
  have G__law_next := G__law_next'.mono (show 1 ≤ 1 by omega)
  show FnOk P w K mg base CX0 (1 + 1) f0 fd0 ["_law_d", "_law_most_of"] (spF K Hr mg (mkF 2 4 c__law_single))
  refine fnM F0 sc__law_single 2 4 rfl rfl fun cdv A outer s0 H E o vs hr => ?_
  have hN := sc__law_single.nd
  have hu : (A.deeper (envOfC "_law_single" (defScope s__law_single) s0.heap.objs.size f0 cdv)).units + 100 < cLine := by have := hr.un; omega
  have hu64 : (A.deeper (envOfC "_law_single" (defScope s__law_single) s0.heap.objs.size f0 cdv)).units + 64 < cLine := by omega
  have hu1 : (A.deeper (envOfC "_law_single" (defScope s__law_single) s0.heap.objs.size f0 cdv)).units + 1 < cLine := by omega
  exact (ds_cons (ds_set 2 hN (d_lst da_nil))
  (ds_cons (ds_for PassesOwn.never rfl (di_range1 rfl z_range (da_cons (de_callF [.w, .r] G__law_next hr g__law_next F__law_next.kp b__law_next pass00 (da_cons (de_var 0) (da_cons (d_bin (o_add rfl) (de_var 1) de_int) da_nil))) da_nil)) (dg_name 3 hN)
  (ds_one (ds_expr (d_append (i := 2) rfl (pe_var (i := 2) rfl (by first | exact Or.inl rfl | exact Or.inr (Or.inl rfl) | exact Or.inr (Or.inr rfl))) (da_cons (de_if (t_cmp (o_eq rfl hu) (de_callF [.w, .r] G__law_next hr g__law_next F__law_next.kp b__law_next pass00 (da_cons (de_var 0) (da_cons de_int da_nil))) de_int) (d_tup (da_cons de_str da_nil)) (d_tup (da_cons de_str (da_cons (d_bin o_sub (de_callF [.w, .r] G__law_next hr g__law_next F__law_next.kp b__law_next pass00 (da_cons (de_var 0) (da_cons de_int da_nil))) de_int) da_nil)))) da_nil)))))
  (ds_one (ds_ret (d_callT (b_tuple rfl) z_tuple bt_tuple (da_cons (de_var 2) da_nil))))))
theorem ok__law_size (F0 : FnP K "_law_size" s__law_size f0 fd0)
    (z_sum : mg "sum" = none) : FnOk P w K mg base CX0 1 f0 fd0 ["_law_heap"] (spF K Hr mg FL.F__law_size) := by
  show FnOk P w K mg base CX0 (0 + 1) f0 fd0 ["_law_heap"] (spF K Hr mg (mkF 1 3 c__law_size))
  refine fnM F0 sc__law_size 1 3 rfl rfl fun cdv A outer s0 H E o vs hr => ?_
  have hN := sc__law_size.nd
  have hu : (A.deeper (envOfC "_law_size" (defScope s__law_size) s0.heap.objs.size f0 cdv)).units + 100 < cLine := by have := hr.un; omega
  have hu64 : (A.deeper (envOfC "_law_size" (defScope s__law_size) s0.heap.objs.size f0 cdv)).units + 64 < cLine := by omega
  have hu1 : (A.deeper (envOfC "_law_size" (defScope s__law_size) s0.heap.objs.size f0 cdv)).units + 1 < cLine := by omega
  exact (ds_one (ds_ret (d_callB (b_sum rfl rfl) z_sum bt_sum (da_cons (de_lc (own := [("_law_number_here", 1), ("_law_count", 2)]) rfl hN (di_seq rfl (de_var 0)) (blkOk_by (by kernel_rfl)) (fun _ _ _ _ _ => (dg_tup rfl rfl (dgs_name 1 hN (dgs_name 2 hN dgs_nil)))) (fun _ _ _ _ _ => dts_nil) (fun _ _ _ _ _ => (de_var 2))) da_nil))))
theorem ok__law_number (F0 : FnP K "_law_number" s__law_number f0 fd0)
    {f__law_next : Addr} {fd__law_next : FuncData} (F__law_next : FnP K "_law_next" s__law_next f__law_next fd__law_next) (G__law_next' : FnOk P w K mg base CX0 1 f__law_next fd__law_next ["_law_dice_here", "_law_many"] (spF K Hr mg FL.F__law_next)) (g__law_next : mg "_law_next" = some (.ref f__law_next)) (b__law_next : Binds K fd__law_next ["_law_dice_here", "_law_many"] []) : FnOk P w K mg base CX0 2 f0 fd0 ["_law_d"] (spF K Hr mg FL.F__law_number) := by
  have G__law_next := G__law_next'.mono (show 1 ≤ 1 by omega)
  show FnOk P w K mg base CX0 (1 + 1) f0 fd0 ["_law_d"] (spF K Hr mg (mkF 1 1 c__law_number))
  refine fnM F0 sc__law_number 1 1 rfl rfl fun cdv A outer s0 H E o vs hr => ?_
  have hN := sc__law_number.nd
  have hu : (A.deeper (envOfC "_law_number" (defScope s__law_number) s0.heap.objs.size f0 cdv)).units + 100 < cLine := by have := hr.un; omega
  have hu64 : (A.deeper (envOfC "_law_number" (defScope s__law_number) s0.heap.objs.size f0 cdv)).units + 64 < cLine := by omega
  have hu1 : (A.deeper (envOfC "_law_number" (defScope s__law_number) s0.heap.objs.size f0 cdv)).units + 1 < cLine := by omega
  exact (ds_one (ds_ret (d_ix rfl (d_lst (da_cons (d_bin o_sub (de_callF [.w, .r] G__law_next hr g__law_next F__law_next.kp b__law_next pass00 (da_cons (de_var 0) (da_cons de_int da_nil))) de_int) (da_cons (d_bin o_sub (de_callF [.w, .r] G__law_next hr g__law_next F__law_next.kp b__law_next pass00 (da_cons (de_var 0) (da_cons de_int da_nil))) de_int) (da_cons (d_bin o_sub (de_callF [.w, .r] G__law_next hr g__law_next F__law_next.kp b__law_next pass00 (da_cons (de_var 0) (da_cons de_int da_nil))) de_int) da_nil)))) (d_bin o_fdiv (de_callF [.w, .r] G__law_next hr g__law_next F__law_next.kp b__law_next pass00 (da_cons (de_var 0) (da_cons de_int da_nil))) de_int))))
theorem ok__law_store (F0 : FnP K "_law_store" s__law_store f0 fd0)
    {f__law_next : Addr} {fd__law_next : FuncData} (F__law_next : FnP K "_law_next" s__law_next f__law_next fd__law_next) (G__law_next' : FnOk P w K mg base CX0 1 f__law_next fd__law_next ["_law_dice_here", "_law_many"] (spF K Hr mg FL.F__law_next)) (g__law_next : mg "_law_next" = some (.ref f__law_next)) (b__law_next : Binds K fd__law_next ["_law_dice_here", "_law_many"] [])
    {f__law_number : Addr} {fd__law_number : FuncData} (F__law_number : FnP K "_law_number" s__law_number f__law_number fd__law_number) (G__law_number' : FnOk P w K mg base CX0 2 f__law_number fd__law_number ["_law_d"] (spF K Hr mg FL.F__law_number)) (g__law_number : mg "_law_number" = some (.ref f__law_number)) (b__law_number : Binds K fd__law_number ["_law_d"] [])
    (z_int : mg "int" = none)
    (z_range : mg "range" = none)
    (z_sorted : mg "sorted" = none)
    (z_tuple : mg "tuple" = none) : FnOk P w K mg base CX0 3 f0 fd0 ["_law_d", "_law_far"] (spF K Hr mg FL.F__law_store) := by
  have G__law_next := G__law_next'.mono (show 1 ≤ 2 by omega)
  have G__law_number := G__law_number'.mono (show 2 ≤ 2 by omega)
  show FnOk P w K mg base CX0 (2 + 1) f0 fd0 ["_law_d", "_law_far"] (spF K Hr mg (mkF 2 5 c__law_store))
  refine fnM F0 sc__law_store 2 5 rfl rfl fun cdv A outer s0 H E o vs hr => ?_
  have hN := sc__law_store.nd
  have hu : (A.deeper (envOfC "_law_store" (defScope s__law_store) s0.heap.objs.size f0 cdv)).units + 100 < cLine := by have := hr.un; omega
  have hu64 : (A.deeper (envOfC "_law_store" (defScope s__law_store) s0.heap.objs.size f0 cdv)).units + 64 < cLine := by omega
  have hu1 : (A.deeper (envOfC "_law_store" (defScope s__law_store) s0.heap.objs.size f0 cdv)).units + 1 < cLine := by omega
  exact (ds_cons (ds_set 2 hN de_dnew)
  (ds_cons (ds_for PassesOwn.never rfl (di_range1 rfl z_range (da_cons (de_callF [.w, .r] G__law_next hr g__law_next F__law_next.kp b__law_next pass00 (da_cons (de_var 0) (da_cons (d_ix rfl (d_lst (da_cons de_int (da_cons de_int da_nil))) (de_callF [.w, .r] G__law_next hr g__law_next F__law_next.kp b__law_next pass00 (da_cons (de_var 0) (da_cons de_int da_nil)))) da_nil))) da_nil)) (dg_name 3 hN)
  (ds_cons (ds_set 4 hN (d_ix rfl (d_lst (da_cons (de_callF [.w] G__law_number hr g__law_number F__law_number.kp b__law_number pass00 (da_cons (de_var 0) da_nil)) (da_cons (d_bin o_sub (de_callF [.w, .r] G__law_next hr g__law_next F__law_next.kp b__law_next pass00 (da_cons (de_var 0) (da_cons de_int da_nil))) de_int) da_nil))) (d_callT (b_int) z_int bt_int (da_cons (d_cmp (o_eq rfl hu) (de_callF [.w, .r] G__law_next hr g__law_next F__law_next.kp b__law_next pass00 (da_cons (de_var 0) (da_cons de_int da_nil))) de_int) da_nil))))
  (ds_one (ds_dput (i := 2) hu1 (pe_var (i := 2) rfl (by first | exact Or.inl rfl | exact Or.inr (Or.inl rfl) | exact Or.inr (Or.inr rfl))) (de_var 4) (d_bin (o_add rfl) de_int (de_callF [.w, .r] G__law_next hr g__law_next F__law_next.kp b__law_next pass00 (da_cons (de_var 0) (da_cons (d_ix rfl (d_lst (da_cons de_int (da_cons de_int (da_cons (de_var 1) da_nil)))) (de_callF [.w, .r] G__law_next hr g__law_next F__law_next.kp b__law_next pass00 (da_cons (de_var 0) (da_cons de_int da_nil)))) da_nil))))))))
  (ds_one (ds_ret (d_callT (b_tuple rfl) z_tuple bt_tuple (da_cons (de_lc (own := [("_law_number_here", 4)]) rfl hN (di_seq rfl (d_callB (b_sorted rfl rfl) z_sorted bt_sorted (da_cons (de_var 2) da_nil))) (blkOk_by (by kernel_rfl)) (fun _ _ _ _ _ => (dg_name 4 hN)) (fun _ _ _ _ _ => dts_nil) (fun _ _ _ _ _ => (d_tup (da_cons (de_var 4) (da_cons (de_dget hu1 (de_var 2) (de_var 4)) da_nil))))) da_nil))))))
theorem ok_is_step (F0 : FnP K "is_step" s_is_step f0 fd0)
    (z_abs : mg "abs" = none)
    (z_len : mg "len" = none)
    (k_MOST_COUNT : gloD K "MOST_COUNT" (.int 1000000000000000000) = true)
    (k_MOST_PUT : gloD K "MOST_PUT" (.int 999) = true)
    (k_PUT : gloD K "PUT" (.str "put") = true)
    (k_TAKE : gloD K "TAKE" (.str "take") = true)
    (k_TIMES : gloD K "TIMES" (.str "times") = true) : FnOk P w K mg base CX0 1 f0 fd0 ["step"] (spF K Hr mg FL.F_is_step) := by
  show FnOk P w K mg base CX0 (0 + 1) f0 fd0 ["step"] (spF K Hr mg (mkF 1 1 c_is_step))
  refine fnM F0 sc_is_step 1 1 rfl rfl fun cdv A outer s0 H E o vs hr => ?_
  have hN := sc_is_step.nd
  have hu : (A.deeper (envOfC "is_step" (defScope s_is_step) s0.heap.objs.size f0 cdv)).units + 100 < cLine := by have := hr.un; omega
  have hu64 : (A.deeper (envOfC "is_step" (defScope s_is_step) s0.heap.objs.size f0 cdv)).units + 64 < cLine := by omega
  have hu1 : (A.deeper (envOfC "is_step" (defScope s_is_step) s0.heap.objs.size f0 cdv)).units + 1 < cLine := by omega
  exact (ds_cons (ds_if (t_cmp (o_eq rfl hu) (d_callB (b_len rfl) z_len bt_len (da_cons (de_var 0) da_nil)) de_int)
  (ds_one (ds_ret de_bool))
  ds_nil)
  (ds_cons (ds_if (t_cmp (o_eq rfl hu) (d_ix rfl (de_var 0) de_int) (d_glo KX G rfl rfl k_PUT))
  (ds_one (ds_ret (de_and (d_cmp (o_eq rfl hu) (d_callB (b_len rfl) z_len bt_len (da_cons (de_var 0) da_nil)) de_int) (de_one (d_cmp o_le (d_callB (b_abs) z_abs bt_abs (da_cons (d_ix rfl (de_var 0) de_int) da_nil)) (d_glo KX G rfl rfl k_MOST_PUT))))))
  ds_nil)
  (ds_cons (ds_if (t_cmp (o_eq rfl hu) (d_ix rfl (de_var 0) de_int) (d_glo KX G rfl rfl k_TIMES))
  (ds_one (ds_ret (de_and (d_cmp (o_eq rfl hu) (d_callB (b_len rfl) z_len bt_len (da_cons (de_var 0) da_nil)) de_int) (de_one (d_chain o_le o_le de_int (d_ix rfl (de_var 0) de_int) (d_glo KX G rfl rfl k_MOST_COUNT))))))
  ds_nil)
  (ds_one (ds_ret (d_cmp (o_eq rfl hu) (de_var 0) (d_tup (da_cons (d_glo KX G rfl rfl k_TAKE) da_nil))))))))
theorem ok_need_steps (F0 : FnP K "need_steps" s_need_steps f0 fd0)
    {f_is_step : Addr} {fd_is_step : FuncData} (F_is_step : FnP K "is_step" s_is_step f_is_step fd_is_step) (G_is_step' : FnOk P w K mg base CX0 1 f_is_step fd_is_step ["step"] (spF K Hr mg FL.F_is_step)) (g_is_step : mg "is_step" = some (.ref f_is_step)) (b_is_step : Binds K fd_is_step ["step"] [])
    (k_MOST_DEEP : gloD K "MOST_DEEP" (.int 3) = true)
    (k_MOST_STEPS : gloD K "MOST_STEPS" (.int 30) = true)
    (k_TIMES : gloD K "TIMES" (.str "times") = true)
    (g_need_steps : mg "need_steps" = some (.ref f0)) (b_need_steps : Binds K fd0 ["steps", "deep", "number"] []) : ∀ n : Nat, FnOk P w K mg base CX0 (1 + n) f0 fd0 ["steps", "deep", "number"] (spF K Hr mg (FL.F_need_steps n))
  | 0 => fn_no
  | n + 1 => by
    have GF := ok_need_steps F0 F_is_step G_is_step' g_is_step b_is_step k_MOST_DEEP k_MOST_STEPS k_TIMES g_need_steps b_need_steps n
    have F_need_steps := F0
    have G_is_step := G_is_step'.mono (show 1 ≤ 1 + n by omega)
    show FnOk P w K mg base CX0 ((1 + n) + 1) f0 fd0 ["steps", "deep", "number"] (spF K Hr mg (mkF 3 4 (c_need_steps (FL.F_need_steps n))))
    refine fnM F0 sc_need_steps 3 4 rfl rfl fun cdv A outer s0 H E o vs hr => ?_
    have hN := sc_need_steps.nd
    have hu : (A.deeper (envOfC "need_steps" (defScope s_need_steps) s0.heap.objs.size f0 cdv)).units + 100 < cLine := by have := hr.un; omega
    have hu64 : (A.deeper (envOfC "need_steps" (defScope s_need_steps) s0.heap.objs.size f0 cdv)).units + 64 < cLine := by omega
    have hu1 : (A.deeper (envOfC "need_steps" (defScope s_need_steps) s0.heap.objs.size f0 cdv)).units + 1 < cLine := by omega
    exact (ds_cons (ds_for PassesOwn.never rfl (di_seq rfl (de_var 0)) (dg_name 3 hN)
    (ds_cons (ds_if (dt_w (dw_or (t_cmp (o_eq rfl hu) (de_var 2) (d_glo KX G rfl rfl k_MOST_STEPS)) (dw_or (t_cmp o_gt (de_var 1) (d_glo KX G rfl rfl k_MOST_DEEP)) (dw_or1 (dt_not (dt_val (de_callF [.r] G_is_step hr g_is_step F_is_step.kp b_is_step pass00 (da_cons (de_var 3) da_nil))))))))
    (ds_one ds_never)
    ds_nil)
    (ds_cons (d_aug 2 hN i_add de_int)
    (ds_one (ds_if (t_cmp (o_eq rfl hu) (d_ix rfl (de_var 3) de_int) (d_glo KX G rfl rfl k_TIMES))
    (ds_one (ds_set 2 hN (de_callF [.r, .r, .r] GF hr g_need_steps F_need_steps.kp b_need_steps pass00 (da_cons (d_ix rfl (de_var 3) de_int) (da_cons (d_bin (o_add rfl) (de_var 1) de_int) (da_cons (de_var 2) da_nil))))))
    ds_nil)))))
    (ds_one (ds_ret (de_var 2))))
theorem ok_need_work (F0 : FnP K "need_work" s_need_work f0 fd0)
    {f_need_steps : Addr} {fd_need_steps : FuncData} (F_need_steps : FnP K "need_steps" s_need_steps f_need_steps fd_need_steps) (G_need_steps' : FnOk P w K mg base CX0 4 f_need_steps fd_need_steps ["steps", "deep", "number"] (spF K Hr mg (FL.F_need_steps 3))) (g_need_steps : mg "need_steps" = some (.ref f_need_steps)) (b_need_steps : Binds K fd_need_steps ["steps", "deep", "number"] []) : FnOk P w K mg base CX0 5 f0 fd0 ["work"] (spF K Hr mg FL.F_need_work) := by
  have G_need_steps := G_need_steps'.mono (show 4 ≤ 4 by omega)
  show FnOk P w K mg base CX0 (4 + 1) f0 fd0 ["work"] (spF K Hr mg (mkF 1 1 c_need_work))
  refine fnM F0 sc_need_work 1 1 rfl rfl fun cdv A outer s0 H E o vs hr => ?_
  have hN := sc_need_work.nd
  have hu : (A.deeper (envOfC "need_work" (defScope s_need_work) s0.heap.objs.size f0 cdv)).units + 100 < cLine := by have := hr.un; omega
  have hu64 : (A.deeper (envOfC "need_work" (defScope s_need_work) s0.heap.objs.size f0 cdv)).units + 64 < cLine := by omega
  have hu1 : (A.deeper (envOfC "need_work" (defScope s_need_work) s0.heap.objs.size f0 cdv)).units + 1 < cLine := by omega
  exact (ds_one (ds_expr (de_callF [.r, .r, .r] G_need_steps hr g_need_steps F_need_steps.kp b_need_steps pass00 (da_cons (de_var 0) (da_cons de_int (da_cons de_int da_nil))))))
theorem ok_bars_of (F0 : FnP K "bars_of" s_bars_of f0 fd0)
    (z_set : mg "set" = none)
    (z_sorted : mg "sorted" = none)
    (k_FAR : gloD K "FAR" (.int 1000000) = true) : FnOk P w K mg base CX0 1 f0 fd0 ["one", "other"] (spF K Hr mg FL.F_bars_of) := by
  show FnOk P w K mg base CX0 (0 + 1) f0 fd0 ["one", "other"] (spF K Hr mg (mkF 2 5 c_bars_of))
  refine fnM F0 sc_bars_of 2 5 rfl rfl fun cdv A outer s0 H E o vs hr => ?_
  have hN := sc_bars_of.nd
  have hu : (A.deeper (envOfC "bars_of" (defScope s_bars_of) s0.heap.objs.size f0 cdv)).units + 100 < cLine := by have := hr.un; omega
  have hu64 : (A.deeper (envOfC "bars_of" (defScope s_bars_of) s0.heap.objs.size f0 cdv)).units + 64 < cLine := by omega
  have hu1 : (A.deeper (envOfC "bars_of" (defScope s_bars_of) s0.heap.objs.size f0 cdv)).units + 1 < cLine := by omega
  exact (ds_cons (ds_set 2 hN (d_lst (da_cons (d_bin o_sub de_int (d_glo KX G rfl rfl k_FAR)) da_nil)))
  (ds_cons (ds_expr (de_extend (i := 2) rfl (pe_var (i := 2) rfl (by first | exact Or.inl rfl | exact Or.inr (Or.inl rfl) | exact Or.inr (Or.inr rfl))) (de_lc (own := [("number", 3), ("count", 4)]) rfl hN (di_seq rfl (d_bin (o_add rfl) (d_ix rfl (de_var 0) de_int) (d_ix rfl (de_var 1) de_int))) (blkOk_by (by kernel_rfl)) (fun _ _ _ _ _ => (dg_tup rfl rfl (dgs_name 3 hN (dgs_name 4 hN dgs_nil)))) (fun _ _ _ _ _ => dts_nil) (fun _ _ _ _ _ => (de_var 3)))))
  (ds_one (ds_ret (de_sortSet rfl rfl rfl z_sorted rfl z_set (de_var 2) (hv := bt_sorted))))))
theorem ok_beyond (F0 : FnP K "beyond" s_beyond f0 fd0)
    (z_sum : mg "sum" = none) : FnOk P w K mg base CX0 1 f0 fd0 ["three", "bar"] (spF K Hr mg FL.F_beyond) := by
  show FnOk P w K mg base CX0 (0 + 1) f0 fd0 ["three", "bar"] (spF K Hr mg (mkF 2 4 c_beyond))
  refine fnM F0 sc_beyond 2 4 rfl rfl fun cdv A outer s0 H E o vs hr => ?_
  have hN := sc_beyond.nd
  have hu : (A.deeper (envOfC "beyond" (defScope s_beyond) s0.heap.objs.size f0 cdv)).units + 100 < cLine := by have := hr.un; omega
  have hu64 : (A.deeper (envOfC "beyond" (defScope s_beyond) s0.heap.objs.size f0 cdv)).units + 64 < cLine := by omega
  have hu1 : (A.deeper (envOfC "beyond" (defScope s_beyond) s0.heap.objs.size f0 cdv)).units + 1 < cLine := by omega
  exact (ds_one (ds_ret (d_bin (o_add rfl) (d_ix rfl (de_var 0) de_int) (d_callB (b_sum rfl rfl) z_sum bt_sum (da_cons (de_lc (own := [("number", 2), ("count", 3)]) rfl hN (di_seq rfl (d_ix rfl (de_var 0) de_int)) (blkOk_by (by kernel_rfl)) (fun _ _ _ _ _ => (dg_tup rfl rfl (dgs_name 2 hN (dgs_name 3 hN dgs_nil)))) (fun _ _ _ _ _ => (dts_one (t_cmp o_gt (de_var 2) (de_var 1)))) (fun _ _ _ _ _ => (de_var 3))) da_nil)))))
theorem ok_parting (F0 : FnP K "parting" s_parting f0 fd0)
    {f_bars_of : Addr} {fd_bars_of : FuncData} (F_bars_of : FnP K "bars_of" s_bars_of f_bars_of fd_bars_of) (G_bars_of' : FnOk P w K mg base CX0 1 f_bars_of fd_bars_of ["one", "other"] (spF K Hr mg FL.F_bars_of)) (g_bars_of : mg "bars_of" = some (.ref f_bars_of)) (b_bars_of : Binds K fd_bars_of ["one", "other"] [])
    {f_beyond : Addr} {fd_beyond : FuncData} (F_beyond : FnP K "beyond" s_beyond f_beyond fd_beyond) (G_beyond' : FnOk P w K mg base CX0 1 f_beyond fd_beyond ["three", "bar"] (spF K Hr mg FL.F_beyond)) (g_beyond : mg "beyond" = some (.ref f_beyond)) (b_beyond : Binds K fd_beyond ["three", "bar"] [])
    (z_min : mg "min" = none)
    (k_FAR : gloD K "FAR" (.int 1000000) = true) : FnOk P w K mg base CX0 2 f0 fd0 ["one", "other"] (spF K Hr mg FL.F_parting) := by
  have G_bars_of := G_bars_of'.mono (show 1 ≤ 1 by omega)
  have G_beyond := G_beyond'.mono (show 1 ≤ 1 by omega)
  show FnOk P w K mg base CX0 (1 + 1) f0 fd0 ["one", "other"] (spF K Hr mg (mkF 2 5 c_parting))
  refine fnM F0 sc_parting 2 5 rfl rfl fun cdv A outer s0 H E o vs hr => ?_
  have hN := sc_parting.nd
  have hu : (A.deeper (envOfC "parting" (defScope s_parting) s0.heap.objs.size f0 cdv)).units + 100 < cLine := by have := hr.un; omega
  have hu64 : (A.deeper (envOfC "parting" (defScope s_parting) s0.heap.objs.size f0 cdv)).units + 64 < cLine := by omega
  have hu1 : (A.deeper (envOfC "parting" (defScope s_parting) s0.heap.objs.size f0 cdv)).units + 1 < cLine := by omega
  exact (ds_cons (ds_if (t_cmp (o_ne rfl hu) (d_ix rfl (de_var 0) de_int) (d_ix rfl (de_var 1) de_int))
  (ds_one (ds_ret (d_tup da_nil)))
  ds_nil)
  (ds_cons (ds_set 2 hN (d_lst da_nil))
  (ds_cons (ds_for PassesOwn.never rfl (di_seq rfl (de_callF [.r, .r] G_bars_of hr g_bars_of F_bars_of.kp b_bars_of pass00 (da_cons (de_var 0) (da_cons (de_var 1) da_nil)))) (dg_name 3 hN)
  (ds_cons (ds_set 4 hN (d_tup (da_cons (de_callF [.r, .r] G_beyond hr g_beyond F_beyond.kp b_beyond pass00 (da_cons (de_var 0) (da_cons (de_var 3) da_nil))) (da_cons (de_callF [.r, .r] G_beyond hr g_beyond F_beyond.kp b_beyond pass00 (da_cons (de_var 1) (da_cons (de_var 3) da_nil))) da_nil))))
  (ds_one (ds_if (t_cmp (o_ne rfl hu) (d_ix rfl (de_var 4) de_int) (d_ix rfl (de_var 4) de_int))
  (ds_one (ds_expr (d_append (i := 2) rfl (pe_var (i := 2) rfl (by first | exact Or.inl rfl | exact Or.inr (Or.inl rfl) | exact Or.inr (Or.inr rfl))) (da_cons (d_bin (o_add rfl) (d_callB (b_minT rfl rfl hu) z_min bt_min (da_cons (de_var 4) da_nil)) de_int) da_nil))))
  ds_nil))))
  (ds_one (ds_ret (de_if (t_cmp (o_ne rfl hu) (de_var 2) (d_lst da_nil)) (d_tup (da_cons (d_tup (da_cons (d_bin o_sub de_int (d_glo KX G rfl rfl k_FAR)) (da_cons (d_callB (b_minT rfl rfl hu) z_min bt_min (da_cons (de_var 2) da_nil)) da_nil))) da_nil)) de_none))))))
theorem ok_both (F0 : FnP K "both" s_both f0 fd0)
    (z_dict : mg "dict" = none)
    (z_sorted : mg "sorted" = none)
    (z_tuple : mg "tuple" = none) : FnOk P w K mg base CX0 1 f0 fd0 ["one", "other"] (spF K Hr mg FL.F_both) := by
  show FnOk P w K mg base CX0 (0 + 1) f0 fd0 ["one", "other"] (spF K Hr mg (mkF 2 5 c_both))
  refine fnM F0 sc_both 2 5 rfl rfl fun cdv A outer s0 H E o vs hr => ?_
  have hN := sc_both.nd
  have hu : (A.deeper (envOfC "both" (defScope s_both) s0.heap.objs.size f0 cdv)).units + 100 < cLine := by have := hr.un; omega
  have hu64 : (A.deeper (envOfC "both" (defScope s_both) s0.heap.objs.size f0 cdv)).units + 64 < cLine := by omega
  have hu1 : (A.deeper (envOfC "both" (defScope s_both) s0.heap.objs.size f0 cdv)).units + 1 < cLine := by omega
  exact (ds_cons (ds_set 2 hN (d_callT (b_dict rfl rfl) z_dict bt_dict (da_cons (de_var 0) da_nil)))
  (ds_cons (ds_for PassesOwn.never rfl (di_seq rfl (de_var 1)) (dg_tup rfl rfl (dgs_name 3 hN (dgs_name 4 hN dgs_nil)))
  (ds_one (ds_dput (i := 2) hu1 (pe_var (i := 2) rfl (by first | exact Or.inl rfl | exact Or.inr (Or.inl rfl) | exact Or.inr (Or.inr rfl))) (de_var 3) (d_bin (o_add rfl) (de_dget2 hu1 (de_var 2) (de_var 3) de_int) (de_var 4)))))
  (ds_one (ds_ret (d_callT (b_tuple rfl) z_tuple bt_tuple (da_cons (de_sortIt rfl hu64 rfl z_sorted (de_var 2) (hv := bt_sorted)) da_nil))))))
theorem ok_parted (F0 : FnP K "parted" s_parted f0 fd0)
    (z_int : mg "int" = none)
    (z_min : mg "min" = none)
    (z_tuple : mg "tuple" = none) : FnOk P w K mg base CX0 1 f0 fd0 ["heap", "many"] (spF K Hr mg FL.F_parted) := by
  show FnOk P w K mg base CX0 (0 + 1) f0 fd0 ["heap", "many"] (spF K Hr mg (mkF 2 7 c_parted))
  refine fnM F0 sc_parted 2 7 rfl rfl fun cdv A outer s0 H E o vs hr => ?_
  have hN := sc_parted.nd
  have hu : (A.deeper (envOfC "parted" (defScope s_parted) s0.heap.objs.size f0 cdv)).units + 100 < cLine := by have := hr.un; omega
  have hu64 : (A.deeper (envOfC "parted" (defScope s_parted) s0.heap.objs.size f0 cdv)).units + 64 < cLine := by omega
  have hu1 : (A.deeper (envOfC "parted" (defScope s_parted) s0.heap.objs.size f0 cdv)).units + 1 < cLine := by omega
  exact (ds_cons (ds_par2 2 3 rfl hN (da_cons (d_lst da_nil) (da_cons (d_lst da_nil) da_nil)))
  (ds_cons (ds_for PassesOwn.never rfl (di_seq rfl (de_var 0)) (dg_tup rfl rfl (dgs_name 4 hN (dgs_name 5 hN dgs_nil)))
  (ds_cons (ds_set 6 hN (d_callB (b_min rfl rfl) z_min bt_min (da_cons (de_var 5) (da_cons (de_var 1) da_nil))))
  (ds_cons (d_aug 1 hN i_sub (de_var 6))
  (ds_cons (ds_expr (de_extend (i := 2) rfl (pe_var (i := 2) rfl (by first | exact Or.inl rfl | exact Or.inr (Or.inl rfl) | exact Or.inr (Or.inr rfl))) (d_bin o_mul (d_lst (da_cons (d_tup (da_cons (de_var 4) (da_cons (de_var 6) da_nil))) da_nil)) (d_callT (b_int) z_int bt_int (da_cons (d_cmp o_gt (de_var 6) de_int) da_nil)))))
  (ds_one (ds_expr (de_extend (i := 3) rfl (pe_var (i := 3) rfl (by first | exact Or.inl rfl | exact Or.inr (Or.inl rfl) | exact Or.inr (Or.inr rfl))) (d_bin o_mul (d_lst (da_cons (d_tup (da_cons (de_var 4) (da_cons (d_bin o_sub (de_var 5) (de_var 6)) da_nil))) da_nil)) (d_callT (b_int) z_int bt_int (da_cons (d_cmp o_gt (de_var 5) (de_var 6)) da_nil))))))))))
  (ds_one (ds_ret (d_tup (da_cons (d_callT (b_tuple rfl) z_tuple bt_tuple (da_cons (de_var 2) da_nil)) (da_cons (d_callT (b_tuple rfl) z_tuple bt_tuple (da_cons (de_var 3) da_nil)) (da_cons (de_var 1) da_nil))))))))
theorem ok_size_of (F0 : FnP K "size_of" s_size_of f0 fd0)
    (z_sum : mg "sum" = none) : FnOk P w K mg base CX0 1 f0 fd0 ["heap"] (spF K Hr mg FL.F_size_of) := by
  show FnOk P w K mg base CX0 (0 + 1) f0 fd0 ["heap"] (spF K Hr mg (mkF 1 3 c_size_of))
  refine fnM F0 sc_size_of 1 3 rfl rfl fun cdv A outer s0 H E o vs hr => ?_
  have hN := sc_size_of.nd
  have hu : (A.deeper (envOfC "size_of" (defScope s_size_of) s0.heap.objs.size f0 cdv)).units + 100 < cLine := by have := hr.un; omega
  have hu64 : (A.deeper (envOfC "size_of" (defScope s_size_of) s0.heap.objs.size f0 cdv)).units + 64 < cLine := by omega
  have hu1 : (A.deeper (envOfC "size_of" (defScope s_size_of) s0.heap.objs.size f0 cdv)).units + 1 < cLine := by omega
  exact (ds_one (ds_ret (d_callB (b_sum rfl rfl) z_sum bt_sum (da_cons (de_lc (own := [("number", 1), ("count", 2)]) rfl hN (di_seq rfl (de_var 0)) (blkOk_by (by kernel_rfl)) (fun _ _ _ _ _ => (dg_tup rfl rfl (dgs_name 1 hN (dgs_name 2 hN dgs_nil)))) (fun _ _ _ _ _ => dts_nil) (fun _ _ _ _ _ => (de_var 2))) da_nil))))
theorem ok_behind (F0 : FnP K "behind" s_behind f0 fd0)
    {f_parted : Addr} {fd_parted : FuncData} (F_parted : FnP K "parted" s_parted f_parted fd_parted) (G_parted' : FnOk P w K mg base CX0 1 f_parted fd_parted ["heap", "many"] (spF K Hr mg FL.F_parted)) (g_parted : mg "parted" = some (.ref f_parted)) (b_parted : Binds K fd_parted ["heap", "many"] [])
    {f_size_of : Addr} {fd_size_of : FuncData} (F_size_of : FnP K "size_of" s_size_of f_size_of fd_size_of) (G_size_of' : FnOk P w K mg base CX0 1 f_size_of fd_size_of ["heap"] (spF K Hr mg FL.F_size_of)) (g_size_of : mg "size_of" = some (.ref f_size_of)) (b_size_of : Binds K fd_size_of ["heap"] [])
    {f_both : Addr} {fd_both : FuncData} (F_both : FnP K "both" s_both f_both fd_both) (G_both' : FnOk P w K mg base CX0 1 f_both fd_both ["one", "other"] (spF K Hr mg FL.F_both)) (g_both : mg "both" = some (.ref f_both)) (b_both : Binds K fd_both ["one", "other"] []) : FnOk P w K mg base CX0 2 f0 fd0 ["one", "other"] (spF K Hr mg FL.F_behind) := by
  have G_parted := G_parted'.mono (show 1 ≤ 1 by omega)
  have G_size_of := G_size_of'.mono (show 1 ≤ 1 by omega)
  have G_both := G_both'.mono (show 1 ≤ 1 by omega)
  show FnOk P w K mg base CX0 (1 + 1) f0 fd0 ["one", "other"] (spF K Hr mg (mkF 2 10 c_behind))
  refine fnM F0 sc_behind 2 10 rfl rfl fun cdv A outer s0 H E o vs hr => ?_
  have hN := sc_behind.nd
  have hu : (A.deeper (envOfC "behind" (defScope s_behind) s0.heap.objs.size f0 cdv)).units + 100 < cLine := by have := hr.un; omega
  have hu64 : (A.deeper (envOfC "behind" (defScope s_behind) s0.heap.objs.size f0 cdv)).units + 64 < cLine := by omega
  have hu1 : (A.deeper (envOfC "behind" (defScope s_behind) s0.heap.objs.size f0 cdv)).units + 1 < cLine := by omega
  exact (ds_cons (ds_asg (de_var 0) (dg_tup rfl rfl (dgs_name 2 hN (dgs_name 3 hN (dgs_name 4 hN dgs_nil)))))
  (ds_cons (ds_asg (de_callF [.r, .r] G_parted hr g_parted F_parted.kp b_parted pass00 (da_cons (de_var 2) (da_cons (d_ix rfl (de_var 1) de_int) da_nil))) (dg_tup rfl rfl (dgs_name 5 hN (dgs_name 6 hN (dgs_name 7 hN dgs_nil)))))
  (ds_cons (ds_asg (de_callF [.r, .r] G_parted hr g_parted F_parted.kp b_parted pass00 (da_cons (de_callF [.r, .r] G_both hr g_both F_both.kp b_both pass00 (da_cons (de_var 6) (da_cons (d_ix rfl (de_var 1) de_int) da_nil))) (da_cons (de_callF [.r] G_size_of hr g_size_of F_size_of.kp b_size_of pass00 (da_cons (d_ix rfl (de_var 1) de_int) da_nil)) da_nil))) (dg_tup rfl rfl (dgs_name 8 hN (dgs_name 6 hN (dgs_name 9 hN dgs_nil)))))
  (ds_one (ds_ret (d_tup (da_cons (de_callF [.r, .r] G_both hr g_both F_both.kp b_both pass00 (da_cons (de_var 6) (da_cons (d_ix rfl (de_var 1) de_int) da_nil))) (da_cons (de_callF [.r, .r] G_both hr g_both F_both.kp b_both pass00 (da_cons (de_callF [.r, .r] G_both hr g_both F_both.kp b_both pass00 (da_cons (de_var 3) (da_cons (de_var 5) da_nil))) (da_cons (de_var 8) da_nil))) (da_cons (d_bin (o_add rfl) (de_var 4) (de_var 7)) da_nil)))))))))
theorem ok_power (F0 : FnP K "power" s_power f0 fd0)
    {f_behind : Addr} {fd_behind : FuncData} (F_behind : FnP K "behind" s_behind f_behind fd_behind) (G_behind' : FnOk P w K mg base CX0 2 f_behind fd_behind ["one", "other"] (spF K Hr mg FL.F_behind)) (g_behind : mg "behind" = some (.ref f_behind)) (b_behind : Binds K fd_behind ["one", "other"] [])
    (k_NOTHING : gloD K "NOTHING" (.tuple [(.tuple []), (.tuple []), (.int 0)]) = true) : FnOk P w K mg base CX0 3 f0 fd0 ["three", "many"] (spF K Hr mg FL.F_power) := by
  have G_behind := G_behind'.mono (show 2 ≤ 2 by omega)
  show FnOk P w K mg base CX0 (2 + 1) f0 fd0 ["three", "many"] (spF K Hr mg (mkF 2 3 c_power))
  refine fnM F0 sc_power 2 3 rfl rfl fun cdv A outer s0 H E o vs hr => ?_
  have hN := sc_power.nd
  have hu : (A.deeper (envOfC "power" (defScope s_power) s0.heap.objs.size f0 cdv)).units + 100 < cLine := by have := hr.un; omega
  have hu64 : (A.deeper (envOfC "power" (defScope s_power) s0.heap.objs.size f0 cdv)).units + 64 < cLine := by omega
  have hu1 : (A.deeper (envOfC "power" (defScope s_power) s0.heap.objs.size f0 cdv)).units + 1 < cLine := by omega
  exact (ds_cons (ds_set 2 hN (d_glo KX G rfl rfl k_NOTHING))
  (ds_cons (ds_while 64 PassesOwn.never (t_cmp o_gt (de_var 1) de_int)
  (ds_cons (ds_if (t_cmp (o_eq rfl hu) (d_bin o_mod (de_var 1) de_int) de_int)
  (ds_one (ds_set 2 hN (de_callF [.r, .r] G_behind hr g_behind F_behind.kp b_behind pass00 (da_cons (de_var 2) (da_cons (de_var 0) da_nil)))))
  ds_nil)
  (ds_cons (ds_set 0 hN (de_callF [.r, .r] G_behind hr g_behind F_behind.kp b_behind pass00 (da_cons (de_var 0) (da_cons (de_var 0) da_nil))))
  (ds_one (d_aug 1 hN i_fdiv de_int)))))
  (ds_one (ds_ret (de_var 2)))))
theorem ok_three_of (F0 : FnP K "three_of" s_three_of f0 fd0)
    {f_power : Addr} {fd_power : FuncData} (F_power : FnP K "power" s_power f_power fd_power) (G_power' : FnOk P w K mg base CX0 3 f_power fd_power ["three", "many"] (spF K Hr mg FL.F_power)) (g_power : mg "power" = some (.ref f_power)) (b_power : Binds K fd_power ["three", "many"] [])
    {f_behind : Addr} {fd_behind : FuncData} (F_behind : FnP K "behind" s_behind f_behind fd_behind) (G_behind' : FnOk P w K mg base CX0 2 f_behind fd_behind ["one", "other"] (spF K Hr mg FL.F_behind)) (g_behind : mg "behind" = some (.ref f_behind)) (b_behind : Binds K fd_behind ["one", "other"] [])
    (k_NOTHING : gloD K "NOTHING" (.tuple [(.tuple []), (.tuple []), (.int 0)]) = true)
    (k_PUT : gloD K "PUT" (.str "put") = true)
    (k_TAKE : gloD K "TAKE" (.str "take") = true)
    (g_three_of : mg "three_of" = some (.ref f0)) (b_three_of : Binds K fd0 ["steps"] []) : ∀ n : Nat, FnOk P w K mg base CX0 (3 + n) f0 fd0 ["steps"] (spF K Hr mg (FL.F_three_of n))
  | 0 => fn_no
  | n + 1 => by
    have GF := ok_three_of F0 F_power G_power' g_power b_power F_behind G_behind' g_behind b_behind k_NOTHING k_PUT k_TAKE g_three_of b_three_of n
    have F_three_of := F0
    have G_power := G_power'.mono (show 3 ≤ 3 + n by omega)
    have G_behind := G_behind'.mono (show 2 ≤ 3 + n by omega)
    show FnOk P w K mg base CX0 ((3 + n) + 1) f0 fd0 ["steps"] (spF K Hr mg (mkF 1 4 (c_three_of (FL.F_three_of n))))
    refine fnM F0 sc_three_of 1 4 rfl rfl fun cdv A outer s0 H E o vs hr => ?_
    have hN := sc_three_of.nd
    have hu : (A.deeper (envOfC "three_of" (defScope s_three_of) s0.heap.objs.size f0 cdv)).units + 100 < cLine := by have := hr.un; omega
    have hu64 : (A.deeper (envOfC "three_of" (defScope s_three_of) s0.heap.objs.size f0 cdv)).units + 64 < cLine := by omega
    have hu1 : (A.deeper (envOfC "three_of" (defScope s_three_of) s0.heap.objs.size f0 cdv)).units + 1 < cLine := by omega
    exact (ds_cons (ds_set 1 hN (d_glo KX G rfl rfl k_NOTHING))
    (ds_cons (ds_for PassesOwn.never rfl (di_seq rfl (de_var 0)) (dg_name 2 hN)
    (ds_cons (ds_if (t_cmp (o_eq rfl hu) (d_ix rfl (de_var 2) de_int) (d_glo KX G rfl rfl k_PUT))
    (ds_one (ds_set 3 hN (d_tup (da_cons (d_tup (da_cons (d_tup (da_cons (d_ix rfl (de_var 2) de_int) (da_cons de_int da_nil))) da_nil)) (da_cons (d_tup da_nil) (da_cons de_int da_nil))))))
    (ds_one (ds_if (t_cmp (o_eq rfl hu) (d_ix rfl (de_var 2) de_int) (d_glo KX G rfl rfl k_TAKE))
    (ds_one (ds_set 3 hN (d_tup (da_cons (d_tup da_nil) (da_cons (d_tup da_nil) (da_cons de_int da_nil))))))
    (ds_one (ds_set 3 hN (de_callF [.r, .r] G_power hr g_power F_power.kp b_power pass00 (da_cons (de_callF [.r] GF hr g_three_of F_three_of.kp b_three_of pass00 (da_cons (d_ix rfl (de_var 2) de_int) da_nil)) (da_cons (d_ix rfl (de_var 2) de_int) da_nil))))))))
    (ds_one (ds_set 1 hN (de_callF [.r, .r] G_behind hr g_behind F_behind.kp b_behind pass00 (da_cons (de_var 1) (da_cons (de_var 3) da_nil)))))))
    (ds_one (ds_ret (de_var 1)))))
theorem ok_alike (F0 : FnP K "alike" s_alike f0 fd0)
    {f_need_work : Addr} {fd_need_work : FuncData} (F_need_work : FnP K "need_work" s_need_work f_need_work fd_need_work) (G_need_work' : FnOk P w K mg base CX0 5 f_need_work fd_need_work ["work"] (spF K Hr mg FL.F_need_work)) (g_need_work : mg "need_work" = some (.ref f_need_work)) (b_need_work : Binds K fd_need_work ["work"] [])
    {f_three_of : Addr} {fd_three_of : FuncData} (F_three_of : FnP K "three_of" s_three_of f_three_of fd_three_of) (G_three_of' : FnOk P w K mg base CX0 6 f_three_of fd_three_of ["steps"] (spF K Hr mg (FL.F_three_of 3))) (g_three_of : mg "three_of" = some (.ref f_three_of)) (b_three_of : Binds K fd_three_of ["steps"] [])
    {f_parting : Addr} {fd_parting : FuncData} (F_parting : FnP K "parting" s_parting f_parting fd_parting) (G_parting' : FnOk P w K mg base CX0 2 f_parting fd_parting ["one", "other"] (spF K Hr mg FL.F_parting)) (g_parting : mg "parting" = some (.ref f_parting)) (b_parting : Binds K fd_parting ["one", "other"] []) : FnOk P w K mg base CX0 7 f0 fd0 ["one", "other"] (spF K Hr mg FL.F_alike) := by
  have G_need_work := G_need_work'.mono (show 5 ≤ 6 by omega)
  have G_three_of := G_three_of'.mono (show 6 ≤ 6 by omega)
  have G_parting := G_parting'.mono (show 2 ≤ 6 by omega)
  show FnOk P w K mg base CX0 (6 + 1) f0 fd0 ["one", "other"] (spF K Hr mg (mkF 2 2 c_alike))
  refine fnM F0 sc_alike 2 2 rfl rfl fun cdv A outer s0 H E o vs hr => ?_
  have hN := sc_alike.nd
  have hu : (A.deeper (envOfC "alike" (defScope s_alike) s0.heap.objs.size f0 cdv)).units + 100 < cLine := by have := hr.un; omega
  have hu64 : (A.deeper (envOfC "alike" (defScope s_alike) s0.heap.objs.size f0 cdv)).units + 64 < cLine := by omega
  have hu1 : (A.deeper (envOfC "alike" (defScope s_alike) s0.heap.objs.size f0 cdv)).units + 1 < cLine := by omega
  exact (ds_cons (ds_expr (de_callF [.r] G_need_work hr g_need_work F_need_work.kp b_need_work pass00 (da_cons (de_var 0) da_nil)))
  (ds_cons (ds_expr (de_callF [.r] G_need_work hr g_need_work F_need_work.kp b_need_work pass00 (da_cons (de_var 1) da_nil)))
  (ds_one (ds_ret (de_callF [.r, .r] G_parting hr g_parting F_parting.kp b_parting pass00 (da_cons (de_callF [.r] G_three_of hr g_three_of F_three_of.kp b_three_of pass00 (da_cons (de_var 0) da_nil)) (da_cons (de_callF [.r] G_three_of hr g_three_of F_three_of.kp b_three_of pass00 (da_cons (de_var 1) da_nil)) da_nil)))))))
theorem ok_heaps (F0 : FnP K "heaps" s_heaps f0 fd0)
    {f_need_work : Addr} {fd_need_work : FuncData} (F_need_work : FnP K "need_work" s_need_work f_need_work fd_need_work) (G_need_work' : FnOk P w K mg base CX0 5 f_need_work fd_need_work ["work"] (spF K Hr mg FL.F_need_work)) (g_need_work : mg "need_work" = some (.ref f_need_work)) (b_need_work : Binds K fd_need_work ["work"] [])
    {f_three_of : Addr} {fd_three_of : FuncData} (F_three_of : FnP K "three_of" s_three_of f_three_of fd_three_of) (G_three_of' : FnOk P w K mg base CX0 6 f_three_of fd_three_of ["steps"] (spF K Hr mg (FL.F_three_of 3))) (g_three_of : mg "three_of" = some (.ref f_three_of)) (b_three_of : Binds K fd_three_of ["steps"] []) : FnOk P w K mg base CX0 7 f0 fd0 ["work"] (spF K Hr mg FL.F_heaps) := by
  have G_need_work := G_need_work'.mono (show 5 ≤ 6 by omega)
  have G_three_of := G_three_of'.mono (show 6 ≤ 6 by omega)
  show FnOk P w K mg base CX0 (6 + 1) f0 fd0 ["work"] (spF K Hr mg (mkF 1 1 c_heaps))
  refine fnM F0 sc_heaps 1 1 rfl rfl fun cdv A outer s0 H E o vs hr => ?_
  have hN := sc_heaps.nd
  have hu : (A.deeper (envOfC "heaps" (defScope s_heaps) s0.heap.objs.size f0 cdv)).units + 100 < cLine := by have := hr.un; omega
  have hu64 : (A.deeper (envOfC "heaps" (defScope s_heaps) s0.heap.objs.size f0 cdv)).units + 64 < cLine := by omega
  have hu1 : (A.deeper (envOfC "heaps" (defScope s_heaps) s0.heap.objs.size f0 cdv)).units + 1 < cLine := by omega
  exact (ds_cons (ds_expr (de_callF [.r] G_need_work hr g_need_work F_need_work.kp b_need_work pass00 (da_cons (de_var 0) da_nil)))
  (ds_one (ds_ret (de_callF [.r] G_three_of hr g_three_of F_three_of.kp b_three_of pass00 (da_cons (de_var 0) da_nil)))))
theorem ok_done (F0 : FnP K "done" s_done f0 fd0)
    {f_behind : Addr} {fd_behind : FuncData} (F_behind : FnP K "behind" s_behind f_behind fd_behind) (G_behind' : FnOk P w K mg base CX0 2 f_behind fd_behind ["one", "other"] (spF K Hr mg FL.F_behind)) (g_behind : mg "behind" = some (.ref f_behind)) (b_behind : Binds K fd_behind ["one", "other"] []) : FnOk P w K mg base CX0 3 f0 fd0 ["three", "store"] (spF K Hr mg FL.F_done) := by
  have G_behind := G_behind'.mono (show 2 ≤ 2 by omega)
  show FnOk P w K mg base CX0 (2 + 1) f0 fd0 ["three", "store"] (spF K Hr mg (mkF 2 2 c_done))
  refine fnM F0 sc_done 2 2 rfl rfl fun cdv A outer s0 H E o vs hr => ?_
  have hN := sc_done.nd
  have hu : (A.deeper (envOfC "done" (defScope s_done) s0.heap.objs.size f0 cdv)).units + 100 < cLine := by have := hr.un; omega
  have hu64 : (A.deeper (envOfC "done" (defScope s_done) s0.heap.objs.size f0 cdv)).units + 64 < cLine := by omega
  have hu1 : (A.deeper (envOfC "done" (defScope s_done) s0.heap.objs.size f0 cdv)).units + 1 < cLine := by omega
  exact (ds_one (ds_ret (de_callF [.r, .r] G_behind hr g_behind F_behind.kp b_behind pass00 (da_cons (d_tup (da_cons (de_var 1) (da_cons (d_tup da_nil) (da_cons de_int da_nil)))) (da_cons (de_var 0) da_nil)))))
theorem ok_bad_place (F0 : FnP K "bad_place" s_bad_place f0 fd0)
    (z_enumerate : mg "enumerate" = none)
    (k_MOST_COUNT : gloD K "MOST_COUNT" (.int 1000000000000000000) = true)
    (k_MOST_PAIRS : gloD K "MOST_PAIRS" (.int 40) = true) : FnOk P w K mg base CX0 1 f0 fd0 ["heap", "far"] (spF K Hr mg FL.F_bad_place) := by
  show FnOk P w K mg base CX0 (0 + 1) f0 fd0 ["heap", "far"] (spF K Hr mg (mkF 2 5 c_bad_place))
  refine fnM F0 sc_bad_place 2 5 rfl rfl fun cdv A outer s0 H E o vs hr => ?_
  have hN := sc_bad_place.nd
  have hu : (A.deeper (envOfC "bad_place" (defScope s_bad_place) s0.heap.objs.size f0 cdv)).units + 100 < cLine := by have := hr.un; omega
  have hu64 : (A.deeper (envOfC "bad_place" (defScope s_bad_place) s0.heap.objs.size f0 cdv)).units + 64 < cLine := by omega
  have hu1 : (A.deeper (envOfC "bad_place" (defScope s_bad_place) s0.heap.objs.size f0 cdv)).units + 1 < cLine := by omega
  exact (ds_cons (ds_for PassesOwn.never rfl (di_enum rfl rfl z_enumerate (da_cons (de_var 0) da_nil)) (dg_tup rfl rfl (dgs_name 2 hN (dgs_cons (dg_tup rfl rfl (dgs_name 3 hN (dgs_name 4 hN dgs_nil))) dgs_nil)))
  (ds_cons (ds_if (dt_w (dw_or (t_cmp (o_eq rfl hu) (de_var 2) (d_glo KX G rfl rfl k_MOST_PAIRS)) (dw_or (dt_not (t_chain o_le o_le (d_bin o_sub de_int (de_var 1)) (de_var 3) (de_var 1))) (dw_or1 (dt_not (t_chain o_le o_le de_int (de_var 4) (d_glo KX G rfl rfl k_MOST_COUNT)))))))
  (ds_one (ds_ret (de_var 2)))
  ds_nil)
  (ds_one (ds_if (dt_w (dw_and (t_cmp o_gt (de_var 2) de_int) (dw_and1 (t_cmp o_ge (d_ix rfl (d_ix rfl (de_var 0) (d_bin o_sub (de_var 2) de_int)) de_int) (de_var 3)))))
  (ds_one (ds_ret (de_var 2)))
  ds_nil))))
  (ds_one (ds_ret de_none)))
theorem ok_need_heap (F0 : FnP K "need_heap" s_need_heap f0 fd0)
    {f_bad_place : Addr} {fd_bad_place : FuncData} (F_bad_place : FnP K "bad_place" s_bad_place f_bad_place fd_bad_place) (G_bad_place' : FnOk P w K mg base CX0 1 f_bad_place fd_bad_place ["heap", "far"] (spF K Hr mg FL.F_bad_place)) (g_bad_place : mg "bad_place" = some (.ref f_bad_place)) (b_bad_place : Binds K fd_bad_place ["heap", "far"] [])
    (k_FAR : gloD K "FAR" (.int 1000000) = true) : FnOk P w K mg base CX0 2 f0 fd0 ["heap"] (spF K Hr mg FL.F_need_heap) := by
  have G_bad_place := G_bad_place'.mono (show 1 ≤ 1 by omega)
  show FnOk P w K mg base CX0 (1 + 1) f0 fd0 ["heap"] (spF K Hr mg (mkF 1 2 c_need_heap))
  refine fnM F0 sc_need_heap 1 2 rfl rfl fun cdv A outer s0 H E o vs hr => ?_
  have hN := sc_need_heap.nd
  have hu : (A.deeper (envOfC "need_heap" (defScope s_need_heap) s0.heap.objs.size f0 cdv)).units + 100 < cLine := by have := hr.un; omega
  have hu64 : (A.deeper (envOfC "need_heap" (defScope s_need_heap) s0.heap.objs.size f0 cdv)).units + 64 < cLine := by omega
  have hu1 : (A.deeper (envOfC "need_heap" (defScope s_need_heap) s0.heap.objs.size f0 cdv)).units + 1 < cLine := by omega
  exact (ds_cons (ds_set 1 hN (de_callF [.r, .r] G_bad_place hr g_bad_place F_bad_place.kp b_bad_place pass00 (da_cons (de_var 0) (da_cons (d_glo KX G rfl rfl k_FAR) da_nil))))
  (ds_one (ds_if (t_cmp o_isnot (de_var 1) de_none)
  (ds_one ds_never)
  ds_nil)))
theorem ok_run (F0 : FnP K "run" s_run f0 fd0)
    {f_need_work : Addr} {fd_need_work : FuncData} (F_need_work : FnP K "need_work" s_need_work f_need_work fd_need_work) (G_need_work' : FnOk P w K mg base CX0 5 f_need_work fd_need_work ["work"] (spF K Hr mg FL.F_need_work)) (g_need_work : mg "need_work" = some (.ref f_need_work)) (b_need_work : Binds K fd_need_work ["work"] [])
    {f_need_heap : Addr} {fd_need_heap : FuncData} (F_need_heap : FnP K "need_heap" s_need_heap f_need_heap fd_need_heap) (G_need_heap' : FnOk P w K mg base CX0 2 f_need_heap fd_need_heap ["heap"] (spF K Hr mg FL.F_need_heap)) (g_need_heap : mg "need_heap" = some (.ref f_need_heap)) (b_need_heap : Binds K fd_need_heap ["heap"] [])
    {f_three_of : Addr} {fd_three_of : FuncData} (F_three_of : FnP K "three_of" s_three_of f_three_of fd_three_of) (G_three_of' : FnOk P w K mg base CX0 6 f_three_of fd_three_of ["steps"] (spF K Hr mg (FL.F_three_of 3))) (g_three_of : mg "three_of" = some (.ref f_three_of)) (b_three_of : Binds K fd_three_of ["steps"] [])
    {f_done : Addr} {fd_done : FuncData} (F_done : FnP K "done" s_done f_done fd_done) (G_done' : FnOk P w K mg base CX0 3 f_done fd_done ["three", "store"] (spF K Hr mg FL.F_done)) (g_done : mg "done" = some (.ref f_done)) (b_done : Binds K fd_done ["three", "store"] []) : FnOk P w K mg base CX0 7 f0 fd0 ["work", "store"] (spF K Hr mg FL.F_run) := by
  have G_need_work := G_need_work'.mono (show 5 ≤ 6 by omega)
  have G_need_heap := G_need_heap'.mono (show 2 ≤ 6 by omega)
  have G_three_of := G_three_of'.mono (show 6 ≤ 6 by omega)
  have G_done := G_done'.mono (show 3 ≤ 6 by omega)
  show FnOk P w K mg base CX0 (6 + 1) f0 fd0 ["work", "store"] (spF K Hr mg (mkF 2 2 c_run))
  refine fnM F0 sc_run 2 2 rfl rfl fun cdv A outer s0 H E o vs hr => ?_
  have hN := sc_run.nd
  have hu : (A.deeper (envOfC "run" (defScope s_run) s0.heap.objs.size f0 cdv)).units + 100 < cLine := by have := hr.un; omega
  have hu64 : (A.deeper (envOfC "run" (defScope s_run) s0.heap.objs.size f0 cdv)).units + 64 < cLine := by omega
  have hu1 : (A.deeper (envOfC "run" (defScope s_run) s0.heap.objs.size f0 cdv)).units + 1 < cLine := by omega
  exact (ds_cons (ds_expr (de_callF [.r] G_need_work hr g_need_work F_need_work.kp b_need_work pass00 (da_cons (de_var 0) da_nil)))
  (ds_cons (ds_expr (de_callF [.r] G_need_heap hr g_need_heap F_need_heap.kp b_need_heap pass00 (da_cons (de_var 1) da_nil)))
  (ds_one (ds_ret (d_ix rfl (de_callF [.r, .r] G_done hr g_done F_done.kp b_done pass00 (da_cons (de_callF [.r] G_three_of hr g_three_of F_three_of.kp b_three_of pass00 (da_cons (de_var 0) da_nil)) (da_cons (de_var 1) da_nil))) de_int)))))
theorem ok_law (F0 : FnP K "law" s_law f0 fd0)
    {f__law_dice : Addr} {fd__law_dice : FuncData} (F__law_dice : FnP K "_law_dice" s__law_dice f__law_dice fd__law_dice) (G__law_dice' : FnOk P w K mg base CX0 1 f__law_dice fd__law_dice ["_law_script"] (spF K Hr mg FL.F__law_dice)) (g__law_dice : mg "_law_dice" = some (.ref f__law_dice)) (b__law_dice : Binds K fd__law_dice ["_law_script"] [])
    {f__law_single : Addr} {fd__law_single : FuncData} (F__law_single : FnP K "_law_single" s__law_single f__law_single fd__law_single) (G__law_single' : FnOk P w K mg base CX0 2 f__law_single fd__law_single ["_law_d", "_law_most_of"] (spF K Hr mg FL.F__law_single)) (g__law_single : mg "_law_single" = some (.ref f__law_single)) (b__law_single : Binds K fd__law_single ["_law_d", "_law_most_of"] [])
    {f__law_next : Addr} {fd__law_next : FuncData} (F__law_next : FnP K "_law_next" s__law_next f__law_next fd__law_next) (G__law_next' : FnOk P w K mg base CX0 1 f__law_next fd__law_next ["_law_dice_here", "_law_many"] (spF K Hr mg FL.F__law_next)) (g__law_next : mg "_law_next" = some (.ref f__law_next)) (b__law_next : Binds K fd__law_next ["_law_dice_here", "_law_many"] [])
    {f__law_orders : Addr} {fd__law_orders : FuncData} (F__law_orders : FnP K "_law_orders" s__law_orders f__law_orders fd__law_orders) (G__law_orders' : FnOk P w K mg base CX0 6 f__law_orders fd__law_orders ["_law_single_here"] (spF K Hr mg (FL.F__law_orders 6))) (g__law_orders : mg "_law_orders" = some (.ref f__law_orders)) (b__law_orders : Binds K fd__law_orders ["_law_single_here"] [])
    {f__law_pick : Addr} {fd__law_pick : FuncData} (F__law_pick : FnP K "_law_pick" s__law_pick f__law_pick fd__law_pick) (G__law_pick' : FnOk P w K mg base CX0 2 f__law_pick fd__law_pick ["_law_d", "_law_some"] (spF K Hr mg FL.F__law_pick)) (g__law_pick : mg "_law_pick" = some (.ref f__law_pick)) (b__law_pick : Binds K fd__law_pick ["_law_d", "_law_some"] [])
    {f_alike : Addr} {fd_alike : FuncData} (F_alike : FnP K "alike" s_alike f_alike fd_alike) (G_alike' : FnOk P w K mg base CX0 7 f_alike fd_alike ["one", "other"] (spF K Hr mg FL.F_alike)) (g_alike : mg "alike" = some (.ref f_alike)) (b_alike : Binds K fd_alike ["one", "other"] [])
    {f__law_store : Addr} {fd__law_store : FuncData} (F__law_store : FnP K "_law_store" s__law_store f__law_store fd__law_store) (G__law_store' : FnOk P w K mg base CX0 3 f__law_store fd__law_store ["_law_d", "_law_far"] (spF K Hr mg FL.F__law_store)) (g__law_store : mg "_law_store" = some (.ref f__law_store)) (b__law_store : Binds K fd__law_store ["_law_d", "_law_far"] [])
    {f_run : Addr} {fd_run : FuncData} (F_run : FnP K "run" s_run f_run fd_run) (G_run' : FnOk P w K mg base CX0 7 f_run fd_run ["work", "store"] (spF K Hr mg FL.F_run)) (g_run : mg "run" = some (.ref f_run)) (b_run : Binds K fd_run ["work", "store"] [])
    {f__law_size : Addr} {fd__law_size : FuncData} (F__law_size : FnP K "_law_size" s__law_size f__law_size fd__law_size) (G__law_size' : FnOk P w K mg base CX0 1 f__law_size fd__law_size ["_law_heap"] (spF K Hr mg FL.F__law_size)) (g__law_size : mg "_law_size" = some (.ref f__law_size)) (b__law_size : Binds K fd__law_size ["_law_heap"] [])
    {f_heaps : Addr} {fd_heaps : FuncData} (F_heaps : FnP K "heaps" s_heaps f_heaps fd_heaps) (G_heaps' : FnOk P w K mg base CX0 7 f_heaps fd_heaps ["work"] (spF K Hr mg FL.F_heaps)) (g_heaps : mg "heaps" = some (.ref f_heaps)) (b_heaps : Binds K fd_heaps ["work"] [])
    (z_range : mg "range" = none) : FnOk P w K mg base CX0 8 f0 fd0 ["_law_script"] (spF K Hr mg FL.F_law) := by
  have G__law_dice := G__law_dice'.mono (show 1 ≤ 7 by omega)
  have G__law_single := G__law_single'.mono (show 2 ≤ 7 by omega)
  have G__law_next := G__law_next'.mono (show 1 ≤ 7 by omega)
  have G__law_orders := G__law_orders'.mono (show 6 ≤ 7 by omega)
  have G__law_pick := G__law_pick'.mono (show 2 ≤ 7 by omega)
  have G_alike := G_alike'.mono (show 7 ≤ 7 by omega)
  have G__law_store := G__law_store'.mono (show 3 ≤ 7 by omega)
  have G_run := G_run'.mono (show 7 ≤ 7 by omega)
  have G__law_size := G__law_size'.mono (show 1 ≤ 7 by omega)
  have G_heaps := G_heaps'.mono (show 7 ≤ 7 by omega)
  show FnOk P w K mg base CX0 (7 + 1) f0 fd0 ["_law_script"] (spF K Hr mg (mkF 1 8 c_law))
  refine fnM F0 sc_law 1 8 rfl rfl fun cdv A outer s0 H E o vs hr => ?_
  have hN := sc_law.nd
  have hu : (A.deeper (envOfC "law" (defScope s_law) s0.heap.objs.size f0 cdv)).units + 100 < cLine := by have := hr.un; omega
  have hu64 : (A.deeper (envOfC "law" (defScope s_law) s0.heap.objs.size f0 cdv)).units + 64 < cLine := by omega
  have hu1 : (A.deeper (envOfC "law" (defScope s_law) s0.heap.objs.size f0 cdv)).units + 1 < cLine := by omega
  exact (ds_cons (ds_set 1 hN (de_callF [.r] G__law_dice hr g__law_dice F__law_dice.kp b__law_dice pass00 (da_cons (de_var 0) da_nil)))
  (ds_cons (ds_par2 2 3 rfl hN (da_cons (de_callF [.w, .r] G__law_single hr g__law_single F__law_single.kp b__law_single pass00 (da_cons (de_var 1) (da_cons de_int da_nil))) (da_cons (de_callF [.w, .r] G__law_single hr g__law_single F__law_single.kp b__law_single pass00 (da_cons (de_var 1) (da_cons de_int da_nil))) da_nil)))
  (ds_cons (ds_if (t_cmp (o_eq rfl hu) (de_callF [.w, .r] G__law_next hr g__law_next F__law_next.kp b__law_next pass00 (da_cons (de_var 1) (da_cons de_int da_nil))) de_int)
  (ds_one (ds_set 3 hN (d_bin (o_add rfl) (de_callF [.w, .r] G__law_pick hr g__law_pick F__law_pick.kp b__law_pick pass00 (da_cons (de_var 1) (da_cons (de_callF [.r] G__law_orders hr g__law_orders F__law_orders.kp b__law_orders pass00 (da_cons (d_slice rfl (de_var 2) do_none (do_some de_int)) da_nil)) da_nil))) (d_slice rfl (de_var 2) (do_some de_int) do_none))))
  ds_nil)
  (ds_cons (ds_set 4 hN (de_callF [.r, .r] G_alike hr g_alike F_alike.kp b_alike pass00 (da_cons (de_var 2) (da_cons (de_var 3) da_nil))))
  (ds_cons (ds_if (dt_w (dw_or (t_cmp (o_ne rfl hu) (de_callF [.r, .r] G_alike hr g_alike F_alike.kp b_alike pass00 (da_cons (de_var 3) (da_cons (de_var 2) da_nil))) (de_var 4)) (dw_or1 (t_cmp o_isnot (de_callF [.r, .r] G_alike hr g_alike F_alike.kp b_alike pass00 (da_cons (de_var 2) (da_cons (de_var 2) da_nil))) de_none))))
  (ds_one (ds_ret de_bool))
  ds_nil)
  (ds_cons (ds_for PassesOwn.never rfl (di_range1 rfl z_range (da_cons de_int da_nil)) (dg_name 5 hN)
  (ds_cons (ds_set 6 hN (de_callF [.w, .r] G__law_store hr g__law_store F__law_store.kp b__law_store pass00 (da_cons (de_var 1) (da_cons de_int da_nil))))
  (ds_cons (ds_set 7 hN (d_cmp (o_eq rfl hu) (de_callF [.r, .r] G_run hr g_run F_run.kp b_run pass00 (da_cons (de_var 2) (da_cons (de_var 6) da_nil))) (de_callF [.r, .r] G_run hr g_run F_run.kp b_run pass00 (da_cons (de_var 3) (da_cons (de_var 6) da_nil)))))
  (ds_one (ds_if (dt_w (dw_and (dt_not (dt_val (de_var 7))) (dw_and1 (dt_w (dw_or (t_cmp o_is (de_var 4) de_none) (dw_or1 (t_cmp o_lt (de_callF [.r] G__law_size hr g__law_size F__law_size.kp b__law_size pass00 (da_cons (de_var 6) da_nil)) (de_callF [.r] G__law_size hr g__law_size F__law_size.kp b__law_size pass00 (da_cons (de_var 4) da_nil)))))))))
  (ds_one (ds_ret de_bool))
  ds_nil)))))
  (ds_cons (ds_if (t_cmp o_is (de_var 4) de_none)
  (ds_one (ds_ret (d_cmp (o_eq rfl hu) (de_callF [.r] G_heaps hr g_heaps F_heaps.kp b_heaps pass00 (da_cons (de_var 2) da_nil)) (de_callF [.r] G_heaps hr g_heaps F_heaps.kp b_heaps pass00 (da_cons (de_var 3) da_nil)))))
  ds_nil)
  (ds_one (ds_ret (de_and (d_cmp (o_ne rfl hu) (de_callF [.r, .r] G_run hr g_run F_run.kp b_run pass00 (da_cons (de_var 2) (da_cons (de_var 4) da_nil))) (de_callF [.r, .r] G_run hr g_run F_run.kp b_run pass00 (da_cons (de_var 3) (da_cons (de_var 4) da_nil)))) (de_one (d_cmp (o_ne rfl hu) (de_callF [.r] G_heaps hr g_heaps F_heaps.kp b_heaps pass00 (da_cons (de_var 2) da_nil)) (de_callF [.r] G_heaps hr g_heaps F_heaps.kp b_heaps pass00 (da_cons (de_var 3) da_nil))))))))))))))
end
end FL
end
section
set_option Elab.async false
set_option linter.all false
set_option maxRecDepth 100000
set_option maxHeartbeats 0
namespace FL
open PySem PySem.Spec PyProof.Rows L2
def dd__law_dice : He.DefD := ⟨("_law_dice", none), "_law_dice", "_law_dice", defArgs s__law_dice, defBody s__law_dice, defScope s__law_dice, [], []⟩
def dd__law_next : He.DefD := ⟨("_law_next", none), "_law_next", "_law_next", defArgs s__law_next, defBody s__law_next, defScope s__law_next, [], []⟩
def dd__law_orders : He.DefD := ⟨("_law_orders", none), "_law_orders", "_law_orders", defArgs s__law_orders, defBody s__law_orders, defScope s__law_orders, [], []⟩
def dd__law_pick : He.DefD := ⟨("_law_pick", none), "_law_pick", "_law_pick", defArgs s__law_pick, defBody s__law_pick, defScope s__law_pick, [], []⟩
def dd__law_single : He.DefD := ⟨("_law_single", none), "_law_single", "_law_single", defArgs s__law_single, defBody s__law_single, defScope s__law_single, [], []⟩
def dd__law_size : He.DefD := ⟨("_law_size", none), "_law_size", "_law_size", defArgs s__law_size, defBody s__law_size, defScope s__law_size, [], []⟩
def dd__law_number : He.DefD := ⟨("_law_number", none), "_law_number", "_law_number", defArgs s__law_number, defBody s__law_number, defScope s__law_number, [], []⟩
def dd__law_store : He.DefD := ⟨("_law_store", none), "_law_store", "_law_store", defArgs s__law_store, defBody s__law_store, defScope s__law_store, [], []⟩
def dd_is_step : He.DefD := ⟨("is_step", none), "is_step", "is_step", defArgs s_is_step, defBody s_is_step, defScope s_is_step, [], []⟩
def dd_need_steps : He.DefD := ⟨("need_steps", none), "need_steps", "need_steps", defArgs s_need_steps, defBody s_need_steps, defScope s_need_steps, [], []⟩
def dd_need_work : He.DefD := ⟨("need_work", none), "need_work", "need_work", defArgs s_need_work, defBody s_need_work, defScope s_need_work, [], []⟩
def dd_bars_of : He.DefD := ⟨("bars_of", none), "bars_of", "bars_of", defArgs s_bars_of, defBody s_bars_of, defScope s_bars_of, [], []⟩
def dd_beyond : He.DefD := ⟨("beyond", none), "beyond", "beyond", defArgs s_beyond, defBody s_beyond, defScope s_beyond, [], []⟩
def dd_parting : He.DefD := ⟨("parting", none), "parting", "parting", defArgs s_parting, defBody s_parting, defScope s_parting, [], []⟩
def dd_both : He.DefD := ⟨("both", none), "both", "both", defArgs s_both, defBody s_both, defScope s_both, [], []⟩
def dd_parted : He.DefD := ⟨("parted", none), "parted", "parted", defArgs s_parted, defBody s_parted, defScope s_parted, [], []⟩
def dd_size_of : He.DefD := ⟨("size_of", none), "size_of", "size_of", defArgs s_size_of, defBody s_size_of, defScope s_size_of, [], []⟩
def dd_behind : He.DefD := ⟨("behind", none), "behind", "behind", defArgs s_behind, defBody s_behind, defScope s_behind, [], []⟩
def dd_power : He.DefD := ⟨("power", none), "power", "power", defArgs s_power, defBody s_power, defScope s_power, [], []⟩
def dd_three_of : He.DefD := ⟨("three_of", none), "three_of", "three_of", defArgs s_three_of, defBody s_three_of, defScope s_three_of, [], []⟩
def dd_alike : He.DefD := ⟨("alike", none), "alike", "alike", defArgs s_alike, defBody s_alike, defScope s_alike, [], []⟩
def dd_heaps : He.DefD := ⟨("heaps", none), "heaps", "heaps", defArgs s_heaps, defBody s_heaps, defScope s_heaps, [], []⟩
def dd_done : He.DefD := ⟨("done", none), "done", "done", defArgs s_done, defBody s_done, defScope s_done, [], []⟩
def dd_bad_place : He.DefD := ⟨("bad_place", none), "bad_place", "bad_place", defArgs s_bad_place, defBody s_bad_place, defScope s_bad_place, [], []⟩
def dd_need_heap : He.DefD := ⟨("need_heap", none), "need_heap", "need_heap", defArgs s_need_heap, defBody s_need_heap, defScope s_need_heap, [], []⟩
def dd_run : He.DefD := ⟨("run", none), "run", "run", defArgs s_run, defBody s_run, defScope s_run, [], []⟩
def dd_law : He.DefD := ⟨("law", none), "law", "law", defArgs s_law, defBody s_law, defScope s_law, [], []⟩
def hdFn : List He.DefD := [dd__law_dice, dd__law_next, dd__law_orders, dd__law_pick, dd__law_single, dd__law_size, dd__law_number, dd__law_store, dd_is_step, dd_need_steps, dd_need_work, dd_bars_of, dd_beyond, dd_parting, dd_both, dd_parted, dd_size_of, dd_behind, dd_power, dd_three_of, dd_alike, dd_heaps, dd_done, dd_bad_place, dd_need_heap, dd_run, dd_law]
def hdFa : List He.Fa := [.glo "_law_dice", .glo "_law_next", .glo "_law_orders", .glo "_law_pick", .glo "_law_single", .glo "_law_size", .glo "_law_number", .glo "_law_store", .glo "is_step", .glo "need_steps", .glo "need_work", .glo "bars_of", .glo "beyond", .glo "parting", .glo "both", .glo "parted", .glo "size_of", .glo "behind", .glo "power", .glo "three_of", .glo "alike", .glo "heaps", .glo "done", .glo "bad_place", .glo "need_heap", .glo "run", .glo "law", .free "abs", .free "dict", .free "enumerate", .free "int", .free "len", .free "min", .free "range", .free "set", .free "sorted", .free "sum", .free "tuple"]
def hdCo : List (Str × D) := [("FAR", (.int 1000000)), ("MOST_COUNT", (.int 1000000000000000000)), ("MOST_DEEP", (.int 3)), ("MOST_PAIRS", (.int 40)), ("MOST_PUT", (.int 999)), ("MOST_STEPS", (.int 30)), ("NOTHING", (.tuple [(.tuple []), (.tuple []), (.int 0)])), ("PUT", (.str "put")), ("TAKE", (.str "take")), ("TIMES", (.str "times"))]
abbrev hdR : PySem.W.OpenRow := PySem.W.OpenLaw.row PySem.Challenge.rw_leastout_k24_whole_parted_by_a_store
abbrev hdHk : PySem.W.Hook := hookX 4 hdFa hdFn hdCo
def hdOb (s : PySem.W.SharedT) : AlX := obsXG 4 hdFa hdFn hdCo (HandSHeadRun.getT s)
theorem hdOb_eq (s : PySem.W.SharedT) : hdOb s = hdHk.obs s.abs := obsXG_eq (HandSHeadRun.getT_eq s)
abbrev hdLoose : List Str := (["StoreError", "BadHeap", "BadWork", "MOST_PAIRS", "FAR", "MOST_COUNT", "bad_place", "need_heap", "both", "size_of", "parted", "PUT", "TAKE", "TIMES", "MOST_PUT", "MOST_STEPS", "MOST_DEEP", "NOTHING", "is_step", "need_steps", "need_work", "behind", "power", "three_of", "done", "run", "heaps", "beyond", "bars_of", "parting"] : List Str) ++ (["alike", "_law_dice", "_law_next", "_law_pick", "_law_number", "_law_single", "_law_store", "_law_size", "_law_orders"] : List Str)
theorem hdRun (w : World) : HandSHeadRun.RunEq hdR (PySem.W.view hdR.prog [44]) hdHk hdOb 4000 hdLoose w := by
  intro os
  kernel_rfl
theorem hdFacts {P : Program} {w : World} {K : PySem.W.Frag} {h : Heap} {mg : Str → Option Value} {f : Addr} (KX : K.In h) (G : h.Ns mainGlobals mg) (hfa : mg ("law" : Str) = some (.ref f)) (c : SaysX hdFa hdFn hdCo K) :
    ∃ fd : FuncData, (∀ (s : Shared) (v : Value), BindsTo s fd ⟨[v], []⟩ [("_law_script", v)]) ∧ ∀ base : Heap, K.In base → base.Ns mainGlobals mg → FnOk P w K mg base CX0 8 f fd ["_law_script"] (spL K mg FL.F_law) := by
  obtain ⟨fd__law_dice, F__law_dice'⟩ := c.d.def_ 0 (d := dd__law_dice) rfl
  have F__law_dice : FnP K "_law_dice" s__law_dice (He.ga K "_law_dice") fd__law_dice := F__law_dice'
  have g__law_dice : mg "_law_dice" = some (.ref (He.ga K "_law_dice")) := He.glo_ok KX G (c.d.fact 0 (f := .glo "_law_dice") rfl)
  have b__law_dice : Binds K fd__law_dice ["_law_script"] [] := FunD.bindsN F__law_dice fun _ _ _ _ _ _ us hl => match us, hl with | [_], _ => rfl
  obtain ⟨fd__law_next, F__law_next'⟩ := c.d.def_ 1 (d := dd__law_next) rfl
  have F__law_next : FnP K "_law_next" s__law_next (He.ga K "_law_next") fd__law_next := F__law_next'
  have g__law_next : mg "_law_next" = some (.ref (He.ga K "_law_next")) := He.glo_ok KX G (c.d.fact 1 (f := .glo "_law_next") rfl)
  have b__law_next : Binds K fd__law_next ["_law_dice_here", "_law_many"] [] := FunD.bindsN F__law_next fun _ _ _ _ _ _ us hl => match us, hl with | [_, _], _ => rfl
  obtain ⟨fd__law_orders, F__law_orders'⟩ := c.d.def_ 2 (d := dd__law_orders) rfl
  have F__law_orders : FnP K "_law_orders" s__law_orders (He.ga K "_law_orders") fd__law_orders := F__law_orders'
  have g__law_orders : mg "_law_orders" = some (.ref (He.ga K "_law_orders")) := He.glo_ok KX G (c.d.fact 2 (f := .glo "_law_orders") rfl)
  have b__law_orders : Binds K fd__law_orders ["_law_single_here"] [] := FunD.bindsN F__law_orders fun _ _ _ _ _ _ us hl => match us, hl with | [_], _ => rfl
  obtain ⟨fd__law_pick, F__law_pick'⟩ := c.d.def_ 3 (d := dd__law_pick) rfl
  have F__law_pick : FnP K "_law_pick" s__law_pick (He.ga K "_law_pick") fd__law_pick := F__law_pick'
  have g__law_pick : mg "_law_pick" = some (.ref (He.ga K "_law_pick")) := He.glo_ok KX G (c.d.fact 3 (f := .glo "_law_pick") rfl)
  have b__law_pick : Binds K fd__law_pick ["_law_d", "_law_some"] [] := FunD.bindsN F__law_pick fun _ _ _ _ _ _ us hl => match us, hl with | [_, _], _ => rfl
  obtain ⟨fd__law_single, F__law_single'⟩ := c.d.def_ 4 (d := dd__law_single) rfl
  have F__law_single : FnP K "_law_single" s__law_single (He.ga K "_law_single") fd__law_single := F__law_single'
  have g__law_single : mg "_law_single" = some (.ref (He.ga K "_law_single")) := He.glo_ok KX G (c.d.fact 4 (f := .glo "_law_single") rfl)
  have b__law_single : Binds K fd__law_single ["_law_d", "_law_most_of"] [] := FunD.bindsN F__law_single fun _ _ _ _ _ _ us hl => match us, hl with | [_, _], _ => rfl
  obtain ⟨fd__law_size, F__law_size'⟩ := c.d.def_ 5 (d := dd__law_size) rfl
  have F__law_size : FnP K "_law_size" s__law_size (He.ga K "_law_size") fd__law_size := F__law_size'
  have g__law_size : mg "_law_size" = some (.ref (He.ga K "_law_size")) := He.glo_ok KX G (c.d.fact 5 (f := .glo "_law_size") rfl)
  have b__law_size : Binds K fd__law_size ["_law_heap"] [] := FunD.bindsN F__law_size fun _ _ _ _ _ _ us hl => match us, hl with | [_], _ => rfl
  obtain ⟨fd__law_number, F__law_number'⟩ := c.d.def_ 6 (d := dd__law_number) rfl
  have F__law_number : FnP K "_law_number" s__law_number (He.ga K "_law_number") fd__law_number := F__law_number'
  have g__law_number : mg "_law_number" = some (.ref (He.ga K "_law_number")) := He.glo_ok KX G (c.d.fact 6 (f := .glo "_law_number") rfl)
  have b__law_number : Binds K fd__law_number ["_law_d"] [] := FunD.bindsN F__law_number fun _ _ _ _ _ _ us hl => match us, hl with | [_], _ => rfl
  obtain ⟨fd__law_store, F__law_store'⟩ := c.d.def_ 7 (d := dd__law_store) rfl
  have F__law_store : FnP K "_law_store" s__law_store (He.ga K "_law_store") fd__law_store := F__law_store'
  have g__law_store : mg "_law_store" = some (.ref (He.ga K "_law_store")) := He.glo_ok KX G (c.d.fact 7 (f := .glo "_law_store") rfl)
  have b__law_store : Binds K fd__law_store ["_law_d", "_law_far"] [] := FunD.bindsN F__law_store fun _ _ _ _ _ _ us hl => match us, hl with | [_, _], _ => rfl
  obtain ⟨fd_is_step, F_is_step'⟩ := c.d.def_ 8 (d := dd_is_step) rfl
  have F_is_step : FnP K "is_step" s_is_step (He.ga K "is_step") fd_is_step := F_is_step'
  have g_is_step : mg "is_step" = some (.ref (He.ga K "is_step")) := He.glo_ok KX G (c.d.fact 8 (f := .glo "is_step") rfl)
  have b_is_step : Binds K fd_is_step ["step"] [] := FunD.bindsN F_is_step fun _ _ _ _ _ _ us hl => match us, hl with | [_], _ => rfl
  obtain ⟨fd_need_steps, F_need_steps'⟩ := c.d.def_ 9 (d := dd_need_steps) rfl
  have F_need_steps : FnP K "need_steps" s_need_steps (He.ga K "need_steps") fd_need_steps := F_need_steps'
  have g_need_steps : mg "need_steps" = some (.ref (He.ga K "need_steps")) := He.glo_ok KX G (c.d.fact 9 (f := .glo "need_steps") rfl)
  have b_need_steps : Binds K fd_need_steps ["steps", "deep", "number"] [] := FunD.bindsN F_need_steps fun _ _ _ _ _ _ us hl => match us, hl with | [_, _, _], _ => rfl
  obtain ⟨fd_need_work, F_need_work'⟩ := c.d.def_ 10 (d := dd_need_work) rfl
  have F_need_work : FnP K "need_work" s_need_work (He.ga K "need_work") fd_need_work := F_need_work'
  have g_need_work : mg "need_work" = some (.ref (He.ga K "need_work")) := He.glo_ok KX G (c.d.fact 10 (f := .glo "need_work") rfl)
  have b_need_work : Binds K fd_need_work ["work"] [] := FunD.bindsN F_need_work fun _ _ _ _ _ _ us hl => match us, hl with | [_], _ => rfl
  obtain ⟨fd_bars_of, F_bars_of'⟩ := c.d.def_ 11 (d := dd_bars_of) rfl
  have F_bars_of : FnP K "bars_of" s_bars_of (He.ga K "bars_of") fd_bars_of := F_bars_of'
  have g_bars_of : mg "bars_of" = some (.ref (He.ga K "bars_of")) := He.glo_ok KX G (c.d.fact 11 (f := .glo "bars_of") rfl)
  have b_bars_of : Binds K fd_bars_of ["one", "other"] [] := FunD.bindsN F_bars_of fun _ _ _ _ _ _ us hl => match us, hl with | [_, _], _ => rfl
  obtain ⟨fd_beyond, F_beyond'⟩ := c.d.def_ 12 (d := dd_beyond) rfl
  have F_beyond : FnP K "beyond" s_beyond (He.ga K "beyond") fd_beyond := F_beyond'
  have g_beyond : mg "beyond" = some (.ref (He.ga K "beyond")) := He.glo_ok KX G (c.d.fact 12 (f := .glo "beyond") rfl)
  have b_beyond : Binds K fd_beyond ["three", "bar"] [] := FunD.bindsN F_beyond fun _ _ _ _ _ _ us hl => match us, hl with | [_, _], _ => rfl
  obtain ⟨fd_parting, F_parting'⟩ := c.d.def_ 13 (d := dd_parting) rfl
  have F_parting : FnP K "parting" s_parting (He.ga K "parting") fd_parting := F_parting'
  have g_parting : mg "parting" = some (.ref (He.ga K "parting")) := He.glo_ok KX G (c.d.fact 13 (f := .glo "parting") rfl)
  have b_parting : Binds K fd_parting ["one", "other"] [] := FunD.bindsN F_parting fun _ _ _ _ _ _ us hl => match us, hl with | [_, _], _ => rfl
  obtain ⟨fd_both, F_both'⟩ := c.d.def_ 14 (d := dd_both) rfl
  have F_both : FnP K "both" s_both (He.ga K "both") fd_both := F_both'
  have g_both : mg "both" = some (.ref (He.ga K "both")) := He.glo_ok KX G (c.d.fact 14 (f := .glo "both") rfl)
  have b_both : Binds K fd_both ["one", "other"] [] := FunD.bindsN F_both fun _ _ _ _ _ _ us hl => match us, hl with | [_, _], _ => rfl
  obtain ⟨fd_parted, F_parted'⟩ := c.d.def_ 15 (d := dd_parted) rfl
  have F_parted : FnP K "parted" s_parted (He.ga K "parted") fd_parted := F_parted'
  have g_parted : mg "parted" = some (.ref (He.ga K "parted")) := He.glo_ok KX G (c.d.fact 15 (f := .glo "parted") rfl)
  have b_parted : Binds K fd_parted ["heap", "many"] [] := FunD.bindsN F_parted fun _ _ _ _ _ _ us hl => match us, hl with | [_, _], _ => rfl
  obtain ⟨fd_size_of, F_size_of'⟩ := c.d.def_ 16 (d := dd_size_of) rfl
  have F_size_of : FnP K "size_of" s_size_of (He.ga K "size_of") fd_size_of := F_size_of'
  have g_size_of : mg "size_of" = some (.ref (He.ga K "size_of")) := He.glo_ok KX G (c.d.fact 16 (f := .glo "size_of") rfl)
  have b_size_of : Binds K fd_size_of ["heap"] [] := FunD.bindsN F_size_of fun _ _ _ _ _ _ us hl => match us, hl with | [_], _ => rfl
  obtain ⟨fd_behind, F_behind'⟩ := c.d.def_ 17 (d := dd_behind) rfl
  have F_behind : FnP K "behind" s_behind (He.ga K "behind") fd_behind := F_behind'
  have g_behind : mg "behind" = some (.ref (He.ga K "behind")) := He.glo_ok KX G (c.d.fact 17 (f := .glo "behind") rfl)
  have b_behind : Binds K fd_behind ["one", "other"] [] := FunD.bindsN F_behind fun _ _ _ _ _ _ us hl => match us, hl with | [_, _], _ => rfl
  obtain ⟨fd_power, F_power'⟩ := c.d.def_ 18 (d := dd_power) rfl
  have F_power : FnP K "power" s_power (He.ga K "power") fd_power := F_power'
  have g_power : mg "power" = some (.ref (He.ga K "power")) := He.glo_ok KX G (c.d.fact 18 (f := .glo "power") rfl)
  have b_power : Binds K fd_power ["three", "many"] [] := FunD.bindsN F_power fun _ _ _ _ _ _ us hl => match us, hl with | [_, _], _ => rfl
  obtain ⟨fd_three_of, F_three_of'⟩ := c.d.def_ 19 (d := dd_three_of) rfl
  have F_three_of : FnP K "three_of" s_three_of (He.ga K "three_of") fd_three_of := F_three_of'
  have g_three_of : mg "three_of" = some (.ref (He.ga K "three_of")) := He.glo_ok KX G (c.d.fact 19 (f := .glo "three_of") rfl)
  have b_three_of : Binds K fd_three_of ["steps"] [] := FunD.bindsN F_three_of fun _ _ _ _ _ _ us hl => match us, hl with | [_], _ => rfl
  obtain ⟨fd_alike, F_alike'⟩ := c.d.def_ 20 (d := dd_alike) rfl
  have F_alike : FnP K "alike" s_alike (He.ga K "alike") fd_alike := F_alike'
  have g_alike : mg "alike" = some (.ref (He.ga K "alike")) := He.glo_ok KX G (c.d.fact 20 (f := .glo "alike") rfl)
  have b_alike : Binds K fd_alike ["one", "other"] [] := FunD.bindsN F_alike fun _ _ _ _ _ _ us hl => match us, hl with | [_, _], _ => rfl
  obtain ⟨fd_heaps, F_heaps'⟩ := c.d.def_ 21 (d := dd_heaps) rfl
  have F_heaps : FnP K "heaps" s_heaps (He.ga K "heaps") fd_heaps := F_heaps'
  have g_heaps : mg "heaps" = some (.ref (He.ga K "heaps")) := He.glo_ok KX G (c.d.fact 21 (f := .glo "heaps") rfl)
  have b_heaps : Binds K fd_heaps ["work"] [] := FunD.bindsN F_heaps fun _ _ _ _ _ _ us hl => match us, hl with | [_], _ => rfl
  obtain ⟨fd_done, F_done'⟩ := c.d.def_ 22 (d := dd_done) rfl
  have F_done : FnP K "done" s_done (He.ga K "done") fd_done := F_done'
  have g_done : mg "done" = some (.ref (He.ga K "done")) := He.glo_ok KX G (c.d.fact 22 (f := .glo "done") rfl)
  have b_done : Binds K fd_done ["three", "store"] [] := FunD.bindsN F_done fun _ _ _ _ _ _ us hl => match us, hl with | [_, _], _ => rfl
  obtain ⟨fd_bad_place, F_bad_place'⟩ := c.d.def_ 23 (d := dd_bad_place) rfl
  have F_bad_place : FnP K "bad_place" s_bad_place (He.ga K "bad_place") fd_bad_place := F_bad_place'
  have g_bad_place : mg "bad_place" = some (.ref (He.ga K "bad_place")) := He.glo_ok KX G (c.d.fact 23 (f := .glo "bad_place") rfl)
  have b_bad_place : Binds K fd_bad_place ["heap", "far"] [] := FunD.bindsN F_bad_place fun _ _ _ _ _ _ us hl => match us, hl with | [_, _], _ => rfl
  obtain ⟨fd_need_heap, F_need_heap'⟩ := c.d.def_ 24 (d := dd_need_heap) rfl
  have F_need_heap : FnP K "need_heap" s_need_heap (He.ga K "need_heap") fd_need_heap := F_need_heap'
  have g_need_heap : mg "need_heap" = some (.ref (He.ga K "need_heap")) := He.glo_ok KX G (c.d.fact 24 (f := .glo "need_heap") rfl)
  have b_need_heap : Binds K fd_need_heap ["heap"] [] := FunD.bindsN F_need_heap fun _ _ _ _ _ _ us hl => match us, hl with | [_], _ => rfl
  obtain ⟨fd_run, F_run'⟩ := c.d.def_ 25 (d := dd_run) rfl
  have F_run : FnP K "run" s_run (He.ga K "run") fd_run := F_run'
  have g_run : mg "run" = some (.ref (He.ga K "run")) := He.glo_ok KX G (c.d.fact 25 (f := .glo "run") rfl)
  have b_run : Binds K fd_run ["work", "store"] [] := FunD.bindsN F_run fun _ _ _ _ _ _ us hl => match us, hl with | [_, _], _ => rfl
  obtain ⟨fd_law, F_law'⟩ := c.d.def_ 26 (d := dd_law) rfl
  have F_law : FnP K "law" s_law (He.ga K "law") fd_law := F_law'
  have g_law : mg "law" = some (.ref (He.ga K "law")) := He.glo_ok KX G (c.d.fact 26 (f := .glo "law") rfl)
  have b_law : Binds K fd_law ["_law_script"] [] := FunD.bindsN F_law fun _ _ _ _ _ _ us hl => match us, hl with | [_], _ => rfl
  have z_abs : mg "abs" = none := He.free_ok KX G (c.d.fact 27 (f := .free "abs") rfl)
  have z_dict : mg "dict" = none := He.free_ok KX G (c.d.fact 28 (f := .free "dict") rfl)
  have z_enumerate : mg "enumerate" = none := He.free_ok KX G (c.d.fact 29 (f := .free "enumerate") rfl)
  have z_int : mg "int" = none := He.free_ok KX G (c.d.fact 30 (f := .free "int") rfl)
  have z_len : mg "len" = none := He.free_ok KX G (c.d.fact 31 (f := .free "len") rfl)
  have z_min : mg "min" = none := He.free_ok KX G (c.d.fact 32 (f := .free "min") rfl)
  have z_range : mg "range" = none := He.free_ok KX G (c.d.fact 33 (f := .free "range") rfl)
  have z_set : mg "set" = none := He.free_ok KX G (c.d.fact 34 (f := .free "set") rfl)
  have z_sorted : mg "sorted" = none := He.free_ok KX G (c.d.fact 35 (f := .free "sorted") rfl)
  have z_sum : mg "sum" = none := He.free_ok KX G (c.d.fact 36 (f := .free "sum") rfl)
  have z_tuple : mg "tuple" = none := He.free_ok KX G (c.d.fact 37 (f := .free "tuple") rfl)
  have k_FAR := c.con 0 (z := ("FAR", (.int 1000000))) rfl
  have k_MOST_COUNT := c.con 1 (z := ("MOST_COUNT", (.int 1000000000000000000))) rfl
  have k_MOST_DEEP := c.con 2 (z := ("MOST_DEEP", (.int 3))) rfl
  have k_MOST_PAIRS := c.con 3 (z := ("MOST_PAIRS", (.int 40))) rfl
  have k_MOST_PUT := c.con 4 (z := ("MOST_PUT", (.int 999))) rfl
  have k_MOST_STEPS := c.con 5 (z := ("MOST_STEPS", (.int 30))) rfl
  have k_NOTHING := c.con 6 (z := ("NOTHING", (.tuple [(.tuple []), (.tuple []), (.int 0)]))) rfl
  have k_PUT := c.con 7 (z := ("PUT", (.str "put"))) rfl
  have k_TAKE := c.con 8 (z := ("TAKE", (.str "take"))) rfl
  have k_TIMES := c.con 9 (z := ("TIMES", (.str "times"))) rfl
  have e := hfa.symm.trans g_law
  cases e
  have hbind := FunD.bindsA (ps := ["_law_script"]) F_law fun _ _ _ _ _ _ us hl => match us, hl with | [_], _ => rfl
  refine ⟨fd_law, fun s v => hbind s [v] rfl, fun base _ _ => fn_all fun Hr => ?_⟩
  have G__law_dice := ok__law_dice (P := P) (w := w) (base := base) (Hr := Hr) KX G F__law_dice z_int z_len
  have G__law_next := ok__law_next (P := P) (w := w) (base := base) (Hr := Hr) KX G F__law_next z_len
  have G__law_orders := ok__law_orders (P := P) (w := w) (base := base) (Hr := Hr) KX G F__law_orders z_dict z_sorted g__law_orders b__law_orders 6
  have G__law_pick := ok__law_pick (P := P) (w := w) (base := base) (Hr := Hr) KX G F__law_pick F__law_next G__law_next g__law_next b__law_next z_len
  have G__law_single := ok__law_single (P := P) (w := w) (base := base) (Hr := Hr) KX G F__law_single F__law_next G__law_next g__law_next b__law_next z_range z_tuple
  have G__law_size := ok__law_size (P := P) (w := w) (base := base) (Hr := Hr) KX G F__law_size z_sum
  have G__law_number := ok__law_number (P := P) (w := w) (base := base) (Hr := Hr) KX G F__law_number F__law_next G__law_next g__law_next b__law_next
  have G__law_store := ok__law_store (P := P) (w := w) (base := base) (Hr := Hr) KX G F__law_store F__law_next G__law_next g__law_next b__law_next F__law_number G__law_number g__law_number b__law_number z_int z_range z_sorted z_tuple
  have G_is_step := ok_is_step (P := P) (w := w) (base := base) (Hr := Hr) KX G F_is_step z_abs z_len k_MOST_COUNT k_MOST_PUT k_PUT k_TAKE k_TIMES
  have G_need_steps := ok_need_steps (P := P) (w := w) (base := base) (Hr := Hr) KX G F_need_steps F_is_step G_is_step g_is_step b_is_step k_MOST_DEEP k_MOST_STEPS k_TIMES g_need_steps b_need_steps 3
  have G_need_work := ok_need_work (P := P) (w := w) (base := base) (Hr := Hr) KX G F_need_work F_need_steps G_need_steps g_need_steps b_need_steps
  have G_bars_of := ok_bars_of (P := P) (w := w) (base := base) (Hr := Hr) KX G F_bars_of z_set z_sorted k_FAR
  have G_beyond := ok_beyond (P := P) (w := w) (base := base) (Hr := Hr) KX G F_beyond z_sum
  have G_parting := ok_parting (P := P) (w := w) (base := base) (Hr := Hr) KX G F_parting F_bars_of G_bars_of g_bars_of b_bars_of F_beyond G_beyond g_beyond b_beyond z_min k_FAR
  have G_both := ok_both (P := P) (w := w) (base := base) (Hr := Hr) KX G F_both z_dict z_sorted z_tuple
  have G_parted := ok_parted (P := P) (w := w) (base := base) (Hr := Hr) KX G F_parted z_int z_min z_tuple
  have G_size_of := ok_size_of (P := P) (w := w) (base := base) (Hr := Hr) KX G F_size_of z_sum
  have G_behind := ok_behind (P := P) (w := w) (base := base) (Hr := Hr) KX G F_behind F_parted G_parted g_parted b_parted F_size_of G_size_of g_size_of b_size_of F_both G_both g_both b_both
  have G_power := ok_power (P := P) (w := w) (base := base) (Hr := Hr) KX G F_power F_behind G_behind g_behind b_behind k_NOTHING
  have G_three_of := ok_three_of (P := P) (w := w) (base := base) (Hr := Hr) KX G F_three_of F_power G_power g_power b_power F_behind G_behind g_behind b_behind k_NOTHING k_PUT k_TAKE g_three_of b_three_of 3
  have G_alike := ok_alike (P := P) (w := w) (base := base) (Hr := Hr) KX G F_alike F_need_work G_need_work g_need_work b_need_work F_three_of G_three_of g_three_of b_three_of F_parting G_parting g_parting b_parting
  have G_heaps := ok_heaps (P := P) (w := w) (base := base) (Hr := Hr) KX G F_heaps F_need_work G_need_work g_need_work b_need_work F_three_of G_three_of g_three_of b_three_of
  have G_done := ok_done (P := P) (w := w) (base := base) (Hr := Hr) KX G F_done F_behind G_behind g_behind b_behind
  have G_bad_place := ok_bad_place (P := P) (w := w) (base := base) (Hr := Hr) KX G F_bad_place z_enumerate k_MOST_COUNT k_MOST_PAIRS
  have G_need_heap := ok_need_heap (P := P) (w := w) (base := base) (Hr := Hr) KX G F_need_heap F_bad_place G_bad_place g_bad_place b_bad_place k_FAR
  have G_run := ok_run (P := P) (w := w) (base := base) (Hr := Hr) KX G F_run F_need_work G_need_work g_need_work b_need_work F_need_heap G_need_heap g_need_heap b_need_heap F_three_of G_three_of g_three_of b_three_of F_done G_done g_done b_done
  have G_law := ok_law (P := P) (w := w) (base := base) (Hr := Hr) KX G F_law F__law_dice G__law_dice g__law_dice b__law_dice F__law_single G__law_single g__law_single b__law_single F__law_next G__law_next g__law_next b__law_next F__law_orders G__law_orders g__law_orders b__law_orders F__law_pick G__law_pick g__law_pick b__law_pick F_alike G_alike g_alike b_alike F__law_store G__law_store g__law_store b__law_store F_run G_run g_run b_run F__law_size G__law_size g__law_size b__law_size F_heaps G_heaps g_heaps b_heaps z_range
  exact G_law
end FL
open PySem PySem.W PySem.Calls PyProof.Rows
theorem PySem.Challenge.cw_leastout_k24_whole_parted_by_a_store_holds : PySem.Challenge.rw_leastout_k24_whole_parted_by_a_store.Holds := by
  w_on; o_law
  refine HandSHeadRun.head_any (r := OpenLaw.row PySem.Challenge.rw_leastout_k24_whole_parted_by_a_store) (q := view (OpenLaw.row PySem.Challenge.rw_leastout_k24_whole_parted_by_a_store).prog [44]) (H := FL.hdHk) (ob := FL.hdOb) (M := 4000) (loose := FL.hdLoose) (d := HandSHeadRun.topDef (OpenLaw.row PySem.Challenge.rw_leastout_k24_whole_parted_by_a_store).prog 44) (kwd := []) FL.hdOb_eq
    (by kernel_rfl) (fun s => by kernel_rfl) FL.hdRun (by kernel_rfl) (by kernel_rfl) (by kernel_rfl) (by rfl) (by first | assumption | decide +kernel) (by decide +kernel) ⟨rfl, rfl, rfl, rfl, rfl, by decide +kernel⟩ ?hw ?hc
  case hw => w_witness2
  case hc =>
    refine L2.walk_ofE (l := PySem.Challenge.rw_leastout_k24_whole_parted_by_a_store) (n := 63) (k := 8) (x := "_law_script") (CX := L2.CX0) rfl (by decide) (by kernel_rfl) ⟨rfl, by decide, by decide⟩ ?F (fun _ _ _ _ z => z)
    intro w mg fa h Y G hmg0
    obtain ⟨K, KX, c⟩ := Y
    have hmg : mg ("law" : PySem.Str) = some (.ref fa) := by
      have e : (HandSHeadRun.topDef (OpenLaw.row PySem.Challenge.rw_leastout_k24_whole_parted_by_a_store).prog 44).name = ("law" : PySem.Str) := by kernel_rfl
      rw [← e]
      exact hmg0
    obtain ⟨fd, hb, hF⟩ := FL.hdFacts (P := (PySem.Challenge.rw_leastout_k24_whole_parted_by_a_store).prog) (w := w) KX G hmg c
    exact ⟨K, fd, FL.spL K mg FL.F_law, KX, hb, fun H a ns hl _ hS => let ⟨_, e⟩ := FL.law_true ns hl; FL.spL_law e hS, hF⟩
end
