import PyProof.Rows.All
import HandS.ForMost
import HandS.ForExc
import HandS.IsInst
import HandS.Walk
import HandS.Wide
import HandS.Lambda
import KE.DataEq
import KE.DataCmp
import HandS.Conv
import HandS.Dict
import HandS.DictComp
import HandS.EndBits
import HandS.EndOwn
import HandS.EndTab
import HandS.ExcField
import HandS.ExcIs
import HandS.ExcOwn
import HandS.Flow
import HandS.Iter
import HandS.Keys
import HandS.More
import HandS.NoneIn
import HandS.RaiseMore
import HandS.SortInts
import HandS.SortKw
import HandS.SortRule
import HandS.Style
import HandS.Text
import HandS.TupAny
import HandS.TupLen
import HandS.TupMul
import HandS.WordsDict
import HandS.Zip
import HandS.Zip0
import KE.GoesEnum
import KE.GoesMore
import KE.KDictPairs
import KE.KNestM
import KE.KSliceSign
import KE.SortData
import KE.SortKeyHeap
import PyProof.DictFindH
import PyProof.ReprRoads
import PyProof.StrLawsRepr
import PySem.Challenge.RW_viewroots_k00_whole_names_and_relations
set_option Elab.async false
set_option linter.all false
set_option maxRecDepth 100000
/-! DL1: data, what represents it, the computations over draws, the readings. -/
namespace DL
open PySem PySem.Spec PyProof.Rows L2

/-- plain data (x of a tuple: its object is known to bear no dict); st: the law's state of draws; opq: anything told by the context -/
inductive D where
  | non | bl (b : Bool) | int (i : Int) | str (x : Str)
  | tup (x : Bool) (xs : List D) | lst (xs : List D) | dct (t : Bool) (ks vs : List D)
  | st | opq (n : Nat)
  deriving Inhabited

mutual
def D.py : D → PyData
  | .non => .none
  | .bl b => .bool b
  | .int i => .int i
  | .str x => .str x
  | .tup _ xs => .tuple (D.pys xs)
  | .lst xs => .list (D.pys xs)
  | .dct _ _ _ => .dict []
  | .st => .dict []
  | .opq _ => .dict []
def D.pys : List D → List PyData
  | [] => []
  | d :: ds => d.py :: D.pys ds
end
theorem D.pys_map : ∀ ds : List D, D.pys ds = ds.map D.py
  | [] => by simp [D.pys]
  | d :: ds => by simp [D.pys, D.pys_map ds]

/-! ### computations -/
structure DS where
  great : List Int
  rest : Int
  turn : Int
structure Exn where
  cls : Nat
  args : List D
inductive Out (α : Type) where
  | ok (a : α) (s : DS) | err (x : Exn) (s : DS) | stuck
def M (α : Type) := DS → Out α
def M.pure {α : Type} (a : α) : M α := fun s => .ok a s
def M.bind {α β : Type} (m : M α) (f : α → M β) : M β := fun s => match m s with
  | .ok a s' => f a s'
  | .err x s' => .err x s'
  | .stuck => .stuck
instance : Monad M where
  pure := M.pure
  bind := M.bind
def M.stuck {α : Type} : M α := fun _ => .stuck
def M.raise {α : Type} (x : Exn) : M α := fun s => .err x s
theorem M.ext {α : Type} {m n : M α} (h : ∀ s, m s = n s) : m = n := funext h
theorem bind_def {α β : Type} (m : M α) (f : α → M β) : (m >>= f) = M.bind m f := rfl
theorem pure_def {α : Type} (a : α) : (pure a : M α) = M.pure a := rfl
instance : LawfulMonad M := LawfulMonad.mk' M
  (id_map := fun m => M.ext fun s => by
    show M.bind m (fun a => M.pure (id a)) s = m s
    unfold M.bind M.pure
    cases m s <;> rfl)
  (pure_bind := fun a f => rfl)
  (bind_assoc := fun m f g => M.ext fun s => by
    show M.bind (M.bind m f) g s = M.bind m (fun a => M.bind (f a) g) s
    unfold M.bind
    cases m s <;> rfl)
@[simp] theorem stuck_bind {α β : Type} (f : α → M β) : ((M.stuck : M α) >>= f) = M.stuck := rfl
@[simp] theorem raise_bind {α β : Type} (x : Exn) (f : α → M β) : ((M.raise x : M α) >>= f) = M.raise x := rfl

/-- what a computation leads to -/
def M.wp {α : Type} (m : M α) (Q : α → DS → Prop) (E : Exn → DS → Prop) (s : DS) : Prop := match m s with
  | .ok a s' => Q a s'
  | .err x s' => E x s'
  | .stuck => False
theorem wp_pure {α : Type} {a : α} {Q : α → DS → Prop} {E : Exn → DS → Prop} {s : DS} : (pure a : M α).wp Q E s = Q a s := rfl
theorem wp_bind {α β : Type} {m : M α} {f : α → M β} {Q : β → DS → Prop} {E : Exn → DS → Prop} {s : DS} :
    (m >>= f).wp Q E s = m.wp (fun a s' => (f a).wp Q E s') E s := by
  show M.wp (M.bind m f) Q E s = _
  unfold M.wp M.bind
  cases m s <;> rfl
theorem M.wp.mono {α : Type} {m : M α} {Q Q' : α → DS → Prop} {E E' : Exn → DS → Prop} {s : DS} (h : m.wp Q E s) (hq : ∀ a s', Q a s' → Q' a s') (he : ∀ x s', E x s' → E' x s') : m.wp Q' E' s := by
  unfold M.wp at h ⊢
  cases e : m s with
  | ok a s' => rw [e] at h; exact hq _ _ h
  | err x s' => rw [e] at h; exact he _ _ h
  | stuck => rw [e] at h; exact h
theorem M.wp.imp {α : Type} {m : M α} {Q Q' : α → DS → Prop} {E : Exn → DS → Prop} {s : DS} (h : m.wp Q E s) (hq : ∀ a s', Q a s' → Q' a s') : m.wp Q' E s := h.mono hq fun _ _ x => x
theorem wp_stuck {α : Type} {Q : α → DS → Prop} {E : Exn → DS → Prop} {s : DS} : (M.stuck : M α).wp Q E s = False := rfl
theorem wp_raise {α : Type} {x : Exn} {Q : α → DS → Prop} {E : Exn → DS → Prop} {s : DS} : (M.raise x : M α).wp Q E s = E x s := rfl

/-! ### the world -/
def keyD : Key → D
  | .inl i => .int i
  | .inr x => .str x
/-- what is fixed through a law: the written part, where the state of draws stands -/
structure Om where
  K : PySem.W.Frag
  as : Addr
  ag : Addr
  ac : Addr
  cells : List Int
  /-- the tables of code objects, with the name that each one's code objects bear -/
  tb : List (Addr × Str)
  /-- an exception's class and the names of its fields, by its number -/
  xc : Nat → Value
  xf : Nat → List Str
  op : Nat → Hp → V → Prop
  opm : ∀ n G G' v, (∀ a u, Rd G a u → Rd G' a u) → op n G v → op n G' v
  opn : ∀ n G v, op n G v → v ≠ .non

/-- a tuple at a; x: told by its object -/
def TupAt (G : Hp) (a : Addr) (x : Bool) (xs : List V) : Prop := match x with
  | false => G a = some (.tup xs)
  | true => ∃ o, G a = some (.frz o (.tup xs)) ∧ o.dict = none
theorem TupAt.rd {G : Hp} {a : Addr} {x : Bool} {xs : List V} (h : TupAt G a x xs) : Rd G a (.tup xs) := by
  cases x with
  | false => exact .inl h
  | true => obtain ⟨o, h, _⟩ := h; exact .inr ⟨o, h⟩
/-- told by its object -/
def Told (G : Hp) (a : Addr) (u : HO) : Prop := ∃ o, G a = some (.frz o u)
theorem Told.rd {G : Hp} {a : Addr} {u : HO} (h : Told G a u) : Rd G a u := .inr h
mutual
inductive Rep (Ω : Om) (G : Hp) : V → D → Prop
  | non : Rep Ω G .non .non
  | bl (b : Bool) : Rep Ω G (.bl b) (.bl b)
  | int (i : Int) : Rep Ω G (.int i) (.int i)
  | str (x : Str) : Rep Ω G (.str x) (.str x)
  | tup {a : Addr} {x : Bool} {xs : List V} {ds : List D} : TupAt G a x xs → Reps Ω G xs ds → Rep Ω G (.ref a) (.tup x ds)
  | lst {a : Addr} {xs : List V} {ds : List D} : G a = some (.lst xs) → Reps Ω G xs ds → Rep Ω G (.ref a) (.lst ds)
  | dK {a : Addr} {kvs : List (Key × V)} {vs : List D} : Told G a (.dK kvs) → Reps Ω G (kvs.map (·.2)) vs → Rep Ω G (.ref a) (.dct false (kvs.map fun kv => keyD kv.1) vs)
  | dT {a : Addr} {kvs : List (List Key × V)} {vs : List D} : Told G a (.dT kvs) → Reps Ω G (kvs.map (·.2)) vs → Rep Ω G (.ref a) (.dct true (kvs.map fun kv => .tup false (kv.1.map keyD)) vs)
  | st : Rep Ω G (.ref Ω.as) .st
  | opq {n : Nat} {v : V} : Ω.op n G v → Rep Ω G v (.opq n)
inductive Reps (Ω : Om) (G : Hp) : List V → List D → Prop
  | nil : Reps Ω G [] []
  | cons {v : V} {vs : List V} {d : D} {ds : List D} : Rep Ω G v d → Reps Ω G vs ds → Reps Ω G (v :: vs) (d :: ds)
end

/-- what may be read stays readable -/
structure RdLe (G G' : Hp) : Prop where
  rd : ∀ a u, Rd G a u → Rd G' a u
  lst : ∀ a xs, G a = some (.lst xs) → G' a = some (.lst xs)
  tup : ∀ a x xs, TupAt G a x xs → TupAt G' a x xs
  frz : ∀ a o u, G a = some (.frz o u) → G' a = some (.frz o u)
theorem RdLe.of {G G' : Hp} (h : Same G G') : RdLe G G' := ⟨fun a u r => r.elim (fun q => .inl (h _ _ q)) fun ⟨o, q⟩ => .inr ⟨o, h _ _ q⟩, fun a xs e => h a _ e, fun a x xs e => by
  cases x with
  | false => exact h a _ e
  | true => obtain ⟨o, e, d⟩ := e; exact ⟨o, h a _ e, d⟩, fun a o u e => h a _ e⟩
theorem RdLe.refl (G : Hp) : RdLe G G := ⟨fun _ _ r => r, fun _ _ e => e, fun _ _ _ e => e, fun _ _ _ e => e⟩
theorem RdLe.trans {G G' G'' : Hp} (h : RdLe G G') (h' : RdLe G' G'') : RdLe G G'' := ⟨fun a u r => h'.rd a u (h.rd a u r), fun a xs e => h'.lst a xs (h.lst a xs e), fun a x xs e => h'.tup a x xs (h.tup a x xs e), fun a o u e => h'.frz a o u (h.frz a o u e)⟩
theorem RdLe.sqL {K : PySem.W.Frag} {G G' : Hp} {a : Addr} {xs : List V} (h : RdLe G G') (q : SqL K G a xs) : SqL K G' a xs := q.elim (fun r => .inl (h.rd _ _ r)) .inr
theorem RdLe.sqT {K : PySem.W.Frag} {G G' : Hp} {a : Addr} {xs : List V} (h : RdLe G G') (q : SqT K G a xs) : SqT K G' a xs := q.elim (fun r => .inl (h.rd _ _ r)) .inr
section
variable {Ω : Om} {G G' : Hp}
mutual
theorem Rep.le (h : RdLe G G') : ∀ (d : D) (v : V), Rep Ω G v d → Rep Ω G' v d
  | .non, _, r => by cases r; exact .non
  | .bl _, _, r => by cases r; exact .bl _
  | .int _, _, r => by cases r; exact .int _
  | .str _, _, r => by cases r; exact .str _
  | .tup _ ds, _, r => by
    cases r with
    | tup q r => exact .tup (h.tup _ _ _ q) (Reps.le h ds _ r)
  | .lst ds, _, r => by
    cases r with
    | lst q r => exact .lst (h.lst _ _ q) (Reps.le h ds _ r)
  | .dct _ ks vs, _, r => by
    cases r with
    | dK q r => exact .dK (q.elim fun o e => ⟨o, h.frz _ _ _ e⟩) (Reps.le h vs _ r)
    | dT q r => exact .dT (q.elim fun o e => ⟨o, h.frz _ _ _ e⟩) (Reps.le h vs _ r)
  | .st, _, r => by cases r; exact .st
  | .opq n, _, r => by
    cases r with
    | opq q => exact .opq (Ω.opm _ _ _ _ h.rd q)
theorem Reps.le (h : RdLe G G') : ∀ (ds : List D) (vs : List V), Reps Ω G vs ds → Reps Ω G' vs ds
  | [], _, r => by cases r; exact .nil
  | d :: ds, _, r => by
    cases r with
    | cons r rs => exact .cons (Rep.le h d _ r) (Reps.le h ds _ rs)
end
theorem Rep.same {d : D} {v : V} (r : Rep Ω G v d) (h : Same G G') : Rep Ω G' v d := Rep.le (.of h) _ _ r
theorem Reps.same {ds : List D} {vs : List V} (r : Reps Ω G vs ds) (h : Same G G') : Reps Ω G' vs ds := Reps.le (.of h) _ _ r
theorem Reps.length : ∀ {vs : List V} {ds : List D}, Reps Ω G vs ds → vs.length = ds.length
  | _, _, .nil => rfl
  | _, _, .cons _ r => by simp [r.length]
theorem Reps.get : ∀ {vs : List V} {ds : List D} {i : Nat} {v : V}, Reps Ω G vs ds → vs[i]? = some v → ∃ d, ds[i]? = some d ∧ Rep Ω G v d
  | _, _, _, _, .nil, e => by simp at e
  | _, _, 0, _, .cons r _, e => by simp at e; subst e; exact ⟨_, rfl, r⟩
  | _, _, i + 1, v, .cons _ t, e => by
    obtain ⟨d, h1, h2⟩ := Reps.get (i := i) (v := v) t (by simpa using e)
    exact ⟨d, by simpa using h1, h2⟩
theorem Reps.getD : ∀ {vs : List V} {ds : List D} {i : Nat} {d : D}, Reps Ω G vs ds → ds[i]? = some d → ∃ v, vs[i]? = some v ∧ Rep Ω G v d
  | _, _, _, _, .nil, e => by simp at e
  | _, _, 0, _, .cons r _, e => by simp at e; subst e; exact ⟨_, rfl, r⟩
  | _, _, i + 1, d, .cons _ t, e => by
    obtain ⟨v, h1, h2⟩ := Reps.getD (i := i) (d := d) t (by simpa using e)
    exact ⟨v, by simpa using h1, h2⟩
theorem Reps.append : ∀ {vs ws : List V} {ds es : List D}, Reps Ω G vs ds → Reps Ω G ws es → Reps Ω G (vs ++ ws) (ds ++ es)
  | _, _, _, _, .nil, s => s
  | _, _, _, _, .cons r t, s => .cons r (Reps.append t s)
theorem Reps.take : ∀ {vs : List V} {ds : List D} (n : Nat), Reps Ω G vs ds → Reps Ω G (vs.take n) (ds.take n)
  | _, _, 0, _ => .nil
  | _, _, _ + 1, .nil => .nil
  | _, _, n + 1, .cons r t => .cons r (Reps.take n t)
theorem Reps.drop : ∀ {vs : List V} {ds : List D} (n : Nat), Reps Ω G vs ds → Reps Ω G (vs.drop n) (ds.drop n)
  | _, _, 0, r => r
  | _, _, _ + 1, .nil => .nil
  | _, _, n + 1, .cons _ t => Reps.drop n t
theorem Reps.ints : ∀ {vs : List V} {ns : List Int}, Reps Ω G vs (ns.map D.int) → vs = ns.map V.int
  | _, [], r => by cases r; rfl
  | _, n :: ns, r => by
    cases r with
    | cons r t => cases r; rw [Reps.ints t]; rfl
mutual
theorem Rep.dp : ∀ (d : D) (v : V), d.py.plain = true → Rep Ω G v d → Dp Ω.K G v d.py
  | .non, _, _, r => by cases r; exact .non
  | .bl _, _, _, r => by cases r; exact .bl _
  | .int _, _, _, r => by cases r; exact .int _
  | .str _, _, _, r => by cases r; exact .str _
  | .tup _ ds, _, p, r => by
    cases r with
    | tup q r => exact .tup (.inl q.rd) (Reps.dp ds _ (by simpa [D.py, PyData.plain] using p) r)
  | .lst ds, _, p, r => by
    cases r with
    | lst q r => exact .lst (.inl (.inl q)) (Reps.dp ds _ (by simpa [D.py, PyData.plain] using p) r)
  | .dct _ _ _, _, p, _ => by simp [D.py, PyData.plain] at p
  | .st, _, p, _ => by simp [D.py, PyData.plain] at p
  | .opq _, _, p, _ => by simp [D.py, PyData.plain] at p
theorem Reps.dp : ∀ (ds : List D) (vs : List V), PyData.plainAll (D.pys ds) = true → Reps Ω G vs ds → DpAll Ω.K G vs (D.pys ds)
  | [], _, _, r => by cases r; exact .nil
  | d :: ds, _, p, r => by
    cases r with
    | cons r rs =>
      have p' : d.py.plain = true ∧ PyData.plainAll (D.pys ds) = true := by simpa [D.pys, PyData.plainAll] using p
      exact .cons (Rep.dp d _ p'.1 r) (Reps.dp ds _ p'.2 rs)
end
end
end DL
set_option Elab.async false
set_option linter.all false
set_option maxRecDepth 100000
set_option autoImplicit false
/-! DL2: what stands at a point of a def, the readings of expressions, tests, arguments. -/
namespace DL
open PySem PySem.Spec PyProof.Rows L2

/-! ### the state of draws; what stands -/
structure StOk (Ω : Om) (S : DS) (H : Hp) : Prop where
  dict : H Ω.as = some (.dK [(.inr "great", .ref Ω.ag), (.inr "cells", .ref Ω.ac), (.inr "rest", .int S.rest), (.inr "turn", .int S.turn)])
  great : H Ω.ag = some (.lst (S.great.map V.int))
  cells : H Ω.ac = some (.lst (Ω.cells.map V.int))
  tabs : LamX.Tabs Ω.tb H
/-- G: what is frozen; it stands in H, the state of draws apart -/
structure Wd (Ω : Om) (S : DS) (G H : Hp) : Prop where
  same : Same G H
  ga : G Ω.as = none
  gg : G Ω.ag = none
  gc : G Ω.ac = some (.lst (Ω.cells.map V.int))
  gt : ∀ q ∈ Ω.tb, G q.1 = none
  nt : ∀ a ps, G a ≠ some (.tbl ps)
  st : StOk Ω S H
/-- code objects and tuples may be frozen later than made -/
def Late (a : Addr) (o : HO) : Prop := (∃ q, o = LamX.CodeO a q) ∨ ∃ xs, o = .tup xs
/-- behind: nothing that stood is newly frozen; nothing that stood is changed but the draws' (code objects, tuples may be frozen later) -/
def GX (G H G' : Hp) : Prop := ∀ a, H a ≠ none → G' a = G a ∨ ∃ o, H a = some o ∧ Late a o ∧ G' a = H a
def HX (Ω : Om) (H H' : Hp) : Prop := ∀ a o, H a = some o → a ≠ Ω.as → a ≠ Ω.ag → (∀ q ∈ Ω.tb, a ≠ q.1) → H' a = some o
theorem GX.refl (G H : Hp) : GX G H G := fun _ _ => .inl rfl
theorem GX.at {G H G' : Hp} (g : GX G H G') {a : Addr} {o : HO} (h : H a = some o) (no : ∀ φ, o ≠ .ext φ) (no2 : ∀ xs, o ≠ .tup xs := by intro _ z; cases z) : G' a = G a := (g a (by rw [h]; simp)).elim id fun ⟨_, h2, lt, _⟩ => by
  have e := Option.some.inj (h.symm.trans h2)
  rcases lt with ⟨q, rfl⟩ | ⟨xs, rfl⟩
  · exact absurd e (no _)
  · exact absurd e (no2 _)
theorem HX.refl (Ω : Om) (H : Hp) : HX Ω H H := fun _ _ h _ _ _ => h
theorem HX.of {Ω : Om} {H H' : Hp} (h : Same H H') : HX Ω H H' := fun a o e _ _ _ => h a o e
theorem HX.trans {Ω : Om} {H H1 H2 : Hp} (a : HX Ω H H1) (b : HX Ω H1 H2) : HX Ω H H2 := fun c o h n1 n2 n3 => b c o (a c o h n1 n2 n3) n1 n2 n3
/-- what is no table and no code object is written -/
theorem tabs_upd {T : List (Addr × Str)} {H : Hp} {p : Addr} {o : HO} (t : LamX.Tabs T H) (n1 : ∀ q ∈ T, p ≠ q.1) (n2 : ∀ φ, H p ≠ some (.ext φ)) : LamX.Tabs T (upd H p o) := fun q hq => by
  obtain ⟨ps, h1, h2, h3⟩ := t q hq
  refine ⟨ps, by rw [upd_ne (Ne.symm (n1 q hq))]; exact h1, h2, fun pos cv hc => ?_⟩
  obtain ⟨c, e1, e2⟩ := h3 pos cv hc
  exact ⟨c, e1, by rw [upd_ne fun e => n2 _ (by rw [← e]; exact e2)]; exact e2⟩
section
variable {Ω : Om} {S S' : DS} {G G' G'' H H' : Hp}
theorem GX.same (g : GX G H G') (s : Same G H) : Same G G' := fun a o e => by
  have h := s a o e
  rcases g a (by rw [h]; simp) with z | ⟨_, _, _, z⟩
  · rw [z]; exact e
  · rw [z]; exact h
theorem StOk.some (st : StOk Ω S H) {a : Addr} (h : a = Ω.as ∨ a = Ω.ag ∨ ∃ q ∈ Ω.tb, a = q.1) : H a ≠ none := by
  rcases h with rfl | rfl | ⟨q, hq, rfl⟩
  · rw [st.dict]; simp
  · rw [st.great]; simp
  · obtain ⟨ps, e, _⟩ := st.tabs q hq
    rw [e]; simp
theorem HX.there (x : HX Ω H H') (st : StOk Ω S' H') {a : Addr} (h : H a ≠ none) : H' a ≠ none := by
  by_cases h1 : a = Ω.as
  · exact st.some (.inl h1)
  · by_cases h2 : a = Ω.ag
    · exact st.some (.inr (.inl h2))
    · by_cases h3 : ∃ q ∈ Ω.tb, a = q.1
      · exact st.some (.inr (.inr h3))
      · cases e : H a with
        | none => exact absurd e h
        | some o => rw [x a o e h1 h2 fun q hq e => h3 ⟨q, hq, e⟩]; simp
theorem GX.trans (g : GX G H G') (x : HX Ω H H') (st : StOk Ω S' H') (g' : GX G' H' G'') : GX G H G'' := fun a h => by
  rcases g' a (x.there st h) with z | ⟨q, e1, lt, e2⟩
  · rcases g a h with z2 | ⟨q, h1, lt, h2⟩
    · exact .inl (z.trans z2)
    · exact .inr ⟨q, h1, lt, z.trans h2⟩
  · cases h0 : H a with
    | none => exact absurd h0 h
    | some o =>
      have n1 : a ≠ Ω.as := fun e => by rw [e, st.dict] at e1; cases e1; rcases lt with ⟨_, z⟩ | ⟨_, z⟩ <;> cases z
      have n2 : a ≠ Ω.ag := fun e => by rw [e, st.great] at e1; cases e1; rcases lt with ⟨_, z⟩ | ⟨_, z⟩ <;> cases z
      have n3 : ∀ q ∈ Ω.tb, a ≠ q.1 := fun q hq e => by
        obtain ⟨ps, e3, _⟩ := st.tabs q hq
        rw [e, e3] at e1; cases e1; rcases lt with ⟨_, z⟩ | ⟨_, z⟩ <;> cases z
      have h1 := x a o h0 n1 n2 n3
      exact .inr ⟨q, by rw [← h1, e1], lt, by rw [e2, h1]⟩
/-- new objects, nothing else -/
theorem StOk.same (st : StOk Ω S H) (h : Same H H') : StOk Ω S H' := ⟨h _ _ st.dict, h _ _ st.great, h _ _ st.cells, st.tabs.ext h⟩
theorem Wd.grow (w : Wd Ω S G H) (h : Same H H') : Wd Ω S G H' := ⟨fun a o e => h a o (w.same a o e), w.ga, w.gg, w.gc, w.gt, w.nt, w.st.same h⟩
theorem same_upd {H : Hp} {p : Addr} {o : HO} (h : H p = none) : Same H (upd H p o) := fun b x e => by
  rw [upd_ne (ne_of_none e h)]
  exact e
theorem Wd.ne (w : Wd Ω S G H) {p : Addr} (h : H p = none) : p ≠ Ω.as ∧ p ≠ Ω.ag ∧ p ≠ Ω.ac ∧ ∀ q ∈ Ω.tb, p ≠ q.1 := by
  refine ⟨?_, ?_, ?_, fun q hq e => by
    obtain ⟨ps, e2, _⟩ := w.st.tabs q hq
    rw [← e, h] at e2; cases e2⟩
  · rintro rfl; rw [w.st.dict] at h; cases h
  · rintro rfl; rw [w.st.great] at h; cases h
  · rintro rfl; rw [w.st.cells] at h; cases h
theorem Wd.free (w : Wd Ω S G H) {p : Addr} (h : H p = none) : G p = none := by
  cases e : G p with
  | none => rfl
  | some o => rw [w.same p o e] at h; cases h
/-- a new object, frozen at once -/
theorem Wd.new (w : Wd Ω S G H) {p : Addr} (h : H p = none) (o : HO) (ho : ∀ ps, o ≠ .tbl ps := by intro _ z; cases z) : Wd Ω S (upd G p o) (upd H p o) := by
  obtain ⟨n1, n2, n3, n4⟩ := w.ne h
  refine ⟨fun a x e => ?_, ?_, ?_, ?_, fun q hq => by rw [upd_ne (Ne.symm (n4 q hq))]; exact w.gt q hq, fun a ps e => by
    by_cases hp : a = p
    · subst hp; rw [upd_same] at e; exact ho ps (Option.some.inj e)
    · rw [upd_ne hp] at e; exact w.nt a ps e, w.st.same (same_upd h)⟩
  · by_cases hp : a = p
    · subst hp; rw [upd_same] at e ⊢; exact e
    · rw [upd_ne hp] at e ⊢; exact w.same a x e
  · rw [upd_ne (Ne.symm n1)]; exact w.ga
  · rw [upd_ne (Ne.symm n2)]; exact w.gg
  · rw [upd_ne (Ne.symm n3)]; exact w.gc
theorem GX.new {p : Addr} (h : H p = none) (o : HO) : GX G H (upd G p o) := fun a ha => .inl (upd_ne fun e => ha (e ▸ h))
theorem HX.new {p : Addr} (h : H p = none) (o : HO) : HX Ω H (upd H p o) := .of (same_upd h)
end

/-- what is known at a def's entry: what was frozen, what stood, what is wanted of exceptions -/
structure Fr where
  G0 : Hp
  H0 : Hp
  E : XK
def RepX (Ω : Om) (G H : Hp) (c : Value) (d : Option Addr) (x : Exn) : Prop :=
  c = Ω.xc x.cls ∧ match d with
    | none => x.args = []
    | some a => x.args ≠ [] ∧ ∃ vs, Reps Ω G vs x.args ∧ H a = some (.xd ((Ω.xf x.cls).zip vs))
structure Fx (Ω : Om) (F : Fr) (S : DS) (G H : Hp) : Prop where
  w : Wd Ω S G H
  g : GX F.G0 F.H0 G
  h : HX Ω F.H0 H
  e : F.H0 Ω.as ≠ none ∧ F.H0 Ω.ag ≠ none ∧ F.H0 Ω.ac ≠ none ∧ ∀ q ∈ Ω.tb, F.H0 q.1 ≠ none
def Er (Ω : Om) (F : Fr) : Exn → DS → Prop := fun x S' => ∀ G' H' c d, Fx Ω F S' G' H' → RepX Ω G' H' c d x → F.E c d H'
section
variable {Ω : Om} {F : Fr} {S S' : DS} {G G' H H' : Hp}
theorem Fx.step (f : Fx Ω F S G H) (w : Wd Ω S' G' H') (g : GX G H G') (h : HX Ω H H') : Fx Ω F S' G' H' :=
  ⟨w, f.g.trans f.h f.w.st g, f.h.trans h, f.e⟩
theorem Fx.new (f : Fx Ω F S G H) {p : Addr} (h : H p = none) (o : HO) (ho : ∀ ps, o ≠ .tbl ps := by intro _ z; cases z) : Fx Ω F S (upd G p o) (upd H p o) := f.step (f.w.new h o ho) (GX.new h o) (HX.new h o)
theorem Fx.grow (f : Fx Ω F S G H) (h : Same H H') : Fx Ω F S G H' := f.step (f.w.grow h) (GX.refl _ _) (HX.of h)
end

/-! ### slots -/
inductive Cell where
  | no | dat (d : D)
  /-- a list, a dict that this def alone holds, and changes -/
  | own (ds : List D) | ownK (kvs : List (Key × D)) | ownT (kvs : List (List Key × D))
abbrev Env' := List Cell
def KDs {κ : Type} (Ω : Om) (G : Hp) (kvs : List (κ × V)) (ds : List (κ × D)) : Prop := kvs.map (·.1) = ds.map (·.1) ∧ Reps Ω G (kvs.map (·.2)) (ds.map (·.2))
/-- p is the def's own -/
structure Mine (Ω : Om) (F : Fr) (G : Hp) (p : Addr) : Prop where
  g : G p = none
  h0 : F.H0 p = none
def CellOk (Ω : Om) (F : Fr) (G H : Hp) (sv : Option V) : Cell → Prop
  | .no => True
  | .dat d => ∃ v, sv = some v ∧ Rep Ω G v d
  | .own ds => ∃ p vs, sv = some (.ref p) ∧ Mine Ω F G p ∧ H p = some (.lst vs) ∧ Reps Ω G vs ds
  | .ownK kvs => ∃ p vs, sv = some (.ref p) ∧ Mine Ω F G p ∧ H p = some (.dK vs) ∧ KDs Ω G vs kvs
  | .ownT kvs => ∃ p vs, sv = some (.ref p) ∧ Mine Ω F G p ∧ H p = some (.dT vs) ∧ KDs Ω G vs kvs
def Cell.isOwn : Cell → Bool
  | .own _ => true
  | .ownK _ => true
  | .ownT _ => true
  | _ => false
structure RInv (Ω : Om) (F : Fr) (ρ : Env') (S : DS) (G : Hp) (σ : L2.St) (H : Hp) : Prop where
  f : Fx Ω F S G H
  len : ρ.length = σ.length
  cell : ∀ (i : Nat) (c : Cell), ρ[i]? = some c → CellOk Ω F G H (σ[i]?.join) c
  inj : ∀ (i j : Nat) (c d : Cell) (p : Addr), ρ[i]? = some c → ρ[j]? = some d → c.isOwn = true → d.isOwn = true → σ[i]? = some (some (.ref p)) → σ[j]? = some (some (.ref p)) → i = j
section
variable {Ω : Om} {F : Fr} {ρ : Env'} {S S' : DS} {G G' H H' : Hp} {σ : L2.St} {p : Addr}
theorem Mine.ne (m : Mine Ω F G p) (f : Fx Ω F S G H) : p ≠ Ω.as ∧ p ≠ Ω.ag ∧ p ≠ Ω.ac ∧ ∀ q ∈ Ω.tb, p ≠ q.1 := by
  refine ⟨?_, ?_, ?_, fun q hq e => f.e.2.2.2 q hq (e ▸ m.h0)⟩
  · rintro rfl; exact f.e.1 m.h0
  · rintro rfl; exact f.e.2.1 m.h0
  · rintro rfl; exact f.e.2.2.1 m.h0
theorem CellOk.step {sv : Option V} {c : Cell} (k : CellOk Ω F G H sv c) (f : Fx Ω F S G H) (g : GX G H G') (h : HX Ω H H') : CellOk Ω F G' H' sv c := by
  have sg := g.same f.w.same
  cases c with
  | no => trivial
  | dat d => obtain ⟨v, e, r⟩ := k; exact ⟨v, e, r.same sg⟩
  | own ds =>
    obtain ⟨p, vs, e, m, hp, r⟩ := k
    obtain ⟨n1, n2, _, n4⟩ := m.ne f
    exact ⟨p, vs, e, ⟨(g.at hp (by intro _ z; cases z)).trans m.g, m.h0⟩, h p _ hp n1 n2 n4, r.same sg⟩
  | ownK ds =>
    obtain ⟨p, vs, e, m, hp, r1, r2⟩ := k
    obtain ⟨n1, n2, _, n4⟩ := m.ne f
    exact ⟨p, vs, e, ⟨(g.at hp (by intro _ z; cases z)).trans m.g, m.h0⟩, h p _ hp n1 n2 n4, r1, r2.same sg⟩
  | ownT ds =>
    obtain ⟨p, vs, e, m, hp, r1, r2⟩ := k
    obtain ⟨n1, n2, _, n4⟩ := m.ne f
    exact ⟨p, vs, e, ⟨(g.at hp (by intro _ z; cases z)).trans m.g, m.h0⟩, h p _ hp n1 n2 n4, r1, r2.same sg⟩
theorem RInv.step (I : RInv Ω F ρ S G σ H) (w : Wd Ω S' G' H') (g : GX G H G') (h : HX Ω H H') : RInv Ω F ρ S' G' σ H' :=
  ⟨I.f.step w g h, I.len, fun i c e => (I.cell i c e).step I.f g h, I.inj⟩
theorem RInv.dat (I : RInv Ω F ρ S G σ H) {i : Nat} {d : D} (e : ρ[i]? = some (.dat d)) : ∃ v, σ[i]? = some (some v) ∧ Rep Ω G v d := by
  obtain ⟨v, e', r⟩ := I.cell i _ e
  refine ⟨v, ?_, r⟩
  cases q : σ[i]? with
  | none => rw [q] at e'; cases e'
  | some o => rw [q] at e'; exact congrArg some e'
end

/-! ### readings -/
/-- what is wanted behind: R tells the data of what the machine has -/
def Pg {α β : Type} (Ω : Om) (R : Hp → β → α → Prop) (G H : Hp) (Q : β → Hp → Prop) : α → DS → Prop := fun a S' => ∀ G' H' b, Wd Ω S' G' H' → GX G H G' → HX Ω H H' → R G' b a → Q b H'
def tG {α β : Type} (R : Hp → β → α → Prop) (Ω : Om) (F : Fr) (ρ : Env') (m : M α) : L2.St → Hp → (β → Hp → Prop) → Prop := fun σ H Q =>
  ∃ S G, RInv Ω F ρ S G σ H ∧ m.wp (Pg Ω R G H Q) (Er Ω F) S
abbrev RD (Ω : Om) : Hp → V → D → Prop := fun G v d => Rep Ω G v d
abbrev RB : Hp → Bool → Bool → Prop := fun _ b c => b = c
abbrev RA (Ω : Om) : Hp → List V → List D → Prop := fun G vs ds => Reps Ω G vs ds
abbrev RO : Hp → Option Int → Option Int → Prop := fun _ b c => b = c
/-- of an expression, a test, arguments, an end of a slice -/
abbrev tD (Ω : Om) (F : Fr) (ρ : Env') (m : M D) : TE := tG (RD Ω) Ω F ρ m
abbrev tT (Ω : Om) (F : Fr) (ρ : Env') (m : M Bool) : TT := tG RB Ω F ρ m
abbrev tA (Ω : Om) (F : Fr) (ρ : Env') (m : M (List D)) : TA := tG (RA Ω) Ω F ρ m
abbrev tO (Ω : Om) (F : Fr) (ρ : Env') (m : M (Option Int)) : TO := tG RO Ω F ρ m
section
variable {Ω : Om} {F : Fr} {ρ : Env'} {S S' : DS} {G G' H H' : Hp} {σ : L2.St} {α β γ δ : Type} {R : Hp → β → α → Prop} {R' : Hp → δ → γ → Prop}
theorem Pg.step {Q : β → Hp → Prop} (w : Wd Ω S' G' H') (g : GX G H G') (h : HX Ω H H') {a : α} {S'' : DS} (p : Pg Ω R G H Q a S'') : Pg Ω R G' H' Q a S'' :=
  fun G2 H2 b w2 g2 h2 r => p G2 H2 b w2 (g.trans h w.st g2) (h.trans h2) r
/-- one behind another -/
theorem tG.bind {m : M α} {f : α → M γ} {Q : δ → Hp → Prop} (h : tG R' Ω F ρ (m >>= f) σ H Q) :
    tG R Ω F ρ m σ H fun b H1 => ∃ S1 G1 a, RInv Ω F ρ S1 G1 σ H1 ∧ R G1 b a ∧ (f a).wp (Pg Ω R' G1 H1 Q) (Er Ω F) S1 := by
  obtain ⟨S, G, I, h⟩ := h
  rw [wp_bind] at h
  refine ⟨S, G, I, h.imp fun a S1 h G1 H1 b w g x r => ⟨S1, G1, a, I.step w g x, r, h.imp fun c S2 p => p.step w g x⟩⟩
theorem tG.bindI {m : M α} {f : α → M γ} {Q : δ → Hp → Prop} (I : RInv Ω F ρ S G σ H) (h : (m >>= f).wp (Pg Ω R' G H Q) (Er Ω F) S) :
    tG R Ω F ρ m σ H fun b H1 => ∃ S1 G1 a, RInv Ω F ρ S1 G1 σ H1 ∧ Same G G1 ∧ R G1 b a ∧ (f a).wp (Pg Ω R' G1 H1 Q) (Er Ω F) S1 := by
  rw [wp_bind] at h
  exact ⟨S, G, I, h.imp fun a S1 h G1 H1 b w g x r => ⟨S1, G1, a, I.step w g x, g.same I.f.w.same, r, h.imp fun c S2 p => p.step w g x⟩⟩
theorem tG.mono {m : M α} {Q Q' : β → Hp → Prop} (h : tG R Ω F ρ m σ H Q) (q : ∀ b H', Q b H' → Q' b H') : tG R Ω F ρ m σ H Q' := by
  obtain ⟨S, G, I, h⟩ := h
  exact ⟨S, G, I, h.imp fun a S1 h G1 H1 b w g x r => q _ _ (h G1 H1 b w g x r)⟩
theorem tG.pure {a : α} {Q : β → Hp → Prop} (h : tG R Ω F ρ (Pure.pure a) σ H Q) : ∃ S G, RInv Ω F ρ S G σ H ∧ ∀ b, R G b a → Q b H := by
  obtain ⟨S, G, I, h⟩ := h
  exact ⟨S, G, I, fun b r => h G H b I.f.w (GX.refl _ _) (HX.refl _ _) r⟩
theorem tG.of {m : M α} {Q : β → Hp → Prop} (I : RInv Ω F ρ S G σ H) (h : m.wp (Pg Ω R G H Q) (Er Ω F) S) : tG R Ω F ρ m σ H Q := ⟨S, G, I, h⟩
end

/-! ### weaker readings -/
section
variable {X : Cx} {e : Expr}
theorem PEi {t t' : TE} (h : PE X e t) (i : ∀ σ H Q, t' σ H Q → t σ H Q) : PE X e t' := ⟨fun pins s σ H Q I q => h.run pins s σ H Q I (i σ H Q q)⟩
theorem PTi {t t' : TT} (h : PT X e t) (i : ∀ σ H Q, t' σ H Q → t σ H Q) : PT X e t' := ⟨fun pins s σ H Q I q => h.run pins s σ H Q I (i σ H Q q)⟩
theorem PWi {t t' : TT} (h : PW X e t) (i : ∀ σ H Q, t' σ H Q → t σ H Q) : PW X e t' := ⟨fun wh pins s σ H Q I q => h.run wh pins s σ H Q I (i σ H Q q)⟩
theorem PAi {es : List Expr} {t t' : TA} (h : PA X es t) (i : ∀ σ H Q, t' σ H Q → t σ H Q) : PA X es t' := ⟨fun pos pins s σ H Q I q => h.run pos pins s σ H Q I (i σ H Q q)⟩
theorem POi {eo : Option Expr} {t t' : TO} (h : PO X eo t) (i : ∀ σ H Q, t' σ H Q → t σ H Q) : PO X eo t' := ⟨fun pins s σ H Q I q => h.run pins s σ H Q I (i σ H Q q)⟩
theorem PSi {st : Stmt} {t t' : TS} (h : PS X st t) (i : ∀ D σ H, t' D σ H → t D σ H) : PS X st t' := ⟨fun pins s σ H D I q => h.run pins s σ H D I (i D σ H q)⟩
theorem PSsi {st : List Stmt} {t t' : TS} (h : PSs X st t) (i : ∀ D σ H, t' D σ H → t D σ H) : PSs X st t' := ⟨fun pins s σ H D I q => h.run pins s σ H D I (i D σ H q)⟩
theorem PEx {α : Type} {t : α → TE} (h : ∀ a, PE X e (t a)) : PE X e (fun σ H Q => ∃ a, t a σ H Q) := ⟨fun pins s σ H Q I ⟨a, q⟩ => (h a).run pins s σ H Q I q⟩
theorem PTx {α : Type} {t : α → TT} (h : ∀ a, PT X e (t a)) : PT X e (fun σ H Q => ∃ a, t a σ H Q) := ⟨fun pins s σ H Q I ⟨a, q⟩ => (h a).run pins s σ H Q I q⟩
theorem PTsx {es : List Expr} {α : Type} {t : α → TT} (h : ∀ a, PTs X es (t a)) : PTs X es (fun σ H Q => ∃ a, t a σ H Q) := ⟨fun pins s σ H Q I ⟨a, q⟩ => (h a).run pins s σ H Q I q⟩
theorem PSsx {st : List Stmt} {α : Type} {t : α → TS} (h : ∀ a, PSs X st (t a)) : PSs X st (fun D σ H => ∃ a, t a D σ H) := ⟨fun pins s σ H D I ⟨a, q⟩ => (h a).run pins s σ H D I q⟩
theorem PSx {st : Stmt} {α : Type} {t : α → TS} (h : ∀ a, PS X st (t a)) : PS X st (fun D σ H => ∃ a, t a D σ H) := ⟨fun pins s σ H D I ⟨a, q⟩ => (h a).run pins s σ H D I q⟩
end

/-! ### names and constants -/
section
variable {X : Cx} {Ω : Om} {F : Fr} {ρ : Env'}
theorem pdv (i : Nat) {x : Str} {pos : Pos} {d : D} (hc : ρ[i]? = some (.dat d) := by rfl) (hN : X.N[i]? = some x := by rfl) (hv : Vis X.env.scope x := by first | exact Or.inl rfl | exact Or.inr (Or.inl rfl) | exact Or.inr (Or.inr rfl)) (hd : (x == ("__debug__" : Str)) = false := by decide)
    (hcd : (x == ("__classdict__" : Str)) = false := by decide) : PE X (.Name x pos) (tD Ω F ρ (pure d)) := PEi (pe_var hN hv hd hcd) fun σ H Q h => by
  obtain ⟨S, G, I, h⟩ := h.pure
  obtain ⟨v, e, r⟩ := I.dat hc
  exact ⟨v, e, h v r⟩
theorem pdi {i : Int} {j pos} : PE X (.Constant (.int i) j pos) (tD Ω F ρ (pure (.int i))) := PEi pe_int fun σ H Q h => by
  obtain ⟨S, G, I, h⟩ := h.pure
  exact h _ (.int i)
theorem pdb {b : Bool} {j pos} : PE X (.Constant (.bool b) j pos) (tD Ω F ρ (pure (.bl b))) := PEi pe_bl fun σ H Q h => by
  obtain ⟨S, G, I, h⟩ := h.pure
  exact h _ (.bl b)
theorem pdn {j pos} : PE X (.Constant .none j pos) (tD Ω F ρ (pure .non)) := PEi pe_non fun σ H Q h => by
  obtain ⟨S, G, I, h⟩ := h.pure
  exact h _ .non
theorem pds {x : Str} {j pos} : PE X (.Constant (.str x) j pos) (tD Ω F ρ (pure (.str x))) := PEi pe_str fun σ H Q h => by
  obtain ⟨S, G, I, h⟩ := h.pure
  exact h _ (.str x)
/-- a constant of the module -/
theorem pdg {x : Str} {v : V} {u : Value} {d : D} {pos : Pos} (hg : Gl X x) (hm : X.mg x = some u) (r : RelV v u) (hr : ∀ G, Rep Ω G v d) (hd : (x == ("__debug__" : Str)) = false := by decide) : PE X (.Name x pos) (tD Ω F ρ (pure d)) := PEi (pe_glob hg hm r hd) fun σ H Q h => by
  obtain ⟨S, G, I, h⟩ := h.pure
  exact h _ (hr G)

/-! ### values of an operator -/
/-- of two values -/
def rD2 (Ω : Om) (F : Fr) (g : D → D → M D) : R2 := fun x y H Q => ∃ S G dx dy, Fx Ω F S G H ∧ Rep Ω G x dx ∧ Rep Ω G y dy ∧ (g dx dy).wp (Pg Ω (RD Ω) G H Q) (Er Ω F) S
def rD1 (Ω : Om) (F : Fr) (g : D → M D) : V → Hp → VK → Prop := fun x H Q => ∃ S G dx, Fx Ω F S G H ∧ Rep Ω G x dx ∧ (g dx).wp (Pg Ω (RD Ω) G H Q) (Er Ω F) S
def rDl (Ω : Om) (F : Fr) (g : List D → M D) : List V → Hp → VK → Prop := fun xs H Q => ∃ S G ds, Fx Ω F S G H ∧ Reps Ω G xs ds ∧ (g ds).wp (Pg Ω (RD Ω) G H Q) (Er Ω F) S
def op2 {α β γ : Type} (g : α → β → M γ) (a : M α) (b : M β) : M γ := a >>= fun x => b >>= fun y => g x y
def op1 {α γ : Type} (g : α → M γ) (a : M α) : M γ := a >>= g
variable {a b : Expr} {ma mb : M D} {pos : Pos}
theorem tOp_of {g : D → D → M D} {σ : L2.St} {H : Hp} {Q : VK} (h : tD Ω F ρ (op2 g ma mb) σ H Q) : tOp (rD2 Ω F g) (tD Ω F ρ ma) (tD Ω F ρ mb) σ H Q := by
  obtain ⟨S, G, I, h⟩ := h
  refine (tG.bindI (R := RD Ω) I h).mono fun x H1 ⟨S1, G1, dx, I1, s1, rx, h⟩ => ?_
  refine (tG.bindI (R := RD Ω) I1 h).mono fun y H2 ⟨S2, G2, dy, I2, s2, ry, h⟩ => ?_
  exact ⟨S2, G2, dx, dy, I2.f, rx.same s2, ry, h⟩
theorem tUn_of {g : D → M D} {σ : L2.St} {H : Hp} {Q : VK} (h : tD Ω F ρ (op1 g ma) σ H Q) : tUn (rD1 Ω F g) (tD Ω F ρ ma) σ H Q := by
  obtain ⟨S, G, I, h⟩ := h
  exact (tG.bindI (R := RD Ω) I h).mono fun x H1 ⟨S1, G1, dx, I1, s1, rx, h⟩ => ⟨S1, G1, dx, I1.f, rx, h⟩
end
end DL
set_option Elab.async false
set_option linter.all false
set_option maxRecDepth 100000
set_option autoImplicit false
/-! DL3: operators, comparisons, calls of built-ins, displays over data. -/
namespace DL
open PySem PySem.Spec PyProof.Rows L2

/-- the longest list, text -/
def lim : Nat := 16777216
theorem lim_eq : lim = sizeLine := sizeLine_eq.symm
def gd {α : Type} (c : Prop) [Decidable c] (m : M α) : M α := if c then m else M.stuck
theorem wp_gd {α : Type} {c : Prop} [Decidable c] {m : M α} {Q : α → DS → Prop} {E : Exn → DS → Prop} {s : DS} : (gd c m).wp Q E s = (c ∧ m.wp Q E s) := by
  unfold gd
  by_cases h : c
  · rw [if_pos h]; simp [h]
  · rw [if_neg h, wp_stuck]; simp [h]
theorem gd_pos {α : Type} {c : Prop} [Decidable c] {m : M α} (h : c) : gd c m = m := if_pos h

/-! ### tuple * 1 -/
theorem tupMul1 (l : Addr) (items : Array Value) (n : Nat) (dd : Option Addr) (sl : Array (Option Value)) (u : Tok) :
    Meets (Builtin.«tuple.__mul__» ⟨[.ref l, .int 1 u], []⟩) (fun _ R s => s.heap.get? l = some { cls := .type "tuple", dict := dd, data := .seq items n, slots := sl } ∧ R (.ok (.ret (.ref l))) s) :=
  .of_wp fun prog w A R s h => by
    obtain ⟨hp, gl, di, tk, os⟩ := s
    obtain ⟨hl, h⟩ := h
    have f1 := AutoSeq1.idx_int
    have hT : Shared.TypeIs ⟨hp, gl, di, tk, os⟩ (.ref l) "tuple" := ⟨_, hl, rfl⟩
    wp_walk using wpAny_loadPart' hl, wpAny_typeOf hT
    exact ⟨_, rfl, h⟩
theorem op_one {X : Cx} : OpR X (binaryOp .Mult) (fun x y H Q => ∃ l xs, x = .ref l ∧ y = .int 1 ∧ SqT X.K H l xs ∧ Q (.ref l) H) := by
  intro pins s σ H x y v u Q I rx ry h
  obtain ⟨l, xs, rfl, rfl, hT, q⟩ := h
  cases rx
  obtain ⟨t, rfl⟩ := ry
  obtain ⟨its, r, ⟨⟨cls, dd, data, sl⟩, ho, hcl, n, hd⟩, hs⟩ := I.tuple hT
  simp only at hcl hd
  subst hcl hd
  exact wpAny_binaryOp_repeat_ref (T := "tuple") (U := "int") (by decide) ⟨_, ho, rfl⟩ (fun s' => typeIs_int s' 1 t) noFill_tuple_mul PySem.F.fills_int_mul PySem.F.slot_int_rmul repeat_tuple PySem.F.slot_int_index.lookup
    (call_meets PySem.F.slot_int_rmul (typeIs_int s 1 t) PySem.F.entry_int_rmul (PySem.F.args_int_rmul_2 _ _) (int_rmul_tuple 1 t l its.toArray n dd sl)
      ⟨ho, rfl, ⟨_, ho, rfl⟩, call_meets PySem.F.slot_tuple_mul ⟨_, ho, rfl⟩ PySem.F.entry_tuple_mul (PySem.F.args_tuple_mul_2 _ _) (tupMul1 l its.toArray n dd sl t) ⟨ho, ⟨.ref l, H, I, rfl, q⟩⟩⟩)
section
variable {X : Cx} {Ω : Om} {F : Fr} {ρ : Env'} {S : DS} {G H : Hp}
theorem OpRi {f : Value → Value → Sem Value} {r r' : R2} (h : OpR X f r) (i : ∀ x y H Q, r' x y H Q → r x y H Q) : OpR X f r' := fun pins s σ H x y v u Q I rx ry q => h pins s σ H x y v u Q I rx ry (i x y H Q q)
theorem UnRi {f : Value → Sem Value} {r r' : V → Hp → VK → Prop} (h : UnR X f r) (i : ∀ x H Q, r' x H Q → r x H Q) : UnR X f r' := fun pins s σ H x v Q I rx q => h pins s σ H x v Q I rx (i x H Q q)
theorem CallRi {f : Value} {r r' : List V → Hp → VK → Prop} (h : CallR X f r) (i : ∀ xs H Q, r' xs H Q → r xs H Q) : CallR X f r' := fun pins s σ H xs us Q I rx q => h pins s σ H xs us Q I rx (i xs H Q q)
theorem IxRi {r r' : R2} (h : IxR X r) (i : ∀ x y H Q, r' x y H Q → r x y H Q) : IxR X r' := fun e sl pins s σ H x y v u Q I rx ry q => h e sl pins s σ H x y v u Q I rx ry (i x y H Q q)
theorem SlRi {r r' : V → Option Int → Option Int → Hp → VK → Prop} (h : SlR X r) (i : ∀ x l u H Q, r' x l u H Q → r x l u H Q) : SlR X r' := fun pins s σ H x v vl vu lo hi sl Q I rx hs pl pu q => h pins s σ H x v vl vu lo hi sl Q I rx hs pl pu (i x lo hi H Q q)

/-- a value told at once: the heap as it is -/
theorem Pg.here {Q : VK} {d : D} {v : V} (f : Fx Ω F S G H) (p : Pg Ω (RD Ω) G H Q d S) (r : Rep Ω G v d) : Q v H := p G H v f.w (GX.refl _ _) (HX.refl _ _) r
/-- a new object -/
theorem Pg.newO {Q : VK} {d : D} {p : Addr} {o : HO} (f : Fx Ω F S G H) (q : Pg Ω (RD Ω) G H Q d S) (h : H p = none) (r : Rep Ω (upd G p o) (.ref p) d) (ho : ∀ ps, o ≠ .tbl ps := by intro _ z; cases z) : Q (.ref p) (upd H p o) :=
  q _ _ _ (f.w.new h o ho) (GX.new h o) (HX.new h o) r
theorem Rep.newL {p : Addr} {vs : List V} {ds : List D} (w : Wd Ω S G H) (h : H p = none) (r : Reps Ω G vs ds) : Rep Ω (upd G p (.lst vs)) (.ref p) (.lst ds) :=
  .lst upd_same (r.same (same_upd (w.free h)))
theorem Rep.newT {p : Addr} {vs : List V} {ds : List D} (w : Wd Ω S G H) (h : H p = none) (r : Reps Ω G vs ds) : Rep Ω (upd G p (.tup vs)) (.ref p) (.tup false ds) :=
  .tup (x := false) upd_same (r.same (same_upd (w.free h)))
theorem Wd.tup {K : PySem.W.Frag} {a : Addr} {xs : List V} {x : Bool} (w : Wd Ω S G H) (q : TupAt G a x xs) : SqT K H a xs := .inl ((RdLe.of w.same).rd _ _ q.rd)
theorem Wd.lst {K : PySem.W.Frag} {a : Addr} {xs : List V} (w : Wd Ω S G H) (q : G a = some (.lst xs)) : SqL K H a xs := .inl (.inl (w.same _ _ q))

/-! ### + -/
def dAdd : D → D → M D
  | .int i, .int j => pure (.int (i + j))
  | .str x, .str y => gd (x.length + y.length ≤ lim) (pure (.str (x ++ y)))
  | .tup x xs, .tup y ys => gd (xs.length + ys.length ≤ lim) (pure (if xs.isEmpty then .tup y ys else if ys.isEmpty then .tup x xs else .tup false (xs ++ ys)))
  | .lst xs, .lst ys => gd (xs.length + ys.length ≤ lim) (pure (.lst (xs ++ ys)))
  | _, _ => M.stuck
theorem dop_add (hK : X.K = Ω.K) : OpR X (binaryOp .Add) (rD2 Ω F dAdd) := by
  refine OpRi (op_add.or (op_add_str.or (op_catA.or op_cat))) fun x y H Q ⟨S, G, dx, dy, f, rx, ry, h⟩ => ?_
  unfold dAdd at h
  split at h
  · cases rx; cases ry
    exact .inl ⟨_, _, rfl, rfl, Pg.here f h (.int _)⟩
  · cases rx; cases ry
    rw [wp_gd, lim_eq] at h
    exact .inr (.inl ⟨_, _, rfl, rfl, h.1, Pg.here f h.2 (.str _)⟩)
  · rw [wp_gd, lim_eq] at h
    obtain ⟨hl, h⟩ := h
    cases rx with
    | tup qx rx =>
      cases ry with
      | tup qy ry =>
        refine .inr (.inr (.inl ⟨_, _, _, _, rfl, rfl, f.w.tup qx, f.w.tup qy, by rw [rx.length, ry.length]; exact hl, fun e => ?_, fun nx e => ?_, fun nx ny p hp => ?_⟩))
        · subst e; cases rx
          exact Pg.here f h (.tup qy ry)
        · subst e; cases ry
          cases rx with
          | nil => exact absurd rfl nx
          | cons r t => exact Pg.here f h (.tup qx (.cons r t))
        · cases rx with
          | nil => exact absurd rfl nx
          | cons r t =>
            cases ry with
            | nil => exact absurd rfl ny
            | cons r' t' => exact Pg.newO f h hp (.newT f.w hp ((Reps.cons r t).append (.cons r' t')))
  · rw [wp_gd, lim_eq] at h
    obtain ⟨hl, h⟩ := h
    cases rx with
    | lst qx rx =>
      cases ry with
      | lst qy ry =>
        exact .inr (.inr (.inr ⟨_, _, _, _, rfl, rfl, f.w.same _ _ qx, f.w.same _ _ qy, by rw [rx.length, ry.length]; exact hl, fun p hp => Pg.newO f h hp (.newL f.w hp (rx.append ry))⟩))
  · exact h.elim
variable {a b c : Expr} {ma mb mc : M D} {pos : Pos}
theorem pdAdd (ha : PE X a (tD Ω F ρ ma)) (hb : PE X b (tD Ω F ρ mb)) (hK : X.K = Ω.K := by rfl) : PE X (.BinOp a .Add b pos) (tD Ω F ρ (op2 dAdd ma mb)) := PEi (pe_op (dop_add hK) ha hb) fun σ H Q h => tOp_of h
def dSub : D → D → M D
  | .int i, .int j => pure (.int (i - j))
  | _, _ => M.stuck
theorem dop_sub : OpR X (binaryOp .Sub) (rD2 Ω F dSub) := by
  refine OpRi op_sub fun x y H Q ⟨S, G, dx, dy, f, rx, ry, h⟩ => ?_
  unfold dSub at h
  split at h
  · cases rx; cases ry
    exact ⟨_, _, rfl, rfl, Pg.here f h (.int _)⟩
  · exact h.elim
theorem pdSub (ha : PE X a (tD Ω F ρ ma)) (hb : PE X b (tD Ω F ρ mb)) : PE X (.BinOp a .Sub b pos) (tD Ω F ρ (op2 dSub ma mb)) := PEi (pe_op dop_sub ha hb) fun σ H Q h => tOp_of h
/-- *: ints (one of them small), a tuple by a number, a list by a number -/
def dMul : D → D → M D
  | .int i, .int j => gd ((-(2 ^ 64) < i ∧ i < 2 ^ 64) ∨ (-(2 ^ 64) < j ∧ j < 2 ^ 64)) (pure (.int (i * j)))
  | .tup x xs, .int k => if k = 1 then pure (.tup x xs) else gd (xs ≠ [] ∧ 2 ≤ k ∧ k ≤ 1000 ∧ xs.length ≤ 1000) (pure (.tup false (List.replicate k.toNat xs).flatten))
  | .lst xs, .int k => gd (0 ≤ k ∧ k ≤ 1000000 ∧ xs.length * k.toNat ≤ lim) (pure (.lst (List.replicate k.toNat xs).flatten))
  | _, _ => M.stuck
theorem Reps.rep {vs : List V} {ds : List D} (r : Reps Ω G vs ds) : ∀ k : Nat, Reps Ω G (List.replicate k vs).flatten (List.replicate k ds).flatten
  | 0 => .nil
  | k + 1 => by
    rw [List.replicate_succ, List.replicate_succ, List.flatten_cons, List.flatten_cons]
    exact r.append (Reps.rep r k)
theorem dop_mul (hK : X.K = Ω.K) : OpR X (binaryOp .Mult) (rD2 Ω F dMul) := by
  refine OpRi (op_one.or (op_mul.or (op_repT.or op_rep))) fun x y H Q ⟨S, G, dx, dy, f, rx, ry, h⟩ => ?_
  unfold dMul at h
  split at h
  · cases rx; cases ry
    rw [wp_gd] at h
    exact .inr (.inl ⟨_, _, rfl, rfl, h.1, Pg.here f h.2 (.int _)⟩)
  · rename_i k
    by_cases hk : k = 1
    · subst hk
      rw [if_pos rfl] at h
      cases ry
      cases rx with
      | tup qx rx => exact .inl ⟨_, _, rfl, rfl, f.w.tup qx, Pg.here f h (.tup qx rx)⟩
    · rw [if_neg hk, wp_gd] at h
      obtain ⟨⟨h0, h1, h2, h3⟩, h⟩ := h
      cases ry
      cases rx with
      | tup qx rx =>
        refine .inr (.inr (.inl ⟨_, _, _, rfl, rfl, f.w.tup qx, fun e => ?_, h1, h2, by rw [rx.length]; exact h3, fun p hp => Pg.newO f h hp (.newT f.w hp (rx.rep _))⟩))
        subst e; cases rx; exact h0 rfl
  · rw [wp_gd, lim_eq] at h
    obtain ⟨⟨h0, h1, h2⟩, h⟩ := h
    cases ry
    cases rx with
    | lst qx rx =>
      exact .inr (.inr (.inr ⟨_, _, _, rfl, rfl, f.w.same _ _ qx, by omega, by omega, by rw [rx.length]; exact h2, fun p hp => Pg.newO f h hp (.newL f.w hp (rx.rep _))⟩))
  · exact h.elim
theorem pdMul (ha : PE X a (tD Ω F ρ ma)) (hb : PE X b (tD Ω F ρ mb)) (hK : X.K = Ω.K := by rfl) : PE X (.BinOp a .Mult b pos) (tD Ω F ρ (op2 dMul ma mb)) := PEi (pe_op (dop_mul hK) ha hb) fun σ H Q h => tOp_of h
def dNeg : D → M D
  | .int i => pure (.int (-i))
  | _ => M.stuck
theorem pdNeg (ha : PE X a (tD Ω F ρ ma)) : PE X (.UnaryOp .USub a pos) (tD Ω F ρ (op1 dNeg ma)) := by
  refine PEi (pe_un (UnRi un_neg fun x H Q ⟨S, G, dx, f, rx, h⟩ => ?_) ha) fun σ H Q h => tUn_of h
  unfold dNeg at h
  split at h
  · cases rx
    exact ⟨_, rfl, Pg.here f h (.int _)⟩
  · exact h.elim

/-! ### tests -/
def asB : D → M Bool
  | .bl b => pure b
  | _ => M.stuck
/-- an expression that gives a truth, as a test -/
theorem ptv {e : Expr} {m : M D} (h : PE X e (tD Ω F ρ m)) (he : ∀ whole, isTrue e X.env whole = (do let v ← whole; standAt e.pos; holding [v] (truthy v)) := by intro _; rfl) : PT X e (tT Ω F ρ (m >>= asB)) :=
  PTi (pt_val h he) fun σ H Q ⟨S, G, I, h⟩ => (tG.bindI (R := RD Ω) I h).mono fun x H1 ⟨S1, G1, d, I1, s1, r, h1⟩ => by
    cases d with
    | bl b =>
      cases r
      exact ⟨b, rfl, h1 G1 H1 b I1.f.w (GX.refl _ _) (HX.refl _ _) rfl⟩
    | _ => exact h1.elim
def tNotD (m : M Bool) : M Bool := m >>= fun b => pure (!b)
theorem ptNot {m : M Bool} (h : PT X a (tT Ω F ρ m)) : PT X (.UnaryOp .Not a pos) (tT Ω F ρ (m >>= fun b => pure (!b))) :=
  PTi (pt_not h) fun σ H Q ⟨S, G, I, h⟩ => (tG.bindI (R := RB) I h).mono fun b H1 ⟨S1, G1, d, I1, s1, r, h1⟩ => by
    cases r
    exact h1 G1 H1 _ I1.f.w (GX.refl _ _) (HX.refl _ _) rfl
variable {rest : List Expr} {mA mB : M Bool}
theorem pwAnd1 (ha : PT X a (tT Ω F ρ mA)) : PW X (.BoolOp .And [a] pos) (tT Ω F ρ mA) := pw_and1 ha
theorem pwOr1 (ha : PT X a (tT Ω F ρ mA)) : PW X (.BoolOp .Or [a] pos) (tT Ω F ρ mA) := pw_or1 ha
theorem pwAnd (ha : PT X a (tT Ω F ρ mA)) (hb : PW X (.BoolOp .And (b :: rest) pos) (tT Ω F ρ mB)) : PW X (.BoolOp .And (a :: b :: rest) pos) (tT Ω F ρ (mA >>= fun x => if x = true then mB else pure false)) :=
  PWi (pw_and ha hb) fun σ H Q ⟨S, G, I, h⟩ => (tG.bindI (R := RB) I h).mono fun x H1 ⟨S1, G1, d, I1, s1, r, h1⟩ => by
    cases r
    cases x with
    | true => rw [if_pos rfl] at h1 ⊢; exact ⟨S1, G1, I1, h1⟩
    | false => rw [if_neg Bool.false_ne_true] at h1 ⊢; exact h1 G1 H1 _ I1.f.w (GX.refl _ _) (HX.refl _ _) rfl
theorem pwOr (ha : PT X a (tT Ω F ρ mA)) (hb : PW X (.BoolOp .Or (b :: rest) pos) (tT Ω F ρ mB)) : PW X (.BoolOp .Or (a :: b :: rest) pos) (tT Ω F ρ (mA >>= fun x => if x = true then pure true else mB)) :=
  PWi (pw_or ha hb) fun σ H Q ⟨S, G, I, h⟩ => (tG.bindI (R := RB) I h).mono fun x H1 ⟨S1, G1, d, I1, s1, r, h1⟩ => by
    cases r
    cases x with
    | false => rw [if_neg Bool.false_ne_true] at h1 ⊢; exact ⟨S1, G1, I1, h1⟩
    | true => rw [if_pos rfl] at h1 ⊢; exact h1 G1 H1 _ I1.f.w (GX.refl _ _) (HX.refl _ _) rfl
/-! ### the same as values -/
def dAnd (ma mb : M D) : M D := ma >>= fun x => match x with
  | .bl true => mb
  | .bl false => pure (.bl false)
  | _ => M.stuck
def dOr (ma mb : M D) : M D := ma >>= fun x => match x with
  | .bl true => pure (.bl true)
  | .bl false => mb
  | _ => M.stuck
def dNot : D → M D
  | .bl b => pure (.bl (!b))
  | _ => M.stuck
theorem pdOne {op} (ha : PE X a (tD Ω F ρ ma)) : PE X (.BoolOp op [a] pos) (tD Ω F ρ ma) := pe_one ha
theorem pdAnd (ha : PE X a (tD Ω F ρ ma)) (hb : PE X (.BoolOp .And (b :: rest) pos) (tD Ω F ρ mb)) : PE X (.BoolOp .And (a :: b :: rest) pos) (tD Ω F ρ (dAnd ma mb)) :=
  PEi (pe_and ha hb) fun σ H Q ⟨S, G, I, h⟩ => (tG.bindI (R := RD Ω) I h).mono fun x H1 ⟨S1, G1, d, I1, s1, r, h1⟩ => by
    cases d with
    | bl k =>
      cases r
      cases k with
      | true => exact ⟨true, rfl, by rw [if_pos rfl]; exact ⟨S1, G1, I1, h1⟩⟩
      | false => exact ⟨false, rfl, by rw [if_neg Bool.false_ne_true]; exact h1 G1 H1 _ I1.f.w (GX.refl _ _) (HX.refl _ _) (.bl _)⟩
    | _ => exact h1.elim
theorem pdOr (ha : PE X a (tD Ω F ρ ma)) (hb : PE X (.BoolOp .Or (b :: rest) pos) (tD Ω F ρ mb)) : PE X (.BoolOp .Or (a :: b :: rest) pos) (tD Ω F ρ (dOr ma mb)) :=
  PEi (pe_or ha hb) fun σ H Q ⟨S, G, I, h⟩ => (tG.bindI (R := RD Ω) I h).mono fun x H1 ⟨S1, G1, d, I1, s1, r, h1⟩ => by
    cases d with
    | bl k =>
      cases r
      cases k with
      | false => exact ⟨false, rfl, by rw [if_neg Bool.false_ne_true]; exact ⟨S1, G1, I1, h1⟩⟩
      | true => exact ⟨true, rfl, by rw [if_pos rfl]; exact h1 G1 H1 _ I1.f.w (GX.refl _ _) (HX.refl _ _) (.bl _)⟩
    | _ => exact h1.elim
theorem pdNot (ha : PE X a (tD Ω F ρ ma)) : PE X (.UnaryOp .Not a pos) (tD Ω F ρ (op1 dNot ma)) :=
  PEi (pe_not ha) fun σ H Q ⟨S, G, I, h⟩ => (tG.bindI (R := RD Ω) I h).mono fun x H1 ⟨S1, G1, d, I1, s1, r, h1⟩ => by
    cases d with
    | bl k => cases r; exact ⟨k, rfl, h1 G1 H1 _ I1.f.w (GX.refl _ _) (HX.refl _ _) (.bl _)⟩
    | _ => exact h1.elim
theorem pdIf {m : M Bool} (hc : PT X c (tT Ω F ρ m)) (ha : PE X a (tD Ω F ρ ma)) (hb : PE X b (tD Ω F ρ mb)) : PE X (.IfExp c a b pos) (tD Ω F ρ (m >>= fun x => if x = true then ma else mb)) :=
  PEi (pe_ifExp hc ha hb) fun σ H Q ⟨S, G, I, h⟩ => (tG.bindI (R := RB) I h).mono fun x H1 ⟨S1, G1, d, I1, s1, r, h1⟩ => by
    cases r
    cases x with
    | false => rw [if_neg Bool.false_ne_true] at h1 ⊢; exact ⟨S1, G1, I1, h1⟩
    | true => rw [if_pos rfl] at h1 ⊢; exact ⟨S1, G1, I1, h1⟩

/-! ### comparisons -/
def D.eqv (d e : D) : Bool := PyData.eqv d.py e.py
def D.pl (d : D) : Bool := d.py.plain
/-- plain, not nested beyond 64 -/
def D.sh (d : D) : Bool := d.py.plain && decide (d.py.depth ≤ 64)
def dEq (d e : D) : M D := gd (d.sh = true ∧ e.sh = true) (pure (.bl (D.eqv d e)))
def dNe (d e : D) : M D := gd (d.sh = true ∧ e.sh = true) (pure (.bl (!D.eqv d e)))
theorem sh_pl {d : D} (h : d.sh = true) : d.py.plain = true := by unfold D.sh at h; simp at h; exact h.1
theorem sh_dp {d : D} (h : d.sh = true) : d.py.depth ≤ 64 := by unfold D.sh at h; simp at h; exact h.2
theorem Dp.same {K : PySem.W.Frag} {H H' : Hp} (s : Same H H') : ∀ (d : PyData) (v : V), Dp K H v d → Dp K H' v d := fun d => by
  refine PyData.rec (motive_1 := fun d => ∀ v, Dp K H v d → Dp K H' v d) (motive_2 := fun ds => ∀ vs, DpAll K H vs ds → DpAll K H' vs ds) (motive_3 := fun _ => True) (motive_4 := fun _ => True) ?_ ?_ ?_ ?_ ?_ ?_ ?_ ?_ ?_ ?_ ?_ ?_ d
  · intro v h; cases h; exact .non
  · intro b v h; cases h; exact .bl _
  · intro b v h; cases h; exact .int _
  · intro b v h; cases h; exact .str _
  · intro xs ih v h
    cases h with
    | lst q r => exact .lst (s.seq q) (ih _ r)
  · intro xs ih v h
    cases h with
    | tup q r => exact .tup ((RdLe.of s).sqT q) (ih _ r)
  · intro kvs _ v h; cases h
  · intro vs h; cases h; exact .nil
  · intro d ds h1 h2 vs h
    cases h with
    | cons a b => exact .cons (h1 _ a) (h2 _ b)
  · trivial
  · intros; trivial
  · intros; trivial
theorem Rep.dpH {d : D} {v : V} (r : Rep Ω G v d) (p : d.py.plain = true) (w : Wd Ω S G H) : Dp Ω.K H v d.py := Dp.same w.same _ _ (r.dp _ _ p)
theorem dop_eq (hK : X.K = Ω.K) (hu : X.A.units + 64 < cLine) : OpR X (compareOp .Eq) (rD2 Ω F dEq) := by
  intro pins s σ H x y v u Q I rx ry ⟨S, G, dx, dy, f, qx, qy, h⟩
  unfold dEq at h
  rw [wp_gd] at h
  obtain ⟨⟨h1, h2⟩, h⟩ := h
  obtain ⟨as, r1⟩ := Dp.reads I _ x v (hK ▸ qx.dpH (sh_pl h1) f.w) rx
  obtain ⟨bs, r2⟩ := Dp.reads I _ y u (hK ▸ qy.dpH (sh_pl h2) f.w) ry
  have hd := sh_dp h1
  exact PySem.SeqAt.eq_plain r1 r2 (sh_pl h1) (sh_pl h2) (by omega) ⟨.bl _, H, I, rfl, Pg.here f h (.bl _)⟩
theorem dop_ne (hK : X.K = Ω.K) (hu : X.A.units + 64 < cLine) : OpR X (compareOp .NotEq) (rD2 Ω F dNe) := by
  intro pins s σ H x y v u Q I rx ry ⟨S, G, dx, dy, f, qx, qy, h⟩
  unfold dNe at h
  rw [wp_gd] at h
  obtain ⟨⟨h1, h2⟩, h⟩ := h
  obtain ⟨as, r1⟩ := Dp.reads I _ x v (hK ▸ qx.dpH (sh_pl h1) f.w) rx
  obtain ⟨bs, r2⟩ := Dp.reads I _ y u (hK ▸ qy.dpH (sh_pl h2) f.w) ry
  have hd := sh_dp h1
  exact PySem.SeqAt.ne_plain r1 r2 (sh_pl h1) (sh_pl h2) (by omega) ⟨.bl _, H, I, rfl, Pg.here f h (.bl _)⟩
end
end DL
set_option Elab.async false
set_option linter.all false
set_option maxRecDepth 100000
set_option autoImplicit false
/-! DL4: in, <, is, chains, subscripts, slices, calls of built-ins, displays. -/
namespace DL
open PySem PySem.Spec PyProof.Rows L2

/-! ### keys of dicts -/
def D.key? : D → Option Key
  | .int i => some (.inl i)
  | .str x => some (.inr x)
  | _ => none
def D.keys? : List D → Option (List Key)
  | [] => some []
  | d :: ds => match d.key?, D.keys? ds with
    | some k, some ks => some (k :: ks)
    | _, _ => none
theorem key?_eq {d : D} {k : Key} (h : d.key? = some k) : d = keyD k := by
  cases d <;> simp [D.key?] at h <;> subst h <;> rfl
theorem keys?_eq : ∀ {ds : List D} {ks : List Key}, D.keys? ds = some ks → ds = ks.map keyD
  | [], ks, h => by simp [D.keys?] at h; subst h; rfl
  | d :: ds, ks, h => by
    unfold D.keys? at h
    split at h
    · rename_i k ks' h1 h2
      cases h
      rw [key?_eq h1, keys?_eq h2]; rfl
    · cases h
theorem key?_keyD : ∀ k : Key, (keyD k).key? = some k
  | .inl _ => rfl
  | .inr _ => rfl
theorem keys?_map : ∀ ks : List Key, D.keys? (ks.map keyD) = some ks
  | [] => rfl
  | k :: ks => by simp [D.keys?, key?_keyD, keys?_map ks]
section
variable {Ω : Om} {G H : Hp} {S : DS}
theorem Rep.keyV {v : V} {k : Key} (r : Rep Ω G v (keyD k)) : v = kV k := by
  cases k <;> (cases r; rfl)
theorem Reps.keysV : ∀ {vs : List V} {ks : List Key}, Reps Ω G vs (ks.map keyD) → vs = ks.map kV
  | _, [], r => by cases r; rfl
  | _, k :: ks, r => by
    cases r with
    | cons r t => rw [r.keyV, Reps.keysV t]; rfl
end
/-- a tuple of texts and ints, as a key -/
def D.tkey? : D → Option (List Key)
  | .tup false ds => D.keys? ds
  | _ => none
def D.tkeys? : List D → Option (List (List Key))
  | [] => some []
  | d :: ds => match d.tkey?, D.tkeys? ds with
    | some k, some ks => some (k :: ks)
    | _, _ => none
theorem tkeys?_map : ∀ ks : List (List Key), D.tkeys? (ks.map fun k => D.tup false (k.map keyD)) = some ks
  | [] => rfl
  | k :: ks => by simp [D.tkeys?, D.tkey?, keys?_map, tkeys?_map ks]
def alook {κ α : Type} [DecidableEq κ] (kvs : List (κ × α)) (k : κ) : Option α := (kvs.find? fun p => decide (p.1 = k)).map (·.2)
/-- what a dict holds at a key: by its keys and values -/
def dLook (t : Bool) (ks vs : List D) (d : D) : M (Option D) := match t with
  | false => match D.keys? ks, d.key? with
    | some kk, some k => pure (alook (kk.zip vs) k)
    | _, _ => M.stuck
  | true => match D.tkeys? ks, d.tkey? with
    | some kk, some k => pure (alook (kk.zip vs) k)
    | _, _ => M.stuck
section
variable {Ω : Om} {G H : Hp} {S : DS}
def RepO (Ω : Om) (G : Hp) : Option V → Option D → Prop
  | none, none => True
  | some v, some d => Rep Ω G v d
  | _, _ => False
theorem RepO.isSome {o : Option V} {od : Option D} (h : RepO Ω G o od) : o.isSome = od.isSome := by
  cases o <;> cases od <;> first | rfl | exact h.elim
theorem look_rep {κ : Type} [DecidableEq κ] (k : κ) : ∀ (kvs : List (κ × V)) (ds : List D), Reps Ω G (kvs.map (·.2)) ds → RepO Ω G (valV kvs k) (alook ((kvs.map (·.1)).zip ds) k)
  | [], ds, r => by cases r; exact True.intro
  | (k', v) :: kvs, ds, r => by
    cases r with
    | cons r t =>
      by_cases e : k' = k
      · rw [valV_pos (p := (k', v)) e]
        simp only [alook, List.map_cons, List.zip_cons_cons, List.find?_cons, e, decide_true]
        exact r
      · rw [valV_neg (p := (k', v)) e]
        have := look_rep k kvs _ t
        simp only [alook, List.map_cons, List.zip_cons_cons, List.find?_cons, e, decide_false] at this ⊢
        exact this
theorem look_get {a : Addr} {x : V} {t : Bool} {ks vs : List D} {d : D} {P : Option D → DS → Prop} {E : Exn → DS → Prop} (w : Wd Ω S G H) (q : Rep Ω G (.ref a) (.dct t ks vs)) (r : Rep Ω G x d) (h : (dLook t ks vs d).wp P E S) :
    ∃ o od, DGet H a x o ∧ RepO Ω G o od ∧ P od S := by
  cases q with
  | @dK a kvs _ q qs =>
    have e : D.keys? (kvs.map fun kv => keyD kv.1) = some (kvs.map (·.1)) := by
      rw [← keys?_map, List.map_map]; rfl
    unfold dLook at h
    simp only [e] at h
    cases hk : d.key? with
    | none => rw [hk] at h; exact h.elim
    | some k =>
      rw [hk] at h
      have := key?_eq hk
      subst this
      have ex := r.keyV
      subst ex
      exact ⟨_, _, .inl ⟨kvs, k, (RdLe.of w.same).rd _ _ q.rd, rfl, rfl⟩, look_rep k kvs _ qs, h⟩
  | @dT a kvs _ q qs =>
    have e : D.tkeys? (kvs.map fun kv => D.tup false (kv.1.map keyD)) = some (kvs.map (·.1)) := by
      rw [← tkeys?_map, List.map_map]; rfl
    unfold dLook at h
    simp only [e] at h
    cases hk : d.tkey? with
    | none => rw [hk] at h; exact h.elim
    | some k =>
      rw [hk] at h
      unfold D.tkey? at hk
      split at hk
      · have := keys?_eq hk
        subst this
        cases r with
        | @tup b _ xs _ tq tr =>
          have := tr.keysV
          subst this
          exact ⟨_, _, .inr ⟨kvs, k, b, (RdLe.of w.same).rd _ _ q.rd, rfl, w.same _ _ tq, rfl⟩, look_rep k kvs _ qs, h⟩
      · cases hk
end

section
variable {X : Cx} {Ω : Om} {F : Fr} {ρ : Env'} {S : DS} {G H : Hp}

/-! ### in -/
def D.anyEqv (d : D) (xs : List D) : Bool := xs.any fun z => D.eqv z d
def dInB (d : D) : D → M Bool
  | .tup _ xs => gd (d.sh = true ∧ xs.all D.sh = true) (pure (D.anyEqv d xs))
  | .lst xs => gd (d.sh = true ∧ xs.all D.sh = true) (pure (D.anyEqv d xs))
  | .str z => match d with
    | .str x => gd (x.cps.size = 1) (pure (decide (x.cps.getD 0 0 ∈ z.cps.toList)))
    | _ => M.stuck
  | .dct t ks vs => dLook t ks vs d >>= fun o => pure o.isSome
  | _ => M.stuck
theorem one_sign {x : Str} (h : x.cps.size = 1) : x = ⟨#[x.cps.getD 0 0]⟩ := by
  obtain ⟨⟨l⟩⟩ := x
  match l, h with
  | [c], _ => rfl
def dIn (d e : D) : M D := dInB d e >>= fun b => pure (.bl b)
def dNotIn (d e : D) : M D := dInB d e >>= fun b => pure (.bl (!b))
theorem any_pys (d : D) (xs : List D) : ((D.pys xs).any fun y => PyData.eqv y d.py) = D.anyEqv d xs := by
  rw [D.pys_map, List.any_map]; rfl
theorem plainAll_of : ∀ {xs : List D}, xs.all D.sh = true → PyData.plainAll (D.pys xs) = true
  | [], _ => rfl
  | x :: xs, h => by
    rw [List.all_cons, Bool.and_eq_true] at h
    simp only [D.pys, PyData.plainAll, Bool.and_eq_true]
    exact ⟨sh_pl h.1, plainAll_of h.2⟩
theorem in_reads {c x : Value} {d e : D} {as bs : List Addr} {P : Program} {w : World} {A : Around} {E : Value → Shared → Prop} {s : Shared} {Q : Value → Shared → Prop} {b : Bool} {neg : Bool} (hu : A.units + 65 < cLine)
    (h : (∃ xs, ((∃ x, e = .tup x xs) ∨ e = .lst xs) ∧ d.sh = true ∧ xs.all D.sh = true ∧ b = D.anyEqv d xs)) (rc : Reads s.heap c e.py as) (rx : Reads s.heap x d.py bs) (q : Q (.bool (if neg then !b else b)) s) :
    wpAny (model P w) A (compareOp (if neg then .NotIn else .In) x c) Q E s := by
  obtain ⟨xs, he, h1, h2, rfl⟩ := h
  have hd := sh_dp h1
  rcases he with ⟨x, rfl⟩ | rfl
  · cases neg
    · exact PySem.SeqAt.in_tuple_data rc rx (plainAll_of h2) (sh_pl h1) (by omega) (by rw [any_pys]; exact q)
    · exact PySem.SeqAt.notIn_tuple_data rc rx (plainAll_of h2) (sh_pl h1) (by omega) (by rw [any_pys]; exact q)
  · cases neg
    · exact PySem.SeqAt.in_list_data rc rx (plainAll_of h2) (sh_pl h1) (by omega) (by rw [any_pys]; exact q)
    · exact PySem.SeqAt.notIn_list_data rc rx (plainAll_of h2) (sh_pl h1) (by omega) (by rw [any_pys]; exact q)
theorem sq_plain {x : Bool} {xs : List D} (h : xs.all D.sh = true) : (D.tup x xs).py.plain = true ∧ (D.lst xs).py.plain = true := by
  simp only [D.py, PyData.plain]
  exact ⟨plainAll_of h, plainAll_of h⟩
theorem dop_in (hK : X.K = Ω.K) (hu : X.A.units + 65 < cLine) : OpR X (compareOp .In) (rD2 Ω F dIn) := by
  intro pins s σ H x y v u Q I rx ry ⟨S, G, dx, dy, f, qx, qy, h⟩
  unfold dIn at h
  rw [wp_bind] at h
  unfold dInB at h
  split at h
  · rw [wp_gd] at h
    obtain ⟨⟨h1, h2⟩, h⟩ := h
    obtain ⟨as, r1⟩ := Dp.reads I _ x v (hK ▸ qx.dpH (sh_pl h1) f.w) rx
    obtain ⟨bs, r2⟩ := Dp.reads I _ y u (hK ▸ qy.dpH (sq_plain h2).1 f.w) ry
    exact in_reads (neg := false) hu ⟨_, .inl ⟨_, rfl⟩, h1, h2, rfl⟩ r2 r1 ⟨.bl _, H, I, rfl, Pg.here f h (.bl _)⟩
  · rw [wp_gd] at h
    obtain ⟨⟨h1, h2⟩, h⟩ := h
    obtain ⟨as, r1⟩ := Dp.reads I _ x v (hK ▸ qx.dpH (sh_pl h1) f.w) rx
    obtain ⟨bs, r2⟩ := Dp.reads I _ y u (hK ▸ qy.dpH (sq_plain (x := false) h2).2 f.w) ry
    exact in_reads (neg := false) hu ⟨_, .inr rfl, h1, h2, rfl⟩ r2 r1 ⟨.bl _, H, I, rfl, Pg.here f h (.bl _)⟩
  · split at h
    · rw [wp_gd] at h
      cases qx; cases qy
      exact op_in_sign pins s σ H _ _ v u Q I rx ry ⟨_, _, congrArg V.str (one_sign h.1), rfl, Pg.here f h.2 (.bl _)⟩
    · exact h.elim
  · rw [wp_bind] at h
    obtain ⟨a, rfl⟩ : ∃ a, y = .ref a := by cases qy <;> exact ⟨_, rfl⟩
    cases ry
    obtain ⟨o, od, g, ro, h⟩ := look_get f.w qy qx h
    refine d_in (by omega) I g rx fun s' I' => ?_
    rw [ro.isSome]
    exact ⟨.bl _, H, I', rfl, Pg.here f h (.bl _)⟩
  · exact h.elim
theorem dop_notIn (hK : X.K = Ω.K) (hu : X.A.units + 65 < cLine) : OpR X (compareOp .NotIn) (rD2 Ω F dNotIn) := by
  intro pins s σ H x y v u Q I rx ry ⟨S, G, dx, dy, f, qx, qy, h⟩
  unfold dNotIn at h
  rw [wp_bind] at h
  unfold dInB at h
  split at h
  · rw [wp_gd] at h
    obtain ⟨⟨h1, h2⟩, h⟩ := h
    obtain ⟨as, r1⟩ := Dp.reads I _ x v (hK ▸ qx.dpH (sh_pl h1) f.w) rx
    obtain ⟨bs, r2⟩ := Dp.reads I _ y u (hK ▸ qy.dpH (sq_plain h2).1 f.w) ry
    exact in_reads (neg := true) hu ⟨_, .inl ⟨_, rfl⟩, h1, h2, rfl⟩ r2 r1 ⟨.bl _, H, I, rfl, Pg.here f h (.bl _)⟩
  · rw [wp_gd] at h
    obtain ⟨⟨h1, h2⟩, h⟩ := h
    obtain ⟨as, r1⟩ := Dp.reads I _ x v (hK ▸ qx.dpH (sh_pl h1) f.w) rx
    obtain ⟨bs, r2⟩ := Dp.reads I _ y u (hK ▸ qy.dpH (sq_plain (x := false) h2).2 f.w) ry
    exact in_reads (neg := true) hu ⟨_, .inr rfl, h1, h2, rfl⟩ r2 r1 ⟨.bl _, H, I, rfl, Pg.here f h (.bl _)⟩
  · split at h
    · rw [wp_gd] at h
      cases qx; cases qy
      exact op_notIn_sign pins s σ H _ _ v u Q I rx ry ⟨_, _, congrArg V.str (one_sign h.1), rfl, Pg.here f h.2 (.bl _)⟩
    · exact h.elim
  · rw [wp_bind] at h
    obtain ⟨a, rfl⟩ : ∃ a, y = .ref a := by cases qy <;> exact ⟨_, rfl⟩
    cases ry
    obtain ⟨o, od, g, ro, h⟩ := look_get f.w qy qx h
    refine d_notIn (by omega) I g rx fun s' I' => ?_
    rw [ro.isSome]
    exact ⟨.bl _, H, I', rfl, Pg.here f h (.bl _)⟩
  · exact h.elim

/-! ### order -/
def ltStr (x y : Str) : Bool := decide (x.cps.toList < y.cps.toList)
def D.isNon : D → Bool
  | .non => true
  | _ => false
theorem not_none {d : D} (h : d.isNon = false) (p : d.py.plain = true) : d.py ≠ .none := by
  cases d <;> simp [D.isNon, D.py] at h ⊢
def D.lt (d e : D) : Bool := PySem.W.dataLt d.py e.py
def D.alk (d e : D) : Bool := PySem.W.alike d.py e.py
/-- <: data alike -/
def dCmp (g : D → D → Bool) (d e : D) : M D := gd (D.alk d e = true ∧ d.sh = true ∧ e.sh = true ∧ d.isNon = false) (pure (.bl (g d e)))
abbrev dLt : D → D → M D := dCmp fun d e => D.lt d e
abbrev dGt : D → D → M D := dCmp fun d e => D.lt e d
abbrev dLe : D → D → M D := dCmp fun d e => !D.lt e d
abbrev dGe : D → D → M D := dCmp fun d e => !D.lt d e
theorem dop_lt (hK : X.K = Ω.K) (hu : X.A.units + 64 < cLine) : OpR X (compareOp .Lt) (rD2 Ω F dLt) := by
  intro pins s σ H x y v u Q I rx ry ⟨S, G, d, e, f, qx, qy, h⟩
  unfold dLt dCmp at h
  rw [wp_gd] at h
  obtain ⟨⟨h0, h1, h2, h3⟩, h⟩ := h
  obtain ⟨as, r1⟩ := Dp.reads I _ x v (hK ▸ qx.dpH (sh_pl h1) f.w) rx
  obtain ⟨bs, r2⟩ := Dp.reads I _ y u (hK ▸ qy.dpH (sh_pl h2) f.w) ry
  have hd := sh_dp h1
  exact PySem.W.lt_data r1 r2 h0 (not_none h3 (sh_pl h1)) (by omega) ⟨.bl _, H, I, rfl, Pg.here f h (.bl _)⟩
theorem dop_gt (hK : X.K = Ω.K) (hu : X.A.units + 64 < cLine) : OpR X (compareOp .Gt) (rD2 Ω F dGt) := by
  intro pins s σ H x y v u Q I rx ry ⟨S, G, d, e, f, qx, qy, h⟩
  unfold dGt dCmp at h
  rw [wp_gd] at h
  obtain ⟨⟨h0, h1, h2, h3⟩, h⟩ := h
  obtain ⟨as, r1⟩ := Dp.reads I _ x v (hK ▸ qx.dpH (sh_pl h1) f.w) rx
  obtain ⟨bs, r2⟩ := Dp.reads I _ y u (hK ▸ qy.dpH (sh_pl h2) f.w) ry
  have hd := sh_dp h1
  exact PySem.W.gt_data r1 r2 h0 (not_none h3 (sh_pl h1)) (by omega) ⟨.bl _, H, I, rfl, Pg.here f h (.bl _)⟩
theorem dop_le (hK : X.K = Ω.K) (hu : X.A.units + 64 < cLine) : OpR X (compareOp .LtE) (rD2 Ω F dLe) := by
  intro pins s σ H x y v u Q I rx ry ⟨S, G, d, e, f, qx, qy, h⟩
  unfold dLe dCmp at h
  rw [wp_gd] at h
  obtain ⟨⟨h0, h1, h2, h3⟩, h⟩ := h
  obtain ⟨as, r1⟩ := Dp.reads I _ x v (hK ▸ qx.dpH (sh_pl h1) f.w) rx
  obtain ⟨bs, r2⟩ := Dp.reads I _ y u (hK ▸ qy.dpH (sh_pl h2) f.w) ry
  have hd := sh_dp h1
  exact PySem.W.le_data r1 r2 h0 (not_none h3 (sh_pl h1)) (by omega) ⟨.bl _, H, I, rfl, Pg.here f h (.bl _)⟩
theorem dop_ge (hK : X.K = Ω.K) (hu : X.A.units + 64 < cLine) : OpR X (compareOp .GtE) (rD2 Ω F dGe) := by
  intro pins s σ H x y v u Q I rx ry ⟨S, G, d, e, f, qx, qy, h⟩
  unfold dGe dCmp at h
  rw [wp_gd] at h
  obtain ⟨⟨h0, h1, h2, h3⟩, h⟩ := h
  obtain ⟨as, r1⟩ := Dp.reads I _ x v (hK ▸ qx.dpH (sh_pl h1) f.w) rx
  obtain ⟨bs, r2⟩ := Dp.reads I _ y u (hK ▸ qy.dpH (sh_pl h2) f.w) ry
  have hd := sh_dp h1
  exact PySem.W.ge_data r1 r2 h0 (not_none h3 (sh_pl h1)) (by omega) ⟨.bl _, H, I, rfl, Pg.here f h (.bl _)⟩

/-! ### comparisons as values and as tests -/
variable {a b c : Expr} {ma mb mc : M D} {pos : Pos} {op op' : CmpOp} {g g' : D → D → M D}
theorem pdCmp (ho : OpR X (compareOp op) (rD2 Ω F g)) (ha : PE X a (tD Ω F ρ ma)) (hb : PE X b (tD Ω F ρ mb)) (hm : behindInMarks op b = false) : PE X (.Compare a [op] [b] pos) (tD Ω F ρ (op2 g ma mb)) :=
  PEi (pe_cmpR ho ha hb hm) fun σ H Q h => tOp_of h
/-- the answer of a comparison, as a test -/
theorem tTest_of {t : TE} {m : M D} {σ : L2.St} {H : Hp} {Q : Bool → Hp → Prop} (i : ∀ Q', tD Ω F ρ m σ H Q' → t σ H Q') (h : tT Ω F ρ (m >>= asB) σ H Q) : tTest t σ H Q := by
  refine i _ ?_
  obtain ⟨S, G, I, h⟩ := h
  refine (tG.bindI (R := RD Ω) I h).mono fun x H1 ⟨S1, G1, d, I1, s1, r, h1⟩ => ?_
  cases d with
  | bl b =>
    cases r
    exact ⟨b, rfl, h1 G1 H1 b I1.f.w (GX.refl _ _) (HX.refl _ _) rfl⟩
  | _ => exact h1.elim
theorem ptCmp (ho : OpR X (compareOp op) (rD2 Ω F g)) (ha : PE X a (tD Ω F ρ ma)) (hb : PE X b (tD Ω F ρ mb)) (hm : behindInMarks op b = false) : PT X (.Compare a [op] [b] pos) (tT Ω F ρ (op2 g ma mb >>= asB)) :=
  PTi (pt_cmpR ho ha hb hm) fun σ H Q h => tTest_of (fun Q' h' => tOp_of h') h
/-- is None, is True, is False, and not -/
def dIsB (d e : D) : M Bool := match e with
  | .non => pure d.isNon
  | .bl b => match d with
    | .bl c => pure (decide (c = b))
    | .non => pure false
    | .int _ => pure false
    | .str _ => pure false
    | .tup _ _ => pure false
    | .lst _ => pure false
    | .dct _ _ _ => pure false
    | _ => M.stuck
  | _ => M.stuck
def dIs (d e : D) : M D := dIsB d e >>= fun b => pure (.bl b)
def dIsNot (d e : D) : M D := dIsB d e >>= fun b => pure (.bl (!b))
end
end DL
set_option Elab.async false
set_option linter.all false
set_option maxRecDepth 100000
set_option autoImplicit false
/-! DL5: is, chains, subscripts, slices, arguments, calls of built-ins, displays. -/
namespace DL
open PySem PySem.Spec PyProof.Rows L2
section
variable {X : Cx} {Ω : Om} {F : Fr} {ρ : Env'} {S : DS} {G H : Hp}

theorem rep_none {v : V} {d : D} (q : Rep Ω G v d) : decide (v = .non) = d.isNon := by
  cases d with
  | non => cases q; rfl
  | opq n =>
    cases q with
    | opq q => exact decide_eq_false (Ω.opn _ _ _ q)
  | _ => cases q <;> rfl
/-- what the identity with a truth is -/
theorem is_bl {v : V} {u : Value} {d : D} {b : Bool} (q : Rep Ω G v d) (r : RelV v u) {P : Bool → DS → Prop} {E : Exn → DS → Prop} {s : DS} (h : (dIsB d (.bl b)).wp P E s) : plainIs u (.bool b) = true ∧ P (u == .bool b) s := by
  cases d with
  | non => cases q; cases r; exact ⟨rfl, h⟩
  | bl c =>
    cases q; cases r
    refine ⟨rfl, ?_⟩
    have h : P (decide (c = b)) s := h
    have e : (Value.bool c == Value.bool b) = decide (c = b) := by cases c <;> cases b <;> rfl
    rw [e]; exact h
  | int i => cases q; obtain ⟨t, rfl⟩ := r; exact ⟨rfl, h⟩
  | str x => cases q; obtain ⟨t, rfl⟩ := r; exact ⟨rfl, h⟩
  | tup _ xs => cases q; cases r; exact ⟨rfl, h⟩
  | lst xs => cases q; cases r; exact ⟨rfl, h⟩
  | dct t ks vs => cases q <;> (cases r; exact ⟨rfl, h⟩)
  | st => exact h.elim
  | opq n => exact h.elim
theorem dop_is : OpR X (compareOp .Is) (rD2 Ω F dIs) := by
  intro pins s σ H x y v u Q I rx ry ⟨S, G, dx, dy, f, qx, qy, h⟩
  unfold dIs at h
  rw [wp_bind] at h
  cases dy with
  | non =>
    cases qy
    refine op_isN pins s σ H x _ v u Q I rx ry ⟨rfl, ?_⟩
    have h : (pure (.bl dx.isNon) : M D).wp (Pg Ω (RD Ω) G H Q) (Er Ω F) S := h
    rw [rep_none qx]
    exact Pg.here f h (.bl _)
  | bl b =>
    cases qy
    cases ry
    obtain ⟨h1, h2⟩ := is_bl qx rx h
    exact wpAny_is_plain h1 ⟨.bl _, H, I, rfl, Pg.here f h2 (.bl _)⟩
  | _ => exact h.elim
theorem dop_isNot : OpR X (compareOp .IsNot) (rD2 Ω F dIsNot) := by
  intro pins s σ H x y v u Q I rx ry ⟨S, G, dx, dy, f, qx, qy, h⟩
  unfold dIsNot at h
  rw [wp_bind] at h
  cases dy with
  | non =>
    cases qy
    refine op_notN pins s σ H x _ v u Q I rx ry ⟨rfl, ?_⟩
    have h : (pure (.bl (!dx.isNon)) : M D).wp (Pg Ω (RD Ω) G H Q) (Er Ω F) S := h
    rw [rep_none qx]
    exact Pg.here f h (.bl _)
  | bl b =>
    cases qy
    cases ry
    obtain ⟨h1, h2⟩ := is_bl qx rx h
    exact wpAny_isNot_plain h1 ⟨.bl _, H, I, rfl, Pg.here f h2 (.bl _)⟩
  | _ => exact h.elim

/-! ### chains: a < b < c -/
variable {a b c : Expr} {ma mb mc : M D} {pos : Pos} {op op' : CmpOp} {g g' : D → D → M D}
def dChain (g g' : D → D → M D) (ma mb mc : M D) : M D := ma >>= fun x => mb >>= fun y => g x y >>= fun z => match z with
  | .bl true => mc >>= fun w => g' y w
  | .bl false => pure (.bl false)
  | _ => M.stuck
theorem tChain_of {σ : L2.St} {H : Hp} {Q : VK} (h : tD Ω F ρ (dChain g g' ma mb mc) σ H Q) : tChain (rD2 Ω F g) (rD2 Ω F g') (tD Ω F ρ ma) (tD Ω F ρ mb) (tD Ω F ρ mc) σ H Q := by
  obtain ⟨S, G, I, h⟩ := h
  refine (tG.bindI (R := RD Ω) I h).mono fun x H1 ⟨S1, G1, dx, I1, s1, rx, h⟩ => ?_
  refine (tG.bindI (R := RD Ω) I1 h).mono fun y H2 ⟨S2, G2, dy, I2, s2, ry, h⟩ => ?_
  rw [wp_bind] at h
  refine ⟨S2, G2, dx, dy, I2.f, rx.same s2, ry, h.imp fun z S3 h G3 H3 v w3 g3 x3 r3 => ?_⟩
  have I3 := I2.step w3 g3 x3
  have ry3 := ry.same (g3.same I2.f.w.same)
  cases z with
  | bl k =>
    cases r3
    refine ⟨k, rfl, ?_⟩
    cases k with
    | false =>
      rw [if_neg Bool.false_ne_true]
      exact h G3 H3 _ w3 g3 x3 (.bl _)
    | true =>
      rw [if_pos rfl]
      have h : (mc >>= fun w => g' dy w).wp (Pg Ω (RD Ω) G2 H2 Q) (Er Ω F) S3 := h
      refine (tG.bindI (R := RD Ω) I3 (h.imp fun c S4 p => p.step w3 g3 x3)).mono fun wv H4 ⟨S4, G4, dw, I4, s4, rw4, h⟩ => ?_
      exact ⟨S4, G4, dy, dw, I4.f, ry3.same s4, rw4, h⟩
  | _ => exact h.elim
theorem pdChain (ho : OpR X (compareOp op) (rD2 Ω F g)) (ho' : OpR X (compareOp op') (rD2 Ω F g')) (ha : PE X a (tD Ω F ρ ma)) (hb : PE X b (tD Ω F ρ mb)) (hc : PE X c (tD Ω F ρ mc))
    (hm : lastMarks [op, op'] [b, c] = false := by with_unfolding_all rfl) : PE X (.Compare a [op, op'] [b, c] pos) (tD Ω F ρ (dChain g g' ma mb mc)) := PEi (pe_chain ho ho' ha hb hc hm) fun σ H Q h => tChain_of h
theorem ptChain (ho : OpR X (compareOp op) (rD2 Ω F g)) (ho' : OpR X (compareOp op') (rD2 Ω F g')) (ha : PE X a (tD Ω F ρ ma)) (hb : PE X b (tD Ω F ρ mb)) (hc : PE X c (tD Ω F ρ mc))
    (hm : lastMarks [op, op'] [b, c] = false := by with_unfolding_all rfl) : PT X (.Compare a [op, op'] [b, c] pos) (tT Ω F ρ (dChain g g' ma mb mc >>= asB)) := PTi (pt_chain ho ho' ha hb hc hm) fun σ H Q h => tTest_of (fun Q' h' => tChain_of h') h

/-! ### subscripts -/
def dIx : D → D → M D
  | .tup _ xs, .int i => match atI xs i with
    | some d => pure d
    | none => M.stuck
  | .lst xs, .int i => match atI xs i with
    | some d => pure d
    | none => M.stuck
  | .str z, .int i => gd (z.length ≤ lim) (match atI z.cps.toList i with
    | some c => pure (.str ⟨#[c]⟩)
    | none => M.stuck)
  | .dct t ks vs, d => dLook t ks vs d >>= fun o => match o with
    | some d => pure d
    | none => M.stuck
  | _, _ => M.stuck
theorem Reps.atI {vs : List V} {ds : List D} {i : Int} {d : D} (r : Reps Ω G vs ds) (h : L2.atI ds i = some d) : ∃ v, L2.atI vs i = some v ∧ Rep Ω G v d := by
  unfold L2.atI at h ⊢
  rw [r.length]
  cases e : ixN ds.length i with
  | none => rw [e] at h; cases h
  | some j => rw [e] at h; exact r.getD h
theorem ix_dict (hu : X.A.units + 1 < cLine) : IxR X (fun x y H Q => ∃ a v, x = .ref a ∧ DGet H a y (some v) ∧ Q v H) := by
  intro value slice pins s σ H x y v u Q I rx ry h hs
  obtain ⟨a, z, rfl, g, q⟩ := h
  cases rx
  exact tail_any (dict_typeIs I g) PySem.F.slot_dict_getitem.lookup (d_getItem hu I g ry fun w' s' I' rw' => ⟨z, H, I', rw', q⟩) hs
theorem dix (hK : X.K = Ω.K) (hu : X.A.units + 64 < cLine) : IxR X (rD2 Ω F dIx) := by
  refine IxRi (ix_seq.or (ix_dict (by omega))) fun x y H Q ⟨S, G, dx, dy, f, rx, ry, h⟩ => ?_
  unfold dIx at h
  split at h
  · cases ry
    cases rx with
    | tup qx rx =>
      split at h
      · rename_i d e
        obtain ⟨v, e2, r2⟩ := rx.atI e
        exact .inl (.inr (.inl ⟨_, _, _, v, rfl, rfl, f.w.tup qx, e2, Pg.here f h r2⟩))
      · exact h.elim
  · cases ry
    cases rx with
    | lst qx rx =>
      split at h
      · rename_i d e
        obtain ⟨v, e2, r2⟩ := rx.atI e
        exact .inl (.inl ⟨_, _, _, v, rfl, rfl, f.w.lst qx, e2, Pg.here f h r2⟩)
      · exact h.elim
  · cases ry; cases rx
    rw [wp_gd, lim_eq] at h
    obtain ⟨hz, h⟩ := h
    split at h
    · rename_i c e
      exact .inl (.inr (.inr ⟨_, _, c, rfl, rfl, hz, e, Pg.here f h (.str _)⟩))
    · exact h.elim
  · rw [wp_bind] at h
    obtain ⟨a, rfl⟩ : ∃ a, x = .ref a := by cases rx <;> exact ⟨_, rfl⟩
    obtain ⟨o, od, g, ro, h⟩ := look_get f.w rx ry h
    cases od with
    | none => exact h.elim
    | some d =>
      cases o with
      | none => exact ro.elim
      | some v => exact .inr ⟨a, v, rfl, g, Pg.here f h ro⟩
  · exact h.elim
theorem pdIx (ha : PE X a (tD Ω F ρ ma)) (hb : PE X b (tD Ω F ρ mb)) (hu : X.A.units + 64 < cLine) (hs : PlainIx b := by exact fun _ _ => rfl) (hK : X.K = Ω.K := by rfl) : PE X (.Subscript a b pos) (tD Ω F ρ (op2 dIx ma mb)) := PEi (pe_ix (dix hK hu) ha hb hs) fun σ H Q h => tOp_of h

/-! ### slices -/
def asI : D → M (Option Int)
  | .int i => pure (some i)
  | _ => M.stuck
theorem poN : PO X none (tO Ω F ρ (pure none)) := POi po_none fun σ H Q h => by
  obtain ⟨S, G, I, h⟩ := h.pure
  exact h _ rfl
theorem poS {e : Expr} {m : M D} (h : PE X e (tD Ω F ρ m)) : PO X (some e) (tO Ω F ρ (m >>= asI)) := POi (po_some h) fun σ H Q ⟨S, G, I, h⟩ => (tG.bindI (R := RD Ω) I h).mono fun x H1 ⟨S1, G1, d, I1, s1, r, h1⟩ => by
  cases d with
  | int i =>
    cases r
    exact ⟨i, rfl, h1 G1 H1 _ I1.f.w (GX.refl _ _) (HX.refl _ _) rfl⟩
  | _ => exact h1.elim
def cutD {α : Type} (xs : List α) (lo hi : Option Int) : List α := (xs.drop (HT.sIx xs.length 0 lo)).take (HT.sIx xs.length xs.length hi - HT.sIx xs.length 0 lo)
theorem Reps.cut {vs : List V} {ds : List D} (r : Reps Ω G vs ds) (lo hi : Option Int) : Reps Ω G (cutV vs lo hi) (cutD ds lo hi) := by
  unfold cutV cutD
  rw [r.length]
  exact (r.drop _).take _
def dCut (x : D) (lo hi : Option Int) : M D := match x with
  | .tup x xs => pure (if HT.sIx xs.length 0 lo = 0 ∧ HT.sIx xs.length xs.length hi = xs.length then .tup x xs else .tup false (cutD xs lo hi))
  | .lst xs => pure (.lst (cutD xs lo hi))
  | .str z => gd (z.length ≤ lim) (pure (.str (cutS z lo hi)))
  | _ => M.stuck
theorem cut_all {α : Type} {xs : List α} {lo hi : Option Int} (h : HT.sIx xs.length 0 lo = 0 ∧ HT.sIx xs.length xs.length hi = xs.length) : cutD xs lo hi = xs := by
  unfold cutD
  rw [h.1, h.2]
  simp
def rDs (Ω : Om) (F : Fr) : V → Option Int → Option Int → Hp → VK → Prop := fun x lo hi H Q => ∃ S G dx, Fx Ω F S G H ∧ Rep Ω G x dx ∧ (dCut dx lo hi).wp (Pg Ω (RD Ω) G H Q) (Er Ω F) S
theorem dsl (hK : X.K = Ω.K) : SlR X (rDs Ω F) := by
  refine SlRi (sl_list.or (sl_tupA.or sl_str)) fun x lo hi H Q ⟨S, G, dx, f, rx, h⟩ => ?_
  unfold dCut at h
  split at h
  · cases rx with
    | tup qx rx =>
      refine .inr (.inl ⟨_, _, rfl, f.w.tup qx, fun e => ?_, fun e p hp => ?_⟩)
      · rw [rx.length] at e
        rw [if_pos e] at h
        exact Pg.here f h (.tup qx rx)
      · rw [rx.length] at e
        rw [if_neg e] at h
        exact Pg.newO f h hp (.newT f.w hp (rx.cut lo hi))
  · cases rx with
    | lst qx rx =>
      exact .inl ⟨_, _, rfl, f.w.lst qx, fun p hp => Pg.newO f h hp (.newL f.w hp (rx.cut lo hi))⟩
  · cases rx
    rw [wp_gd, lim_eq] at h
    exact .inr (.inr ⟨_, rfl, h.1, Pg.here f h.2 (.str _)⟩)
  · exact h.elim
def opSl (ma : M D) (ml mh : M (Option Int)) : M D := ma >>= fun x => ml >>= fun l => mh >>= fun u => dCut x l u
theorem pdSl {lo hi : Option Expr} {ml mh : M (Option Int)} {p2 : Pos} (ha : PE X a (tD Ω F ρ ma)) (hl : PO X lo (tO Ω F ρ ml)) (hh : PO X hi (tO Ω F ρ mh)) (hK : X.K = Ω.K := by rfl) : PE X (.Subscript a (.Slice lo hi none p2) pos) (tD Ω F ρ (opSl ma ml mh)) :=
  PEi (pe_slice (dsl hK) ha hl hh) fun σ H Q ⟨S, G, I, h⟩ => by
    refine (tG.bindI (R := RD Ω) I h).mono fun x H1 ⟨S1, G1, dx, I1, s1, rx, h⟩ => ?_
    refine (tG.bindI (R := RO) I1 h).mono fun l H2 ⟨S2, G2, dl, I2, s2, rl, h⟩ => ?_
    refine (tG.bindI (R := RO) I2 h).mono fun u H3 ⟨S3, G3, du, I3, s3, ru, h⟩ => ?_
    cases rl; cases ru
    exact ⟨S3, G3, dx, I3.f, (rx.same s2).same s3, h⟩
/-- xs[::-1] of a list -/
def dRevL : D → M D
  | .lst xs => pure (.lst xs.reverse)
  | _ => M.stuck
theorem Reps.rev : ∀ {vs : List V} {ds : List D}, Reps Ω G vs ds → Reps Ω G vs.reverse ds.reverse
  | _, _, .nil => .nil
  | _, _, .cons h t => by rw [List.reverse_cons, List.reverse_cons]; exact (Reps.rev t).append (.cons h .nil)
theorem pdRevL {k : Nat} {p1 p2 p3 : Pos} (ha : PE X a (tD Ω F ρ ma)) : PE X (.Subscript a (.Slice none none (some (.UnaryOp .USub (.Constant (.int 1) k p1) p2)) p3) pos) (tD Ω F ρ (op1 dRevL ma)) :=
  PEi (pe_revL ha) fun σ H Q ⟨S, G, I, h⟩ => by
    refine (tG.bindI (R := RD Ω) I h).mono fun x H1 ⟨S1, G1, dx, I1, s1, rx, h⟩ => ?_
    unfold dRevL at h
    split at h
    · cases rx with
      | lst qx rx => exact ⟨_, _, rfl, I1.f.w.lst qx, fun p hp => Pg.newO I1.f h hp (.newL I1.f.w hp rx.rev)⟩
    · exact h.elim

/-! ### arguments, displays -/
variable {es : List Expr} {ms : M (List D)}
theorem paN : PA X [] (tA Ω F ρ (pure [])) := PAi pa_nil fun σ H Q h => by
  obtain ⟨S, G, I, h⟩ := h.pure
  exact h _ .nil
def opC (m : M D) (ms : M (List D)) : M (List D) := m >>= fun x => ms >>= fun xs => pure (x :: xs)
theorem tCons_of {σ : L2.St} {H : Hp} {Q : List V → Hp → Prop} (h : tA Ω F ρ (opC ma ms) σ H Q) : tCons (tD Ω F ρ ma) (tA Ω F ρ ms) σ H Q := by
  obtain ⟨S, G, I, h⟩ := h
  refine (tG.bindI (R := RD Ω) I h).mono fun x H1 ⟨S1, G1, dx, I1, s1, rx, h⟩ => ?_
  refine (tG.bindI (R := RA Ω) I1 h).mono fun xs H2 ⟨S2, G2, dxs, I2, s2, rxs, h⟩ => ?_
  exact h G2 H2 _ I2.f.w (GX.refl _ _) (HX.refl _ _) (.cons (rx.same s2) rxs)
theorem paC (ha : PE X a (tD Ω F ρ ma)) (hr : PA X es (tA Ω F ρ ms)) (hs : starEach (a :: es) X.env = (false, eval a X.env) :: starEach es X.env := by rfl) : PA X (a :: es) (tA Ω F ρ (opC ma ms)) := PAi (pa_cons ha hr hs) fun σ H Q h => tCons_of h
def mkTup (xs : List D) : M D := gd (xs.length ≤ lim) (pure (.tup false xs))
def mkLst (xs : List D) : M D := gd (xs.length ≤ lim) (pure (.lst xs))
theorem pdTup {x1} (h : PA X es (tA Ω F ρ ms)) : PE X (.Tuple es x1 pos) (tD Ω F ρ (ms >>= mkTup)) := PEi (pe_tup h) fun σ H Q ⟨S, G, I, h⟩ => by
  refine (tG.bindI (R := RA Ω) I h).mono fun xs H1 ⟨S1, G1, dxs, I1, s1, rxs, h⟩ => ?_
  unfold mkTup at h
  rw [wp_gd, lim_eq] at h
  exact ⟨by rw [rxs.length]; exact h.1, fun p hp => Pg.newO I1.f h.2 hp (.newT I1.f.w hp rxs)⟩
theorem pdLst (h : PA X es (tA Ω F ρ ms)) : PE X (.List es pos) (tD Ω F ρ (ms >>= mkLst)) := PEi (pe_lst h) fun σ H Q ⟨S, G, I, h⟩ => by
  refine (tG.bindI (R := RA Ω) I h).mono fun xs H1 ⟨S1, G1, dxs, I1, s1, rxs, h⟩ => ?_
  unfold mkLst at h
  rw [wp_gd, lim_eq] at h
  exact ⟨by rw [rxs.length]; exact h.1, fun p hp => Pg.newO I1.f h.2 hp (.newL I1.f.w hp rxs)⟩

/-! ### calls of built-ins -/
theorem tCB_of {r : List V → Hp → VK → Prop} {gl : List D → M D} {σ : L2.St} {H : Hp} {Q : VK} (i : ∀ xs H Q, rDl Ω F gl xs H Q → r xs H Q) (h : tD Ω F ρ (ms >>= gl) σ H Q) : tCB r (tA Ω F ρ ms) σ H Q := by
  obtain ⟨S, G, I, h⟩ := h
  exact (tG.bindI (R := RA Ω) I h).mono fun xs H1 ⟨S1, G1, dxs, I1, s1, rxs, h⟩ => i _ _ _ ⟨S1, G1, dxs, I1.f, rxs, h⟩
/-- a built-in by its name: its rule by values, told by data -/
theorem pdB {x : Str} {p : Pos} {id : String} {gl : List D → M D} (hc : CallR X (.builtin id) (rDl Ω F gl)) (hm : X.mg x = none) (hv : bootBuiltins x = some (.builtin id)) (ha : PA X (a :: es) (tA Ω F ρ ms)) (hg : Gl X x := by rfl) (hn : x ≠ "__name__" := by decide) (hdb : (x == ("__debug__" : Str)) = false := by decide)
    (he : starEach (a :: es) X.env = (false, eval a X.env) :: starEach es X.env := by rfl) (hpl : (backTo pos (starEach es X.env)).any (·.1) = false := by rfl) : PE X (.Call (.Name x p) (a :: es) [] pos) (tD Ω F ρ (ms >>= gl)) :=
  PEi (pe_callB hc hg hm hv ha hn hdb he hpl) fun σ H Q h => tCB_of (fun _ _ _ q => q) h
theorem pdTy {x : Str} {p : Pos} {T : String} {gl : List D → M D} (hc : CallR X (.type T) (rDl Ω F gl)) (hm : X.mg x = none) (hv : bootBuiltins x = some (.type T)) (ha : PA X (a :: es) (tA Ω F ρ ms)) (hg : Gl X x := by rfl) (hn : x ≠ "__name__" := by decide) (hdb : (x == ("__debug__" : Str)) = false := by decide)
    (he : starEach (a :: es) X.env = (false, eval a X.env) :: starEach es X.env := by rfl) (hpl : (backTo pos (starEach es X.env)).any (·.1) = false := by rfl) : PE X (.Call (.Name x p) (a :: es) [] pos) (tD Ω F ρ (ms >>= gl)) :=
  PEi (pe_callTy hc hg hm hv ha hn hdb he hpl) fun σ H Q h => tCB_of (fun _ _ _ q => q) h
end
end DL
set_option Elab.async false
set_option linter.all false
set_option maxRecDepth 100000
set_option autoImplicit false
/-! DL6: built-ins over data: isinstance, len, all, any, tuple, list, abs, min, max, int. -/
namespace DL
open PySem PySem.Spec PyProof.Rows L2

/-! ### isinstance -/
inductive Ty where
  | str | int | bool | tuple | list | dict
abbrev Ty.name : Ty → String
  | .str => "str"
  | .int => "int"
  | .bool => "bool"
  | .tuple => "tuple"
  | .list => "list"
  | .dict => "dict"
def D.isT : D → Ty → Bool
  | .bl _, .bool => true
  | .bl _, .int => true
  | .int _, .int => true
  | .str _, .str => true
  | .tup _ _, .tuple => true
  | .lst _, .list => true
  | .dct _ _ _, .dict => true
  | _, _ => false
def D.known : D → Bool
  | .st => false
  | .opq _ => false
  | _ => true
def D.tyN : D → String
  | .non => "NoneType"
  | .bl _ => "bool"
  | .int _ => "int"
  | .str _ => "str"
  | .tup _ _ => "tuple"
  | .lst _ => "list"
  | .dct _ _ _ => "dict"
  | _ => ""
theorem kitB_of {d : D} (h : d.known = true) (T : Ty) : kitB d.tyN T.name = some (d.isT T) := by
  cases d <;> cases T <;> first | (cases h; done) | (simp only [D.tyN, D.isT, Ty.name]; decide +kernel)
def dIsi (T : Ty) (d : D) : M D := gd (d.known = true) (pure (.bl (d.isT T)))
def dIsi2 (T T' : Ty) (d : D) : M D := gd (d.known = true) (pure (.bl (d.isT T || d.isT T')))
section
variable {X : Cx} {Ω : Om} {F : Fr} {ρ : Env'} {S : DS} {G H : Hp} {pins : List (Addr × Obj)} {σ : L2.St} {s : Shared}
theorem kitD {v : V} {u : Value} {d : D} (I : Inv X pins σ H s) (w : Wd Ω S G H) (q : Rep Ω G v d) (r : RelV v u) (k : d.known = true) :
    ∃ P : Heap → Prop, PySem.W.KitX X.K u (.type d.tyN) P ∧ P s.heap ∧ u ≠ .builtin "__main__.__loader__#opaque" := by
  cases d with
  | non => cases q; exact kit_of I r (.base .non)
  | bl b => cases q; exact kit_of I r (.base (.bl _))
  | int b => cases q; exact kit_of I r (.base (.int _))
  | str b => cases q; exact kit_of I r (.base (.str _))
  | tup x b =>
    cases q with
    | tup q _ =>
      rcases q.rd with q | ⟨o, q⟩
      · exact kit_of I r (.base (.tup (w.same _ _ q)))
      · exact kit_of I r (.fTuple (w.same _ _ q))
  | lst b =>
    cases q with
    | lst q _ => exact kit_of I r (.base (.lst (w.same _ _ q)))
  | dct t ks vs =>
    cases q with
    | dK q _ =>
      obtain ⟨o, q⟩ := q
      exact kit_of I r (.fDict (w.same _ _ q))
    | @dT a kvs _ q _ =>
      cases (show u = Value.ref a from r)
      obtain ⟨_, _, xs, _, ob, es, ep, h1, h2, _⟩ := (show ObjOk X.prog X.w H s.heap a (.dT kvs) from (RdLe.of w.same).rd _ _ q.rd |>.ok I.hok)
      exact ⟨_, PySem.W.kitx_dict, ⟨ob, h1, h2.1⟩, fun z => nomatch z⟩
  | st => cases k
  | opq n => cases k
theorem dcall_isi (T : Ty) : CallR X (.builtin "isinstance") (fun xs H Q => ∃ x S G d, xs = [x, .ty T.name] ∧ Fx Ω F S G H ∧ Rep Ω G x d ∧ (dIsi T d).wp (Pg Ω (RD Ω) G H Q) (Er Ω F) S) := by
  intro pins s σ H xs us Q I r ⟨x, S, G, d, e, f, q, h⟩
  subst e
  obtain ⟨u1, u2, rfl, r1, r2⟩ := vals2 r
  cases (show u2 = Value.type T.name from r2)
  unfold dIsi at h
  rw [wp_gd] at h
  obtain ⟨P, Z, p, hx⟩ := kitD I f.w q r1 h.1
  exact PySem.W.kia_one Z I.kIn p (kit_ty (kitB_of h.1 T)) hx fun tk => ⟨.bl _, H, I.tok tk, rfl, Pg.here f h.2 (.bl _)⟩
theorem dcall_isi2 (T T' : Ty) : CallR X (.builtin "isinstance") (fun xs H Q => ∃ x tp S G d, xs = [x, .ref tp] ∧ H tp = some (.tup [.ty T.name, .ty T'.name]) ∧ Fx Ω F S G H ∧ Rep Ω G x d ∧ (dIsi2 T T' d).wp (Pg Ω (RD Ω) G H Q) (Er Ω F) S) := by
  intro pins s σ H xs us Q I r ⟨x, tp, S, G, d, e, hT, f, q, h⟩
  subst e
  obtain ⟨u1, u2, rfl, r1, r2⟩ := vals2 r
  cases (show u2 = Value.ref tp from r2)
  unfold dIsi2 at h
  rw [wp_gd] at h
  obtain ⟨P, Z, p, hx⟩ := kitD I f.w q r1 h.1
  obtain ⟨_, its, rv, o, h1, h2, n, h3⟩ := (show ObjOk X.prog X.w H s.heap tp (.tup [.ty T.name, .ty T'.name]) from I.hok tp _ hT)
  have e3 := ClsV.all (us := [.type T.name, .type T'.name]) (.cons (.ty _) (.cons (.ty _) .nil)) rv
  subst e3
  obtain ⟨oc, od, dt, sl⟩ := o
  simp only at h2 h3
  subst h2 h3
  have e := kitB_of h.1 T
  have e' := kitB_of h.1 T'
  refine PySem.W.kia_tup Z I.kIn p h1 (b := d.isT T || d.isT T') ?_ hx fun tk => ⟨.bl _, H, I.tok tk, rfl, Pg.here f h.2 (.bl _)⟩
  exact kitAny_cons (kit_ty e) (fun z => by
    rw [z, Bool.false_or]
    refine kitAny_cons (kit_ty e') (fun z' => by rw [z']; exact kitAny_nil) (fun z' => z')) (fun z => by rw [z]; rfl)
variable {a b c : Expr} {ma mb mc : M D} {pos : Pos} {es : List Expr} {ms : M (List D)}
theorem tyName {x : Str} {T : Ty} {p : Pos} (hm : X.mg x = none) (hv : bootBuiltins x = some (.type T.name)) (hg : Gl X x := by rfl) (hn : x ≠ "__name__" := by decide) (hd : (x == ("__debug__" : Str)) = false := by decide) : PE X (.Name x p) (tC (.ty T.name)) :=
  pe_bltn hg hm hv (show RelV (.ty T.name) (.type T.name) from rfl) hn hd
/-- isinstance(a, T) -/
theorem pdIsi (T : Ty) {x : Str} {p p2 : Pos} (ha : PE X a (tD Ω F ρ ma)) (hi : X.mg "isinstance" = none) (hm : X.mg x = none) (hv : bootBuiltins x = some (.type T.name) := by rfl) (hg : Gl X "isinstance" := by rfl) (hg2 : Gl X x := by rfl) (hn : x ≠ "__name__" := by decide) (hd : (x == ("__debug__" : Str)) = false := by decide)
    (he : starEach [a, .Name x p2] X.env = (false, eval a X.env) :: starEach [.Name x p2] X.env := by rfl) (he2 : starEach [.Name x p2] X.env = (false, eval (.Name x p2) X.env) :: starEach [] X.env := by rfl) (hpl : (backTo pos (starEach [.Name x p2] X.env)).any (·.1) = false := by rfl) :
    PE X (.Call (.Name "isinstance" p) [a, .Name x p2] [] pos) (tD Ω F ρ (ma >>= dIsi T)) :=
  PEi (pe_callB (dcall_isi (Ω := Ω) (F := F) T) hg hi (by decide +kernel) (pa_cons ha (pa_cons (tyName hm hv hg2 hn hd) pa_nil he2) he) (by decide) (by decide) he hpl) fun σ H Q ⟨S, G, I, h⟩ =>
    (tG.bindI (R := RD Ω) I h).mono fun x H1 ⟨S1, G1, d, I1, s1, r, h1⟩ => ⟨x, S1, G1, d, rfl, I1.f, r, h1⟩
/-- isinstance(a, (T, T')) -/
theorem pdIsi2 (T T' : Ty) {x y : Str} {p p2 p3 p4 : Pos} {k : Nat} (ha : PE X a (tD Ω F ρ ma)) (hi : X.mg "isinstance" = none) (hm : X.mg x = none) (hm' : X.mg y = none) (hv : bootBuiltins x = some (.type T.name) := by rfl) (hv' : bootBuiltins y = some (.type T'.name) := by rfl)
    (hg : Gl X "isinstance" := by rfl) (hg2 : Gl X x := by rfl) (hg3 : Gl X y := by rfl) (hn : x ≠ "__name__" := by decide) (hd : (x == ("__debug__" : Str)) = false := by decide) (hn' : y ≠ "__name__" := by decide) (hd' : (y == ("__debug__" : Str)) = false := by decide)
    (he : starEach [a, .Tuple [.Name x p2, .Name y p3] k p4] X.env = (false, eval a X.env) :: starEach [.Tuple [.Name x p2, .Name y p3] k p4] X.env := by rfl)
    (he2 : starEach [.Tuple [.Name x p2, .Name y p3] k p4] X.env = (false, eval (.Tuple [.Name x p2, .Name y p3] k p4) X.env) :: starEach [] X.env := by rfl)
    (he3 : starEach [.Name x p2, .Name y p3] X.env = (false, eval (.Name x p2) X.env) :: starEach [.Name y p3] X.env := by rfl)
    (he4 : starEach [.Name y p3] X.env = (false, eval (.Name y p3) X.env) :: starEach [] X.env := by rfl)
    (hpl : (backTo pos (starEach [.Tuple [.Name x p2, .Name y p3] k p4] X.env)).any (·.1) = false := by rfl) :
    PE X (.Call (.Name "isinstance" p) [a, .Tuple [.Name x p2, .Name y p3] k p4] [] pos) (tD Ω F ρ (ma >>= dIsi2 T T')) :=
  PEi (pe_callB (dcall_isi2 (Ω := Ω) (F := F) T T') hg hi (by decide +kernel) (pa_cons ha (pa_cons (pe_tup (pa_cons (tyName hm hv hg2 hn hd) (pa_cons (tyName hm' hv' hg3 hn' hd') pa_nil he4) he3)) pa_nil he2) he) (by decide) (by decide) he hpl) fun σ H Q ⟨S, G, I, h⟩ =>
    (tG.bindI (R := RD Ω) I h).mono fun x H1 ⟨S1, G1, d, I1, s1, r, h1⟩ => by
      exact ⟨by show 2 ≤ sizeLine; decide, fun q hq => ⟨x, q, S1, G1, d, rfl, upd_same, I1.f.grow (same_upd hq), r, h1.imp fun d' S2 p => p.step (I1.f.w.grow (same_upd hq)) (GX.refl _ _) (HX.of (same_upd hq))⟩⟩

/-! ### one argument -/
def ar1 (g : D → M D) : List D → M D
  | [x] => g x
  | _ => M.stuck
def ar2 (g : D → D → M D) : List D → M D
  | [x, y] => g x y
  | _ => M.stuck
def ar3 (g : D → D → D → M D) : List D → M D
  | [x, y, z] => g x y z
  | _ => M.stuck
theorem rDl1 {g : D → M D} {xs : List V} {H : Hp} {Q : VK} (h : rDl Ω F (ar1 g) xs H Q) : ∃ x S G d, xs = [x] ∧ Fx Ω F S G H ∧ Rep Ω G x d ∧ (g d).wp (Pg Ω (RD Ω) G H Q) (Er Ω F) S := by
  obtain ⟨S, G, ds, f, r, h⟩ := h
  cases r with
  | nil => exact h.elim
  | cons r t =>
    cases t with
    | nil => exact ⟨_, S, G, _, rfl, f, r, h⟩
    | cons r' t => exact h.elim
theorem rDl2 {g : D → D → M D} {xs : List V} {H : Hp} {Q : VK} (h : rDl Ω F (ar2 g) xs H Q) : ∃ x y S G d e, xs = [x, y] ∧ Fx Ω F S G H ∧ Rep Ω G x d ∧ Rep Ω G y e ∧ (g d e).wp (Pg Ω (RD Ω) G H Q) (Er Ω F) S := by
  obtain ⟨S, G, ds, f, r, h⟩ := h
  cases r with
  | nil => exact h.elim
  | cons r t =>
    cases t with
    | nil => exact h.elim
    | cons r' t =>
      cases t with
      | nil => exact ⟨_, _, S, G, _, _, rfl, f, r, r', h⟩
      | cons _ _ => exact h.elim
/-! len -/
def dLen : D → M D
  | .tup _ xs => pure (.int xs.length)
  | .lst xs => pure (.int xs.length)
  | .str x => gd (x.length ≤ lim) (pure (.int x.length))
  | _ => M.stuck
theorem dc_len (hK : X.K = Ω.K) : CallR X (.builtin "len") (rDl Ω F (ar1 dLen)) := by
  refine CallRi (call_len_seq.or call_len_str) fun xs H Q h0 => ?_
  obtain ⟨x, S, G, d, rfl, f, r, h⟩ := rDl1 h0
  unfold dLen at h
  split at h
  · cases r with
    | tup q r => exact .inl ⟨_, _, rfl, .inr (f.w.tup q), by rw [r.length]; exact Pg.here f h (.int _)⟩
  · cases r with
    | lst q r => exact .inl ⟨_, _, rfl, .inl (f.w.lst q), by rw [r.length]; exact Pg.here f h (.int _)⟩
  · cases r
    rw [wp_gd, lim_eq] at h
    exact .inr ⟨_, rfl, h.1, Pg.here f h.2 (.int _)⟩
  · exact h.elim
/-! all, any of lists of truths -/
def D.bls? : List D → Option (List Bool)
  | [] => some []
  | .bl b :: ds => (D.bls? ds).map (b :: ·)
  | _ :: _ => none
theorem Reps.bls {G : Hp} : ∀ {vs : List V} {ds : List D} {bs : List Bool}, Reps Ω G vs ds → D.bls? ds = some bs → vs = bs.map V.bl
  | _, [], bs, r, h => by cases r; cases h; rfl
  | _, d :: ds, bs, r, h => by
    cases r with
    | cons r t =>
      cases d with
      | bl b =>
        cases r
        simp only [D.bls?, Option.map_eq_some_iff] at h
        obtain ⟨cs, h1, rfl⟩ := h
        rw [Reps.bls t h1]; rfl
      | _ => simp [D.bls?] at h
def dAll : D → M D
  | .lst xs => match D.bls? xs with
    | some bs => pure (.bl (bs.all id))
    | none => M.stuck
  | _ => M.stuck
def dAny : D → M D
  | .lst xs => match D.bls? xs with
    | some bs => pure (.bl (bs.any id))
    | none => M.stuck
  | _ => M.stuck
theorem dc_all (hc : X.calm = true) : CallR X (.builtin "all") (rDl Ω F (ar1 dAll)) := by
  refine CallRi (cr_all hc) fun xs H Q h0 => ?_
  obtain ⟨x, S, G, d, rfl, f, r, h⟩ := rDl1 h0
  unfold dAll at h
  split at h
  · cases r with
    | lst q r =>
      split at h
      · rename_i bs e
        exact ⟨_, bs, rfl, by rw [← r.bls e]; exact f.w.lst q, Pg.here f h (.bl _)⟩
      · exact h.elim
  · exact h.elim
theorem dc_any (hc : X.calm = true) : CallR X (.builtin "any") (rDl Ω F (ar1 dAny)) := by
  refine CallRi (cr_any hc) fun xs H Q h0 => ?_
  obtain ⟨x, S, G, d, rfl, f, r, h⟩ := rDl1 h0
  unfold dAny at h
  split at h
  · cases r with
    | lst q r =>
      split at h
      · rename_i bs e
        exact ⟨_, bs, rfl, by rw [← r.bls e]; exact f.w.lst q, Pg.here f h (.bl _)⟩
      · exact h.elim
  · exact h.elim
/-! tuple, list -/
def dTuple : D → M D
  | .lst xs => pure (.tup false xs)
  | .tup x xs => pure (.tup x xs)
  | _ => M.stuck
def dList : D → M D
  | .lst xs => pure (.lst xs)
  | .tup _ xs => pure (.lst xs)
  | _ => M.stuck
theorem dc_tuple : CallR X (.type "tuple") (rDl Ω F (ar1 dTuple)) := by
  refine CallRi call_tuple_of fun xs H Q h0 => ?_
  obtain ⟨x, S, G, d, rfl, f, r, h⟩ := rDl1 h0
  unfold dTuple at h
  split at h
  · cases r with
    | lst q r => exact ⟨_, _, rfl, .inl ⟨f.w.lst q, fun p hp => Pg.newO f h hp (.newT f.w hp r)⟩⟩
  · cases r with
    | tup q r => exact ⟨_, _, rfl, .inr ⟨f.w.tup q, Pg.here f h (.tup q r)⟩⟩
  · exact h.elim
theorem dc_list : CallR X (.type "list") (rDl Ω F (ar1 dList)) := by
  refine CallRi call_list_of fun xs H Q h0 => ?_
  obtain ⟨x, S, G, d, rfl, f, r, h⟩ := rDl1 h0
  unfold dList at h
  split at h
  · cases r with
    | lst q r => exact ⟨_, _, rfl, .inl (f.w.lst q), fun p hp => Pg.newO f h hp (.newL f.w hp r)⟩
  · cases r with
    | tup q r => exact ⟨_, _, rfl, .inr (f.w.tup q), fun p hp => Pg.newO f h hp (.newL f.w hp r)⟩
  · exact h.elim
/-! ints -/
def dAbs : D → M D
  | .int i => pure (.int (if i < 0 then -i else i))
  | _ => M.stuck
def dMax2 : D → D → M D
  | .int i, .int j => pure (.int (if j > i then j else i))
  | _, _ => M.stuck
def dMin2 : D → D → M D
  | .int i, .int j => pure (.int (if j < i then j else i))
  | _, _ => M.stuck
def dInt : D → M D
  | .int i => pure (.int i)
  | .bl b => pure (.int (if b then 1 else 0))
  | _ => M.stuck
theorem dc_abs : CallR X (.builtin "abs") (rDl Ω F (ar1 dAbs)) := by
  refine CallRi call_abs fun xs H Q h0 => ?_
  obtain ⟨x, S, G, d, rfl, f, r, h⟩ := rDl1 h0
  unfold dAbs at h
  split at h
  · cases r; exact ⟨_, rfl, Pg.here f h (.int _)⟩
  · exact h.elim
theorem dc_max2 (hc : X.calm = true) : CallR X (.builtin "max") (rDl Ω F (ar2 dMax2)) := by
  refine CallRi (call_max2 hc) fun xs H Q h0 => ?_
  obtain ⟨x, y, S, G, d, e, rfl, f, r, r', h⟩ := rDl2 h0
  unfold dMax2 at h
  split at h
  · cases r; cases r'; exact ⟨_, _, rfl, Pg.here f h (.int _)⟩
  · exact h.elim
theorem dc_min2 (hc : X.calm = true) : CallR X (.builtin "min") (rDl Ω F (ar2 dMin2)) := by
  refine CallRi (call_min2 hc) fun xs H Q h0 => ?_
  obtain ⟨x, y, S, G, d, e, rfl, f, r, r', h⟩ := rDl2 h0
  unfold dMin2 at h
  split at h
  · cases r; cases r'; exact ⟨_, _, rfl, Pg.here f h (.int _)⟩
  · exact h.elim
theorem dc_int : CallR X (.type "int") (rDl Ω F (ar1 dInt)) := by
  refine CallRi call_int1 fun xs H Q h0 => ?_
  obtain ⟨x, S, G, d, rfl, f, r, h⟩ := rDl1 h0
  unfold dInt at h
  split at h
  · cases r; exact .inl ⟨_, rfl, Pg.here f h (.int _)⟩
  · cases r; exact .inr ⟨_, rfl, Pg.here f h (.int _)⟩
  · exact h.elim
end
end DL
set_option Elab.async false
set_option linter.all false
set_option maxRecDepth 100000
set_option autoImplicit false
/-! DL7: statements, loops. -/
namespace DL
open PySem PySem.Spec PyProof.Rows L2

/-- how a block ends: behind it, a return, a break, a continue -/
inductive Fl (β γ : Type) where
  | nx (b : β) | rt (d : D) | bk (c : γ) | ct (c : γ)
def Fl.seq {β β' γ : Type} (m : M (Fl β γ)) (k : β → M (Fl β' γ)) : M (Fl β' γ) := m >>= fun fl => match fl with
  | .nx b => k b
  | .rt d => pure (.rt d)
  | .bk c => pure (.bk c)
  | .ct c => pure (.ct c)
section
variable {β β' γ α : Type} {k : β → M (Fl β' γ)}
@[simp] theorem seq_nx (b : β) : Fl.seq (pure (.nx b) : M (Fl β γ)) k = k b := rfl
@[simp] theorem seq_rt (d : D) : Fl.seq (pure (.rt d) : M (Fl β γ)) k = pure (.rt d) := rfl
@[simp] theorem seq_bk (c : γ) : Fl.seq (pure (.bk c) : M (Fl β γ)) k = pure (.bk c) := rfl
@[simp] theorem seq_ct (c : γ) : Fl.seq (pure (.ct c) : M (Fl β γ)) k = pure (.ct c) := rfl
@[simp] theorem seq_bind (m : M α) (f : α → M (Fl β γ)) : Fl.seq (m >>= f) k = m >>= fun x => Fl.seq (f x) k := by
  unfold Fl.seq
  rw [bind_assoc]
@[simp] theorem seq_stuck : Fl.seq (M.stuck : M (Fl β γ)) k = M.stuck := rfl
@[simp] theorem seq_raise (x : Exn) : Fl.seq (M.raise x : M (Fl β γ)) k = M.raise x := rfl
@[simp] theorem seq_gd {c : Prop} [Decidable c] (m : M (Fl β γ)) : Fl.seq (gd c m) k = gd c (Fl.seq m k) := by
  unfold gd
  split <;> rfl
@[simp] theorem seq_ite {c : Prop} [Decidable c] (m n : M (Fl β γ)) : Fl.seq (if c then m else n) k = if c then Fl.seq m k else Fl.seq n k := by
  split <;> rfl
@[simp] theorem gd_bind {c : Prop} [Decidable c] (m : M α) (f : α → M β) : (gd c m >>= f) = gd c (m >>= f) := by
  unfold gd
  split <;> rfl
end
/-- the end of a def's body -/
def Fl.fin (m : M (Fl Unit Unit)) : M D := m >>= fun fl => match fl with
  | .nx _ => pure .non
  | .rt d => pure d
  | .bk _ => M.stuck
  | .ct _ => M.stuck
section
variable {α : Type}
@[simp] theorem fin_nx (b : Unit) : Fl.fin (pure (.nx b)) = pure .non := rfl
@[simp] theorem fin_rt (d : D) : Fl.fin (pure (.rt d)) = pure d := rfl
@[simp] theorem fin_bind (m : M α) (f : α → M (Fl Unit Unit)) : Fl.fin (m >>= f) = m >>= fun x => Fl.fin (f x) := by
  unfold Fl.fin
  rw [bind_assoc]
@[simp] theorem fin_stuck : Fl.fin M.stuck = M.stuck := rfl
@[simp] theorem fin_raise (x : Exn) : Fl.fin (M.raise x) = M.raise x := rfl
@[simp] theorem fin_gd {c : Prop} [Decidable c] (m : M (Fl Unit Unit)) : Fl.fin (gd c m) = gd c (Fl.fin m) := by
  unfold gd
  split <;> rfl
@[simp] theorem fin_ite {c : Prop} [Decidable c] (m n : M (Fl Unit Unit)) : Fl.fin (if c then m else n) = if c then Fl.fin m else Fl.fin n := by
  split <;> rfl
end

/-! ### the reading of a block -/
section
variable {X : Cx} {Ω : Om} {F : Fr} {ρ ρ' : Env'} {β β' γ : Type} {en : β → Env'} {en' : β' → Env'} {el : γ → Env'}
def PSt (Ω : Om) (F : Fr) (en : β → Env') (el : γ → Env') (G : Hp) (E : Ends) : Fl β γ → DS → Prop := fun fl S' => match fl with
  | .nx b => ∀ G' H' σ', RInv Ω F (en b) S' G' σ' H' → Same G G' → E.nx σ' H'
  | .rt d => ∀ G' H' v, Fx Ω F S' G' H' → Rep Ω G' v d → E.rt v H'
  | .bk c => ∀ G' H' σ', RInv Ω F (el c) S' G' σ' H' → Same G G' → E.bk σ' H'
  | .ct c => ∀ G' H' σ', RInv Ω F (el c) S' G' σ' H' → Same G G' → E.ct σ' H'
def tS (Ω : Om) (F : Fr) (ρ : Env') (m : M (Fl β γ)) (en : β → Env') (el : γ → Env') : TS := fun E σ H => ∃ S G, RInv Ω F ρ S G σ H ∧ m.wp (PSt Ω F en el G E) (Er Ω F) S
theorem PSt.le {G G' : Hp} {E : Ends} {fl : Fl β γ} {S : DS} (s : Same G G') (p : PSt Ω F en el G E fl S) : PSt Ω F en el G' E fl S := by
  cases fl with
  | nx b => exact fun G2 H2 σ2 I2 s2 => p G2 H2 σ2 I2 (s.trans s2)
  | rt d => exact p
  | bk c => exact fun G2 H2 σ2 I2 s2 => p G2 H2 σ2 I2 (s.trans s2)
  | ct c => exact fun G2 H2 σ2 I2 s2 => p G2 H2 σ2 I2 (s.trans s2)
/-- one statement, then the others -/
theorem pssC {st : Stmt} {rest : List Stmt} {m : M (Fl β γ)} {k : β → M (Fl β' γ)} (h1 : PS X st (tS Ω F ρ m en el)) (h2 : ∀ b, PSs X rest (tS Ω F (en b) (k b) en' el)) : PSs X (st :: rest) (tS Ω F ρ (Fl.seq m k) en' el) :=
  PSsi (pss_cons h1 (PSsx h2)) fun E σ H ⟨S, G, I, h⟩ => by
    refine ⟨S, G, I, ?_⟩
    unfold Fl.seq at h
    rw [wp_bind] at h
    refine h.imp fun fl S' h => ?_
    cases fl with
    | nx b => exact fun G' H' σ' I' s' => ⟨b, S', G', I', h.imp fun fl2 S2 p => p.le s'⟩
    | rt d => exact h
    | bk c => exact h
    | ct c => exact h

/-! ### changes of what is known of slots -/
def Conv (Ω : Om) (F : Fr) (ρ ρ' : Env') : Prop := ∀ S G σ H, RInv Ω F ρ S G σ H → ∃ G', RInv Ω F ρ' S G' σ H ∧ Same G G'
theorem Conv.refl : Conv Ω F ρ ρ := fun S G σ H I => ⟨G, I, Same.refl G⟩
theorem Conv.trans {ρ1 : Env'} (a : Conv Ω F ρ ρ1) (b : Conv Ω F ρ1 ρ') : Conv Ω F ρ ρ' := fun S G σ H I => by
  obtain ⟨G1, I1, s1⟩ := a S G σ H I
  obtain ⟨G2, I2, s2⟩ := b S G1 σ H I1
  exact ⟨G2, I2, s1.trans s2⟩
theorem set_ne_or {ρ : Env'} {i j : Nat} {c c' : Cell} (e : (ρ.set i c')[j]? = some c) : (j = i ∧ c = c' ∧ i < ρ.length) ∨ (j ≠ i ∧ ρ[j]? = some c) := by
  by_cases h : j = i
  · subst h
    by_cases hl : j < ρ.length
    · rw [List.getElem?_set_self hl] at e
      exact .inl ⟨rfl, (Option.some.inj e).symm, hl⟩
    · rw [List.getElem?_eq_none (by simpa using hl)] at e
      cases e
  · rw [List.getElem?_set_ne (Ne.symm h)] at e
    exact .inr ⟨h, e⟩
/-- a slot is forgotten -/
theorem Conv.drop (i : Nat) : Conv Ω F ρ (ρ.set i .no) := fun S G σ H I => by
  refine ⟨G, ⟨I.f, by rw [List.length_set]; exact I.len, fun j c e => ?_, fun j l c d p e1 e2 o1 o2 => ?_⟩, Same.refl G⟩
  · rcases set_ne_or e with ⟨_, rfl, _⟩ | ⟨_, e⟩
    · trivial
    · exact I.cell j c e
  · rcases set_ne_or e1 with ⟨_, rfl, _⟩ | ⟨_, e1⟩
    · cases o1
    · rcases set_ne_or e2 with ⟨_, rfl, _⟩ | ⟨_, e2⟩
      · cases o2
      · exact I.inj j l c d p e1 e2 o1 o2
/-- what the own object at a slot is, as data -/
def Cell.datum : Cell → Option D
  | .own ds => some (.lst ds)
  | _ => none
def Cell.datumD : Cell → Option D
  | .ownK kvs => some (.dct false (kvs.map fun kv => keyD kv.1) (kvs.map (·.2)))
  | .ownT kvs => some (.dct true (kvs.map fun kv => .tup false (kv.1.map keyD)) (kvs.map (·.2)))
  | _ => none
theorem KDs.keys {κ : Type} {Ω : Om} {G : Hp} {kvs : List (κ × V)} {ds : List (κ × D)} (h : KDs Ω G kvs ds) {α : Type} (f : κ → α) : kvs.map (fun kv => f kv.1) = ds.map (fun kv => f kv.1) := by
  have e := congrArg (List.map f) h.1
  simpa [List.map_map, Function.comp_def] using e
/-- an own object is frozen: it is data from now on -/
theorem Conv.freeze (i : Nat) {c : Cell} {d : D} (hc : ρ[i]? = some c) (hd : c.datum = some d) : Conv Ω F ρ (ρ.set i (.dat d)) := fun S G σ H I => by
  have k := I.cell i c hc
  have own : c.isOwn = true := by cases c <;> first | rfl | cases hd
  -- the object
  have ex : ∃ p o, σ[i]?.join = some (.ref p) ∧ Mine Ω F G p ∧ H p = some o ∧ (∀ ps, o ≠ .tbl ps) ∧ ∀ G', Same G G' → G' p = some o → Rep Ω G' (.ref p) d := by
    cases c with
    | no => cases hd
    | dat _ => cases hd
    | own ds =>
      obtain ⟨p, vs, e, m, hp, r⟩ := k
      cases hd
      exact ⟨p, _, e, m, hp, (fun _ z => by cases z), fun G' s e' => .lst e' (r.same s)⟩
    | ownK kvs => cases hd
    | ownT kvs => cases hd
  obtain ⟨p, o, e, m, hp, ont, rep⟩ := ex
  have sp : σ[i]? = some (some (.ref p)) := by
    cases q : σ[i]? with
    | none => rw [q] at e; cases e
    | some z => rw [q] at e; exact congrArg some e
  have sg : Same G (upd G p o) := same_upd m.g
  obtain ⟨n1, n2, n3, n4⟩ := m.ne I.f
  have w := I.f.w
  refine ⟨upd G p o, ⟨⟨⟨fun a x q => ?_, ?_, ?_, ?_, fun q hq => by rw [upd_ne (Ne.symm (n4 q hq))]; exact w.gt q hq, fun b ps z => by
    by_cases hb : b = p
    · rw [hb, upd_same] at z; exact ont ps (Option.some.inj z)
    · rw [upd_ne hb] at z; exact w.nt b ps z, w.st⟩, fun a ha => ?_, I.f.h, I.f.e⟩, by rw [List.length_set]; exact I.len, fun j c' q => ?_, fun j l c1 c2 q e1 e2 o1 o2 => ?_⟩, sg⟩
  · by_cases h : a = p
    · subst h; rw [upd_same] at q; rw [← q]; exact hp
    · rw [upd_ne h] at q; exact w.same a x q
  · rw [upd_ne (Ne.symm n1)]; exact w.ga
  · rw [upd_ne (Ne.symm n2)]; exact w.gg
  · rw [upd_ne (Ne.symm n3)]; exact w.gc
  · rw [upd_ne fun h => ha (by rw [h]; exact m.h0)]; exact I.f.g a ha
  · rcases set_ne_or q with ⟨h, rfl, _⟩ | ⟨h, q⟩
    · subst h
      exact ⟨.ref p, e, rep _ sg upd_same⟩
    · have k' := I.cell j c' q
      have other : ∀ p', c'.isOwn = true → σ[j]?.join = some (.ref p') → p' ≠ p := fun p' ho ej hpp => by
        subst hpp
        refine h (I.inj j i c' c p' q hc ho own ?_ sp)
        cases q2 : σ[j]? with
        | none => rw [q2] at ej; cases ej
        | some z => rw [q2] at ej; exact congrArg some ej
      cases c' with
      | no => trivial
      | dat d' => obtain ⟨v, e', r⟩ := k'; exact ⟨v, e', r.same sg⟩
      | own ds => obtain ⟨p', vs, e', m', hp', r⟩ := k'; exact ⟨p', vs, e', ⟨by rw [upd_ne (other p' rfl e')]; exact m'.g, m'.h0⟩, hp', r.same sg⟩
      | ownK ds => obtain ⟨p', vs, e', m', hp', r1, r2⟩ := k'; exact ⟨p', vs, e', ⟨by rw [upd_ne (other p' rfl e')]; exact m'.g, m'.h0⟩, hp', r1, r2.same sg⟩
      | ownT ds => obtain ⟨p', vs, e', m', hp', r1, r2⟩ := k'; exact ⟨p', vs, e', ⟨by rw [upd_ne (other p' rfl e')]; exact m'.g, m'.h0⟩, hp', r1, r2.same sg⟩
  · rcases set_ne_or e1 with ⟨_, rfl, _⟩ | ⟨_, e1⟩
    · cases o1
    · rcases set_ne_or e2 with ⟨_, rfl, _⟩ | ⟨_, e2⟩
      · cases o2
      · exact I.inj j l c1 c2 q e1 e2 o1 o2
theorem PSsconv {ss : List Stmt} {m : M (Fl β γ)} (c : Conv Ω F ρ ρ') (h : PSs X ss (tS Ω F ρ' m en el)) : PSs X ss (tS Ω F ρ m en el) := PSsi h fun E σ H ⟨S, G, I, w⟩ => by
  obtain ⟨G', I', s⟩ := c S G σ H I
  exact ⟨S, G', I', w.imp fun fl S' p => p.le s⟩
theorem PSconv {st : Stmt} {m : M (Fl β γ)} (c : Conv Ω F ρ ρ') (h : PS X st (tS Ω F ρ' m en el)) : PS X st (tS Ω F ρ m en el) := PSi h fun E σ H ⟨S, G, I, w⟩ => by
  obtain ⟨G', I', s⟩ := c S G σ H I
  exact ⟨S, G', I', w.imp fun fl S' p => p.le s⟩
/-- a test is read with what is own as it stands -/
theorem PTconv {e : Expr} {m : M Bool} (c : Conv Ω F ρ ρ') (h : PT X e (tT Ω F ρ' m)) : PT X e (tT Ω F ρ m) := PTi h fun σ H Q ⟨S, G, I, w⟩ => by
  obtain ⟨G1, I1, s⟩ := c S G σ H I
  refine ⟨S, G1, I1, w.imp fun b S' p G' H' b' w' g' h' r' => ?_⟩
  have w0 := I.f.w
  exact p G H' b' ⟨fun a o e => w'.same a o (g'.same I1.f.w.same a o (s a o e)), w0.ga, w0.gg, w0.gc, w0.gt, w0.nt, w'.st⟩ (GX.refl _ _) h' r'
/-- the end of a block -/
theorem pssN {b : β} (c : Conv Ω F ρ (en b)) : PSs X [] (tS Ω F ρ (pure (.nx b)) en el) := PSsi pss_nil fun E σ H ⟨S, G, I, w⟩ => by
  obtain ⟨G', I', s⟩ := c S G σ H I
  exact w G' H σ I' s

/-! ### small statements -/
variable {e : Expr} {me : M D} {pos : Pos} {k : D → M (Fl β γ)} {rest : List Stmt}
theorem psPass : PS X (.Pass pos) (tS Ω F ρ (pure (.nx ()) : M (Fl Unit γ)) (fun _ => ρ) el) := PSi ps_pass fun E σ H ⟨S, G, I, w⟩ => w G H σ I (Same.refl G)
theorem pssRet (h : PE X e (tD Ω F ρ me)) : PSs X [.Return (some e) pos] (tS Ω F ρ (me >>= fun d => pure (.rt d)) en el) := PSsi (pss_one (ps_ret h)) fun E σ H ⟨S, G, I, w⟩ => by
  refine (tG.bindI (R := RD Ω) (R' := RD Ω) (γ := D) (f := fun d => pure d) (Q := E.rt) I ?_).mono fun v H1 ⟨S1, G1, d, I1, s1, r, h1⟩ => h1 G1 H1 v I1.f.w (GX.refl _ _) (HX.refl _ _) r
  rw [wp_bind] at w ⊢
  exact w.imp fun d S' p G' H' v w' g' h' r' => p G' H' v (I.f.step w' g' h') r'
theorem psBrk {c : γ} (cv : Conv Ω F ρ (el c)) : PS X (.Break pos) (tS Ω F ρ (pure (.bk c) : M (Fl β γ)) en el) := PSi ps_break fun E σ H ⟨S, G, I, w⟩ => by
  obtain ⟨G', I', s⟩ := cv S G σ H I
  exact w G' H σ I' s
theorem psCnt {c : γ} (cv : Conv Ω F ρ (el c)) : PS X (.Continue pos) (tS Ω F ρ (pure (.ct c) : M (Fl β γ)) en el) := PSi ps_continue fun E σ H ⟨S, G, I, w⟩ => by
  obtain ⟨G', I', s⟩ := cv S G σ H I
  exact w G' H σ I' s
theorem pssOne {st : Stmt} {m : M (Fl β γ)} (h : PS X st (tS Ω F ρ m en el)) : PSs X [st] (tS Ω F ρ m en el) := pss_one h
/-- an expression, then what goes on with its value -/
theorem tD_then {t : TS} {E : Ends} {σ : L2.St} {H : Hp} {Q : VK} (h : tS Ω F ρ (me >>= k) en el E σ H)
    (q : ∀ S G S1 G1 d v H1, RInv Ω F ρ S G σ H → RInv Ω F ρ S1 G1 σ H1 → Same G G1 → Rep Ω G1 v d → (k d).wp (PSt Ω F en el G1 E) (Er Ω F) S1 → Q v H1) : tD Ω F ρ me σ H Q := by
  obtain ⟨S, G, I, w⟩ := h
  rw [wp_bind] at w
  refine ⟨S, G, I, w.imp fun d S1 p G1 H1 v w1 g1 h1 r1 => ?_⟩
  have s1 := g1.same I.f.w.same
  exact q S G S1 G1 d v H1 I (I.step w1 g1 h1) s1 r1 (p.imp fun fl S2 p2 => p2.le s1)
/-- a value stored in a slot -/
theorem RInv.set {S : DS} {G H : Hp} {σ : L2.St} {i : Nat} {v : V} {d : D} (I : RInv Ω F ρ S G σ H) (r : Rep Ω G v d) : RInv Ω F (ρ.set i (.dat d)) S G (σ.set i (some v)) H := by
  refine ⟨I.f, by rw [List.length_set, List.length_set]; exact I.len, fun j c q => ?_, fun j l c1 c2 q e1 e2 o1 o2 f1 f2 => ?_⟩
  · rcases set_ne_or q with ⟨h, rfl, hl⟩ | ⟨h, q⟩
    · subst h
      refine ⟨v, ?_, r⟩
      rw [List.getElem?_set_self (by rw [← I.len]; exact hl)]
      rfl
    · rw [List.getElem?_set_ne (Ne.symm h)]
      exact I.cell j c q
  · rcases set_ne_or e1 with ⟨_, rfl, _⟩ | ⟨h1, e1⟩
    · cases o1
    · rcases set_ne_or e2 with ⟨_, rfl, _⟩ | ⟨h2, e2⟩
      · cases o2
      · rw [List.getElem?_set_ne (Ne.symm h1)] at f1
        rw [List.getElem?_set_ne (Ne.symm h2)] at f2
        exact I.inj j l c1 c2 q e1 e2 o1 o2 f1 f2
/-- x = e -/
theorem pssSet {i : Nat} {x : Str} {p : Pos} (hN : X.N.Nodup) (h : PE X e (tD Ω F ρ me)) (hr : ∀ d, PSs X rest (tS Ω F (ρ.set i (.dat d)) (k d) en el)) (hi : X.N[i]? = some x := by rfl) (hx : Loc X.env.scope x := by first | exact Or.inl rfl | exact Or.inr rfl)
    (hf : X.fn x = true ∨ X.env.scope.names.lookup x = some .local := by first | exact Or.inl rfl | exact Or.inr rfl)
    (hs : swapsWithSole [.Name x p] e pos.line X.env = pure false := by rfl) (hw : swappedStores [.Name x p] e X.env = pure none := by rfl) : PSs X (.Assign [.Name x p] e pos :: rest) (tS Ω F ρ (me >>= k) en el) :=
  PSsi (pss_cons (ps_asg h (pg_name (i := i) hN hi hx hf) hs hw) (PSsx hr)) fun E σ H h => by
    refine tD_then (t := tNext) h fun S G S1 G1 d v H1 I I1 s1 r1 w => ?_
    exact ⟨d, S1, G1, I1.set r1, w⟩
/-- an expression whose value is dropped -/
theorem pssExp (h : PE X e (tD Ω F ρ me)) (hr : ∀ d, PSs X rest (tS Ω F ρ (k d) en el)) (hs : swapsWith e none pos.line X.env = pure false := by rfl) : PSs X (.Expr e pos :: rest) (tS Ω F ρ (me >>= k) en el) :=
  PSsi (pss_cons (ps_expr h hs) (PSsx hr)) fun E σ H h => by
    refine tD_then (t := tNext) h fun S G S1 G1 d v H1 I I1 s1 r1 w => ?_
    exact ⟨d, S1, G1, I1, w⟩
/-- if -/
theorem psIf {c : Expr} {A B : List Stmt} {mc : M Bool} {mA mB : M (Fl β γ)} (hc : PT X c (tT Ω F ρ mc)) (hA : PSs X A (tS Ω F ρ mA en el)) (hB : PSs X B (tS Ω F ρ mB en el)) : PS X (.If c A B pos) (tS Ω F ρ (mc >>= fun b => if b = true then mA else mB) en el) :=
  PSi (ps_if hc hA hB) fun E σ H ⟨S, G, I, w⟩ => by
    rw [wp_bind] at w
    refine ⟨S, G, I, w.imp fun b S1 p G1 H1 b' w1 g1 h1 r1 => ?_⟩
    cases r1
    have s1 := g1.same I.f.w.same
    have I1 := I.step w1 g1 h1
    cases b with
    | true => rw [if_pos rfl] at p ⊢; exact ⟨S1, G1, I1, p.imp fun fl S2 p2 => p2.le s1⟩
    | false => rw [if_neg Bool.false_ne_true] at p ⊢; exact ⟨S1, G1, I1, p.imp fun fl S2 p2 => p2.le s1⟩
end
end DL
set_option Elab.async false
set_option linter.all false
set_option maxRecDepth 100000
set_option autoImplicit false
/-! DL8: what is walked, targets, for, while, list comprehensions. -/
namespace DL
open PySem PySem.Spec PyProof.Rows L2

/-- a walk over data: while what is frozen stands -/
structure DW (Ω : Om) (J : It) (ds : List D) (G : Hp) : Prop where
  go : ∀ i H, Same G H → i < ds.length → J.go i H
  stop : ∀ H, Same G H → J.stop ds.length H
  yld : ∀ i H x H', Same G H → i < ds.length → J.yld i H x H' → ∃ d, ds[i]? = some d ∧ ∀ S G1, Wd Ω S G1 H → Same G G1 → ∃ G2, Wd Ω S G2 H' ∧ GX G1 H G2 ∧ HX Ω H H' ∧ Rep Ω G2 x d
def tI (Ω : Om) (F : Fr) (ρ : Env') (mi : M (List D)) : TI := fun σ H R => ∃ S G, RInv Ω F ρ S G σ H ∧
  mi.wp (fun ds S' => ∀ G' H' J, Wd Ω S' G' H' → GX G H G' → HX Ω H H' → DW Ω J ds G' → R J H') (Er Ω F) S
section
variable {X : Cx} {Ω : Om} {F : Fr} {ρ : Env'} {S : DS} {G H : Hp} {tg e : Expr} {me : M D}
theorem PIi {iter : Expr} {t t' : TI} (h : PI X tg iter t) (i : ∀ σ H R, t' σ H R → t σ H R) : PI X tg iter t' := ⟨fun pins s σ H R I q => h.run pins s σ H R I (i σ H R q)⟩
theorem PIor {iter : Expr} {t t' : TI} (h : PI X tg iter t) (h' : PI X tg iter t') : PI X tg iter (fun σ H R => t σ H R ∨ t' σ H R) := ⟨fun pins s σ H R I q => q.elim (h.run pins s σ H R I) (h'.run pins s σ H R I)⟩
theorem DW.ofW {J : It} {n : Nat} {vs : List V} {ds : List D} (w : Walk J n (fun H => Same G H) (YAt vs)) (hn : n = ds.length) (r : Reps Ω G vs ds) : DW Ω J ds G := by
  subst hn
  refine ⟨fun i H s hi => w.goes i H hi s, fun H s => w.stops H s, fun i H x H' s hi y => ?_⟩
  obtain ⟨e, hx⟩ := w.yields i H x H' hi s y
  subst e
  obtain ⟨d, hd, rd⟩ := r.get hx
  exact ⟨d, hd, fun S G1 w1 s1 => ⟨G1, w1, GX.refl _ _, HX.refl _ _, rd.same s1⟩⟩
theorem dw_list {a : Addr} {vs : List V} {ds : List D} (h : G a = some (.lst vs)) (r : Reps Ω G vs ds) (K : PySem.W.Frag) : DW Ω (Itl K a) ds G :=
  .ofW (walk_list.mono (fun H s => .inl (.inl (s _ _ h))) fun _ _ _ _ _ _ y => y) r.length r
theorem dw_tup {a : Addr} {x : Bool} {vs : List V} {ds : List D} (h : TupAt G a x vs) (r : Reps Ω G vs ds) (K : PySem.W.Frag) : DW Ω (Itt K a) ds G :=
  .ofW (walk_tup.mono (fun H s => .inl ((RdLe.of s).rd _ _ h.rd)) fun _ _ _ _ _ _ y => y) r.length r
def rangeD (lo : Int) (n : Nat) : List D := (List.range n).map fun (i : Nat) => D.int (lo + (i : Int))
theorem dw_range {lo : Int} {n : Nat} : DW Ω (Itr lo n) (rangeD lo n) G := by
  have hl : (rangeD lo n).length = n := by simp [rangeD]
  refine ⟨fun i H s hi => by rw [hl] at hi; exact hi, fun H s => by rw [hl]; exact Nat.le_refl _, fun i H x H' s hi y => ?_⟩
  rw [hl] at hi
  obtain ⟨e, ex⟩ := y
  subst e ex
  exact ⟨.int (lo + i), by simp [rangeD, hi], fun S G1 w1 s1 => ⟨G1, w1, GX.refl _ _, HX.refl _ _, .int _⟩⟩
def signsD (z : Str) : List D := z.cps.toList.map fun c => .str ⟨#[c]⟩
theorem dw_str {z : Str} : DW Ω (Its z) (signsD z) G := by
  have hl : (signsD z).length = z.cps.size := by simp [signsD]
  refine ⟨fun i H s hi => by rw [hl] at hi; exact hi, fun H s => by rw [hl]; exact Nat.le_refl _, fun i H x H' s hi y => ?_⟩
  rw [hl] at hi
  obtain ⟨e, c, hc, ex⟩ := y
  subst e ex
  exact ⟨.str ⟨#[c]⟩, by simp [signsD, hc], fun S G1 w1 s1 => ⟨G1, w1, GX.refl _ _, HX.refl _ _, .str _⟩⟩
/-- what a list, a tuple, a text is walked as -/
def dIter : D → M (List D)
  | .lst xs => pure xs
  | .tup _ xs => pure xs
  | .str z => pure (signsD z)
  | _ => M.stuck
theorem piD (h : PE X e (tD Ω F ρ me)) : PI X tg e (tI Ω F ρ (me >>= dIter)) :=
  PIi (PIor (pi_list h) (PIor (pi_tup h) (pi_str h))) fun σ H R ⟨S, G, I, w⟩ => by
    rw [wp_bind] at w
    -- by what the value is
    have key : ∀ (Q : VK), (∀ v d G' H' S', me.wp (fun d' s' => d' = d ∧ s' = S') (fun _ _ => False) S → Wd Ω S' G' H' → GX G H G' → HX Ω H H' → Rep Ω G' v d → Q v H') → True := fun _ _ => trivial
    cases hm : me S with
    | stuck => unfold M.wp at w; rw [hm] at w; exact w.elim
    | err x S' =>
      refine .inl ⟨S, G, I, ?_⟩
      unfold M.wp at w ⊢
      rw [hm] at w ⊢
      exact w
    | ok d S' =>
      unfold M.wp at w
      rw [hm] at w
      have w : (dIter d).wp _ (Er Ω F) S' := w
      have go : ∀ {Q : VK}, (∀ v G' H', Wd Ω S' G' H' → GX G H G' → HX Ω H H' → Rep Ω G' v d → Q v H') → tD Ω F ρ me σ H Q := fun {Q} q => ⟨S, G, I, by
        unfold M.wp
        rw [hm]
        exact fun G' H' v w' g' h' r' => q v G' H' w' g' h' r'⟩
      unfold dIter at w
      split at w
      · refine .inl (go fun v G' H' w' g' h' r' => ?_)
        cases r' with
        | lst q r => exact ⟨_, rfl, ⟨_, w'.lst q⟩, w G' H' _ w' g' h' (dw_list q r _)⟩
      · refine .inr (.inl (go fun v G' H' w' g' h' r' => ?_))
        cases r' with
        | tup q r => exact ⟨_, rfl, ⟨_, w'.tup q⟩, w G' H' _ w' g' h' (dw_tup q r _)⟩
      · refine .inr (.inr (go fun v G' H' w' g' h' r' => ?_))
        cases r'
        exact ⟨_, rfl, w G' H' _ w' g' h' dw_str⟩
      · exact w.elim
/-- range(n) -/
def dRange1 : List D → M (List D)
  | [.int n] => gd (-(2 ^ 62) ≤ n ∧ n < 2 ^ 62) (pure (rangeD 0 n.toNat))
  | _ => M.stuck
def dRange2 : List D → M (List D)
  | [.int a, .int b] => gd (-(2 ^ 62) ≤ a ∧ a < 2 ^ 62 ∧ -(2 ^ 62) ≤ b ∧ b < 2 ^ 62) (pure (rangeD a (b - a).toNat))
  | _ => M.stuck
theorem tA_then {ms : M (List D)} {kk : List D → M (List D)} {σ : L2.St} {H : Hp} {R : It → Hp → Prop} (h : tI Ω F ρ (ms >>= kk) σ H R) {Q : List V → Hp → Prop}
    (q : ∀ S1 G1 ds vs H1, RInv Ω F ρ S1 G1 σ H1 → Reps Ω G1 vs ds → (kk ds).wp (fun ds S' => ∀ G' H' J, Wd Ω S' G' H' → GX G1 H1 G' → HX Ω H1 H' → DW Ω J ds G' → R J H') (Er Ω F) S1 → Q vs H1) : tA Ω F ρ ms σ H Q := by
  obtain ⟨S, G, I, w⟩ := h
  rw [wp_bind] at w
  refine ⟨S, G, I, w.imp fun ds S1 p G1 H1 vs w1 g1 h1 r1 => ?_⟩
  exact q S1 G1 ds vs H1 (I.step w1 g1 h1) r1 (p.imp fun ds2 S2 p2 G' H' J w' g' h' dw => p2 G' H' J w' (g1.trans h1 w1.st g') (h1.trans h') dw)
theorem piR1 {a : Expr} {ms : M (List D)} {p pos : Pos} (hm : X.mg "range" = none) (ha : PA X [a] (tA Ω F ρ ms)) (hg : Gl X "range" := by rfl) (hs : starEach [a] X.env = [(false, eval a X.env)] := by rfl) : PI X tg (.Call (.Name "range" p) [a] [] pos) (tI Ω F ρ (ms >>= dRange1)) :=
  PIi (pi_range1 hg hm ha hs) fun σ H R h => tA_then h fun S1 G1 ds vs H1 I1 r w => by
    unfold dRange1 at w
    split at w
    · rename_i n
      rw [wp_gd] at w
      cases r with
      | cons r t =>
        cases r; cases t
        exact ⟨n, rfl, w.1.1, w.1.2, w.2 G1 H1 _ I1.f.w (GX.refl _ _) (HX.refl _ _) dw_range⟩
    · exact w.elim
theorem piR2 {a b : Expr} {ms : M (List D)} {p pos : Pos} (hm : X.mg "range" = none) (ha : PA X [a, b] (tA Ω F ρ ms)) (hg : Gl X "range" := by rfl) (hs : starEach [a, b] X.env = [(false, eval a X.env), (false, eval b X.env)] := by rfl) (hs2 : starEach [b] X.env = [(false, eval b X.env)] := by rfl) : PI X tg (.Call (.Name "range" p) [a, b] [] pos) (tI Ω F ρ (ms >>= dRange2)) :=
  PIi (pi_range2 hg hm ha hs hs2) fun σ H R h => tA_then h fun S1 G1 ds vs H1 I1 r w => by
    unfold dRange2 at w
    split at w
    · rename_i n m
      rw [wp_gd] at w
      cases r with
      | cons r t =>
        cases r
        cases t with
        | cons r t =>
          cases r; cases t
          exact ⟨n, m, rfl, w.1, w.2 G1 H1 _ I1.f.w (GX.refl _ _) (HX.refl _ _) dw_range⟩
    · exact w.elim
end

/-! ### targets -/
/-- the slots that a target sets, by the data it is given -/
abbrev Sets := List (Nat × D)
def setC (ρ : Env') (us : Sets) : Env' := us.foldl (fun ρ u => ρ.set u.1 (.dat u.2)) ρ
def RG (Ω : Om) (F : Fr) (π : D → Option Sets) (g : TG) : Prop := ∀ ρ S G σ H x d us Q, RInv Ω F ρ S G σ H → Rep Ω G x d → π d = some us →
  (∀ σ', RInv Ω F (setC ρ us) S G σ' H → (∀ j, j ∉ us.map (·.1) → σ'[j]? = σ[j]?) → σ'.length = σ.length → Q σ' H) → g x σ H Q
structure RGs (Ω : Om) (F : Fr) (n : Nat) (π : List D → Option Sets) (g : TGs) : Prop where
  run : ∀ ρ S G σ H xs ds us Q, RInv Ω F ρ S G σ H → Reps Ω G xs ds → π ds = some us → (∀ σ', RInv Ω F (setC ρ us) S G σ' H → (∀ j, j ∉ us.map (·.1) → σ'[j]? = σ[j]?) → σ'.length = σ.length → Q σ' H) → g xs σ H Q
  len : ∀ ds us, π ds = some us → ds.length = n
section
variable {X : Cx} {Ω : Om} {F : Fr} {pos : Pos}
def piN (i : Nat) : D → Option Sets := fun d => some [(i, d)]
theorem rgN {i : Nat} : RG Ω F (piN i) (gName i) := fun ρ S G σ H x d us Q I r e q => by
  cases e
  refine q _ (I.set r) (fun j hj => ?_) (List.length_set ..)
  rw [List.getElem?_set_ne]
  intro h; subst h; exact hj (by simp)
def pisN : List D → Option Sets := fun ds => match ds with
  | [] => some []
  | _ => none
def pisC (π : D → Option Sets) (πs : List D → Option Sets) : List D → Option Sets := fun ds => match ds with
  | [] => none
  | d :: ds => match π d, πs ds with
    | some u, some us => some (u ++ us)
    | _, _ => none
theorem rgsN : RGs Ω F 0 pisN gNil := by
  refine ⟨fun ρ S G σ H xs ds us Q I r e q => ?_, fun ds us e => ?_⟩
  · cases ds with
    | nil => cases e; cases r; exact ⟨rfl, q σ I (fun _ _ => rfl) rfl⟩
    | cons _ _ => cases e
  · cases ds with
    | nil => rfl
    | cons _ _ => cases e
theorem setC_append (ρ : Env') (u us : Sets) : setC ρ (u ++ us) = setC (setC ρ u) us := by simp [setC, List.foldl_append]
theorem rgsC {n : Nat} {π : D → Option Sets} {πs : List D → Option Sets} {g : TG} {gs : TGs} (h1 : RG Ω F π g) (h2 : RGs Ω F n πs gs) : RGs Ω F (n + 1) (pisC π πs) (gCons g gs) := by
  refine ⟨fun ρ S G σ H xs ds us Q I r e q => ?_, fun ds us e => ?_⟩
  · cases r with
    | nil => cases e
    | cons rd rs =>
      unfold pisC at e
      split at e
      · cases e
      · rename_i d ds heq
        cases heq
        split at e
        · rename_i u us' e1 e2
          cases e
          refine ⟨_, _, rfl, h1 ρ S G σ H _ _ u _ I rd e1 fun σ1 I1 f1 l1 => h2.run _ S G σ1 H _ _ us' Q I1 rs e2 fun σ2 I2 f2 l2 => ?_⟩
          refine q σ2 (by rw [setC_append]; exact I2) (fun j hj => ?_) (l2.trans l1)
          rw [List.map_append, List.mem_append, not_or] at hj
          rw [f2 j hj.2, f1 j hj.1]
        · cases e
  · unfold pisC at e
    split at e
    · cases e
    · rename_i d ds
      split at e
      · rename_i u us' e1 e2
        rw [List.length_cons, h2.len _ _ e2]
      · cases e
/-- a tuple of targets -/
def piT (πs : List D → Option Sets) : D → Option Sets := fun d => match d with
  | .tup _ ds => πs ds
  | _ => none
theorem rgT {n : Nat} {K : PySem.W.Frag} {πs : List D → Option Sets} {gs : TGs} (h : RGs Ω F n πs gs) : RG Ω F (piT πs) (gTup K n gs) := fun ρ S G σ H x d us Q I r e q => by
  cases d with
  | tup x ds =>
    cases r with
    | tup hq rs => exact ⟨_, _, rfl, I.f.w.tup hq, by rw [rs.length]; exact h.len _ _ e, h.run ρ S G σ H _ _ us Q I rs e q⟩
  | _ => cases e
theorem pgN {i : Nat} {x : Str} (hN : X.N.Nodup) (hi : X.N[i]? = some x := by rfl) (hx : Loc X.env.scope x := by first | exact Or.inl rfl | exact Or.inr rfl) (hf : X.fn x = true ∨ X.env.scope.names.lookup x = some .local := by first | exact Or.inl rfl | exact Or.inr rfl) : PG X (.Name x pos) (gName i) := pg_name hN hi hx hf
end
end DL
set_option Elab.async false
set_option linter.all false
set_option maxRecDepth 100000
set_option autoImplicit false
/-! DL9: for, list comprehensions. -/
namespace DL
open PySem PySem.Spec PyProof.Rows L2

def loopD {β γ : Type} (f : β → D → M (Fl β β)) : List D → β → M (Fl β γ)
  | [], b => pure (.nx b)
  | d :: ds, b => f b d >>= fun fl => match fl with
    | .nx b' => loopD f ds b'
    | .ct b' => loopD f ds b'
    | .bk b' => pure (.nx b')
    | .rt r => pure (.rt r)
section
variable {X : Cx} {Ω : Om} {F : Fr} {ρ : Env'} {β γ : Type} {enb : β → Env'} {el : γ → Env'} {pos : Pos}
theorem psFor {tg iter : Expr} {body : List Stmt} {mi : M (List D)} {π : D → Option Sets} {g : TG} {f : β → D → M (Fl β β)} {b0 : β} (hp : PassesOwn (model X.prog X.w) X.A X.env X.xe) (hc : X.calm = true)
    (hi : PI X tg iter (tI Ω F ρ mi)) (hg : PG X tg g) (hr : RG Ω F π g) (hb : ∀ b d us, π d = some us → PSs X body (tS Ω F (setC (enb b) us) (f b d) enb enb)) (hn : ∀ b d, π d = none → f b d = M.stuck) (c0 : Conv Ω F ρ (enb b0))
    (hs : ∀ x, foldedSetIterable iter X.env x = pure x := by intro _; rfl) : PS X (.For tg iter body [] pos) (tS Ω F ρ (mi >>= fun ds => loopD f ds b0) enb el) := by
  have hb' : PSs X body (fun E σ H => ∃ p : { q : β × D × Sets // π q.2.1 = some q.2.2 }, tS Ω F (setC (enb p.1.1) p.1.2.2) (f p.1.1 p.1.2.1) enb enb E σ H) := PSsx fun p => hb _ _ _ p.2
  refine PSi (ps_for hp hc hi hg hb' hs) fun E σ H ⟨S, G, I, w⟩ => ?_
  rw [wp_bind] at w
  refine ⟨S, G, I, w.imp fun ds S1 p G1 H1 J w1 g1 h1 dw => ?_⟩
  have s1 := g1.same I.f.w.same
  have I1 := I.step w1 g1 h1
  obtain ⟨G2, I2, s2⟩ := c0 S1 G1 σ H1 I1
  -- the invariant
  refine ⟨fun i m σ' H' => m = ds.length - i ∧ i ≤ ds.length ∧ ∃ b S' G', RInv Ω F (enb b) S' G' σ' H' ∧ Same G1 G' ∧ (loopD f (ds.drop i) b).wp (PSt Ω F enb el G E) (Er Ω F) S',
    ⟨ds.length, by simp, Nat.zero_le _, b0, S1, G2, I2, s2, by rw [List.drop_zero]; exact p⟩, ?_⟩
  rintro i m σ' H' ⟨rfl, hi', b, S', G', I', s', q⟩
  have sH : Same G1 H' := s'.trans I'.f.w.same
  by_cases hlt : i < ds.length
  · refine .inr ⟨dw.go i H' sH hlt, fun σ'' H'' => i + 1 ≤ ds.length ∧ ∃ b S' G', RInv Ω F (enb b) S' G' σ'' H'' ∧ Same G1 G' ∧ (loopD f (ds.drop (i + 1)) b).wp (PSt Ω F enb el G E) (Er Ω F) S', fun σ'' H'' ⟨h2, h3⟩ => ⟨ds.length - (i + 1), by omega, rfl, h2, h3⟩, fun x H'' y => ?_⟩
    obtain ⟨d, hd, nw⟩ := dw.yld i H' x H'' sH hlt y
    obtain ⟨G3, w3, g3, h3, r3⟩ := nw S' G' I'.f.w s'
    have s3 := g3.same I'.f.w.same
    have I3 := I'.step w3 g3 h3
    have e : ds.drop i = d :: ds.drop (i + 1) := by
      rw [List.drop_eq_getElem_cons hlt]
      rw [List.getElem?_eq_getElem hlt] at hd
      rw [Option.some.inj hd]
    rw [e] at q
    unfold loopD at q
    rw [wp_bind] at q
    cases hπ : π d with
    | none => rw [hn b d hπ] at q; exact q.elim
    | some us =>
      refine hr (enb b) S' G3 σ' H'' x d us _ I3 r3 hπ fun σ4 I4 _ _ => ?_
      refine ⟨⟨(b, d, us), hπ⟩, S', G3, I4, q.imp fun fl S5 q5 => ?_⟩
      cases fl with
      | nx b' => exact fun G5 H5 σ5 I5 s5 => ⟨hlt, b', S5, G5, I5, (s'.trans s3).trans s5, q5⟩
      | ct b' => exact fun G5 H5 σ5 I5 s5 => ⟨hlt, b', S5, G5, I5, (s'.trans s3).trans s5, q5⟩
      | bk b' => exact fun G5 H5 σ5 I5 s5 => q5 G5 H5 σ5 I5 (((s1.trans s').trans s3).trans s5)
      | rt r => exact fun G5 H5 v f5 r5 => q5 G5 H5 v f5 r5
  · have e : i = ds.length := by omega
    subst e
    rw [List.drop_length] at q
    exact .inl ⟨dw.stop H' sH, q G' H' σ' I' (s1.trans s')⟩
/-! ### patterns -/
def un2 {α : Type} (k : D → D → M α) : D → M α
  | .tup _ [x, y] => k x y
  | _ => M.stuck
def un3 {α : Type} (k : D → D → D → M α) : D → M α
  | .tup _ [x, y, z] => k x y z
  | _ => M.stuck
theorem pi2 {α : Type} {i j : Nat} {d : D} (k : D → D → M α) : (∃ t x y, d = .tup t [x, y] ∧ piT (pisC (piN i) (pisC (piN j) pisN)) d = some [(i, x), (j, y)]) ∨ (piT (pisC (piN i) (pisC (piN j) pisN)) d = none ∧ un2 k d = M.stuck) := by
  cases d with
  | tup t ds =>
    match ds with
    | [] => exact .inr ⟨rfl, rfl⟩
    | [_] => exact .inr ⟨rfl, rfl⟩
    | [x, y] => exact .inl ⟨t, x, y, rfl, rfl⟩
    | _ :: _ :: _ :: _ => exact .inr ⟨rfl, rfl⟩
  | _ => exact .inr ⟨rfl, rfl⟩
theorem pi2s {i j : Nat} {d : D} {us : Sets} (e : piT (pisC (piN i) (pisC (piN j) pisN)) d = some us) : ∃ t x y, d = .tup t [x, y] ∧ us = [(i, x), (j, y)] := by
  rcases pi2 (i := i) (j := j) (d := d) (α := D) (fun _ _ => M.stuck) with ⟨t, x, y, h, h2⟩ | ⟨h, _⟩
  · rw [h2] at e; cases e; exact ⟨t, x, y, h, rfl⟩
  · rw [h] at e; cases e
theorem pi2n {α : Type} {i j : Nat} {d : D} {k : D → D → M α} (e : piT (pisC (piN i) (pisC (piN j) pisN)) d = none) : un2 k d = M.stuck := by
  rcases pi2 (i := i) (j := j) (d := d) k with ⟨t, x, y, h, h2⟩ | ⟨_, h⟩
  · rw [h2] at e; cases e
  · exact h
theorem pi3 {α : Type} {i j l : Nat} {d : D} (k : D → D → D → M α) : (∃ t x y z, d = .tup t [x, y, z] ∧ piT (pisC (piN i) (pisC (piN j) (pisC (piN l) pisN))) d = some [(i, x), (j, y), (l, z)]) ∨ (piT (pisC (piN i) (pisC (piN j) (pisC (piN l) pisN))) d = none ∧ un3 k d = M.stuck) := by
  cases d with
  | tup t ds =>
    match ds with
    | [] => exact .inr ⟨rfl, rfl⟩
    | [_] => exact .inr ⟨rfl, rfl⟩
    | [_, _] => exact .inr ⟨rfl, rfl⟩
    | [x, y, z] => exact .inl ⟨t, x, y, z, rfl, rfl⟩
    | _ :: _ :: _ :: _ :: _ => exact .inr ⟨rfl, rfl⟩
  | _ => exact .inr ⟨rfl, rfl⟩
theorem pi3s {i j l : Nat} {d : D} {us : Sets} (e : piT (pisC (piN i) (pisC (piN j) (pisC (piN l) pisN))) d = some us) : ∃ t x y z, d = .tup t [x, y, z] ∧ us = [(i, x), (j, y), (l, z)] := by
  rcases pi3 (i := i) (j := j) (l := l) (d := d) (α := D) (fun _ _ _ => M.stuck) with ⟨t, x, y, z, h, h2⟩ | ⟨h, _⟩
  · rw [h2] at e; cases e; exact ⟨t, x, y, z, h, rfl⟩
  · rw [h] at e; cases e
theorem pi3n {α : Type} {i j l : Nat} {d : D} {k : D → D → D → M α} (e : piT (pisC (piN i) (pisC (piN j) (pisC (piN l) pisN))) d = none) : un3 k d = M.stuck := by
  rcases pi3 (i := i) (j := j) (l := l) (d := d) k with ⟨t, x, y, z, h, h2⟩ | ⟨_, h⟩
  · rw [h2] at e; cases e
  · exact h
/-- for x in e -/
theorem psFor1 {i : Nat} {x : Str} {px : Pos} {iter : Expr} {body : List Stmt} {mi : M (List D)} {f : β → D → M (Fl β β)} {b0 : β} (hp : PassesOwn (model X.prog X.w) X.A X.env X.xe) (hN : X.N.Nodup)
    (hi : PI X (.Name x px) iter (tI Ω F ρ mi)) (hb : ∀ b d, PSs X body (tS Ω F ((enb b).set i (.dat d)) (f b d) enb enb)) (c0 : Conv Ω F ρ (enb b0)) (hc : X.calm = true := by rfl)
    (hix : X.N[i]? = some x := by rfl) (hx : Loc X.env.scope x := by first | exact Or.inl rfl | exact Or.inr rfl) (hf : X.fn x = true ∨ X.env.scope.names.lookup x = some .local := by first | exact Or.inl rfl | exact Or.inr rfl)
    (hs : ∀ x, foldedSetIterable iter X.env x = pure x := by intro _; rfl) : PS X (.For (.Name x px) iter body [] pos) (tS Ω F ρ (mi >>= fun ds => loopD f ds b0) enb el) :=
  psFor hp hc hi (pgN hN hix hx hf) rgN (fun b d us e => by cases e; exact hb b d) (fun b d e => by cases e) c0 hs
/-- for x, y in e -/
theorem psFor2 {i j : Nat} {x y : Str} {px py pt : Pos} {kt : Nat} {iter : Expr} {body : List Stmt} {mi : M (List D)} {f : β → D → D → M (Fl β β)} {b0 : β} (hp : PassesOwn (model X.prog X.w) X.A X.env X.xe) (hN : X.N.Nodup)
    (hi : PI X (.Tuple [.Name x px, .Name y py] kt pt) iter (tI Ω F ρ mi)) (hb : ∀ b d e, PSs X body (tS Ω F (((enb b).set i (.dat d)).set j (.dat e)) (f b d e) enb enb)) (c0 : Conv Ω F ρ (enb b0)) (hc : X.calm = true := by rfl)
    (hix : X.N[i]? = some x := by rfl) (hx : Loc X.env.scope x := by first | exact Or.inl rfl | exact Or.inr rfl) (hf : X.fn x = true ∨ X.env.scope.names.lookup x = some .local := by first | exact Or.inl rfl | exact Or.inr rfl)
    (hjy : X.N[j]? = some y := by rfl) (hy : Loc X.env.scope y := by first | exact Or.inl rfl | exact Or.inr rfl) (hf2 : X.fn y = true ∨ X.env.scope.names.lookup y = some .local := by first | exact Or.inl rfl | exact Or.inr rfl)
    (hn : (assignEach [.Name x px, .Name y py] X.env).length = 2 := by rfl) (hst : (assignEach [.Name x px, .Name y py] X.env).findIdx? (·.1) = none := by rfl)
    (hs1 : (assignEach [.Name x px, .Name y py] X.env).map (·.2) = assign (.Name x px) X.env :: (assignEach [.Name y py] X.env).map (·.2) := by rfl) (hs2 : (assignEach [.Name y py] X.env).map (·.2) = assign (.Name y py) X.env :: (assignEach [] X.env).map (·.2) := by rfl)
    (hs : ∀ x, foldedSetIterable iter X.env x = pure x := by intro _; rfl) : PS X (.For (.Tuple [.Name x px, .Name y py] kt pt) iter body [] pos) (tS Ω F ρ (mi >>= fun ds => loopD (fun b => un2 (f b)) ds b0) enb el) :=
  psFor hp hc hi (pg_tup hc (pgs_cons (pgN hN hix hx hf) (pgs_cons (pgN hN hjy hy hf2) pgs_nil hs2) hs1) hn hst) (rgT (rgsC rgN (rgsC rgN rgsN))) (fun b d us e => by obtain ⟨t, x, y, rfl, rfl⟩ := pi2s e; exact hb b x y) (fun b d e => pi2n e) c0 hs
end

/-! ### no exception -/
def noErr {α : Type} (m : M α) : M α := fun s => match m s with
  | .err _ _ => .stuck
  | o => o
section
variable {α β : Type}
theorem wp_noErr {m : M α} {Q : α → DS → Prop} {E : Exn → DS → Prop} {s : DS} : (noErr m).wp Q E s = m.wp Q (fun _ _ => False) s := by
  unfold M.wp noErr
  cases m s <;> rfl
@[simp] theorem noErr_pure (a : α) : noErr (pure a : M α) = pure a := rfl
@[simp] theorem noErr_bind (m : M α) (f : α → M β) : noErr (m >>= f) = noErr m >>= fun a => noErr (f a) := M.ext fun s => by
  show noErr (M.bind m f) s = M.bind (noErr m) (fun a => noErr (f a)) s
  unfold noErr M.bind
  cases h : m s <;> simp only [h]
@[simp] theorem noErr_stuck : noErr (M.stuck : M α) = M.stuck := rfl
@[simp] theorem noErr_gd {c : Prop} [Decidable c] (m : M α) : noErr (gd c m) = gd c (noErr m) := by
  unfold gd
  split <;> rfl
@[simp] theorem noErr_ite {c : Prop} [Decidable c] (m n : M α) : noErr (if c then m else n) = if c then noErr m else noErr n := by
  split <;> rfl
end
abbrev Fr.nox (F : Fr) : Fr := { F with E := fun _ _ _ => False }
section
variable {Ω : Om} {F : Fr} {ρ : Env'} {S : DS} {G H : Hp} {σ : L2.St}
theorem Fx.re {F' : Fr} (f : Fx Ω F S G H) (h1 : F'.G0 = F.G0) (h2 : F'.H0 = F.H0) : Fx Ω F' S G H := ⟨f.w, by rw [h1, h2]; exact f.g, by rw [h2]; exact f.h, by rw [h2]; exact f.e⟩
theorem CellOk.re {F' : Fr} {sv : Option V} {c : Cell} (k : CellOk Ω F G H sv c) (h2 : F'.H0 = F.H0) : CellOk Ω F' G H sv c := by
  cases c with
  | no => trivial
  | dat d => exact k
  | own ds => obtain ⟨p, vs, e, m, r⟩ := k; exact ⟨p, vs, e, ⟨m.g, by rw [h2]; exact m.h0⟩, r⟩
  | ownK ds => obtain ⟨p, vs, e, m, r⟩ := k; exact ⟨p, vs, e, ⟨m.g, by rw [h2]; exact m.h0⟩, r⟩
  | ownT ds => obtain ⟨p, vs, e, m, r⟩ := k; exact ⟨p, vs, e, ⟨m.g, by rw [h2]; exact m.h0⟩, r⟩
theorem RInv.re {F' : Fr} (I : RInv Ω F ρ S G σ H) (h1 : F'.G0 = F.G0) (h2 : F'.H0 = F.H0) : RInv Ω F' ρ S G σ H := ⟨I.f.re h1 h2, I.len, fun i c e => (I.cell i c e).re h2, I.inj⟩
/-- a slot is emptied -/
theorem RInv.unset (I : RInv Ω F ρ S G σ H) (i : Nat) : RInv Ω F (ρ.set i .no) S G (σ.set i none) H := by
  refine ⟨I.f, by rw [List.length_set, List.length_set]; exact I.len, fun j c q => ?_, fun j l c1 c2 q e1 e2 o1 o2 f1 f2 => ?_⟩
  · rcases set_ne_or q with ⟨h, rfl, hl⟩ | ⟨h, q⟩
    · trivial
    · rw [List.getElem?_set_ne (Ne.symm h)]
      exact I.cell j c q
  · rcases set_ne_or e1 with ⟨_, rfl, _⟩ | ⟨h1, e1⟩
    · cases o1
    · rcases set_ne_or e2 with ⟨_, rfl, _⟩ | ⟨h2, e2⟩
      · cases o2
      · rw [List.getElem?_set_ne (Ne.symm h1)] at f1
        rw [List.getElem?_set_ne (Ne.symm h2)] at f2
        exact I.inj j l c1 c2 q e1 e2 o1 o2 f1 f2
def wipeC (ρ : Env') : List Nat → Env'
  | [] => ρ
  | v :: vs => (wipeC ρ vs).set v .no
theorem RInv.wipe (I : RInv Ω F ρ S G σ H) : ∀ vs : List Nat, RInv Ω F (wipeC ρ vs) S G (L2.wipe σ vs) H
  | [] => I
  | v :: vs => (RInv.wipe I vs).unset v
theorem wipe_get (σ : L2.St) (j : Nat) : ∀ vs : List Nat, (L2.wipe σ vs)[j]? = if j ∈ vs ∧ j < σ.length then some none else σ[j]?
  | [] => by simp [L2.wipe]
  | v :: vs => by
    unfold L2.wipe
    by_cases h : v = j
    · subst h
      by_cases hl : v < σ.length
      · rw [List.getElem?_set_self (by rw [wipe_length]; exact hl), if_pos ⟨by simp, hl⟩]
      · rw [List.getElem?_eq_none (by rw [List.length_set, wipe_length]; omega), if_neg (fun z => hl z.2), List.getElem?_eq_none (by omega)]
    · rw [List.getElem?_set_ne h, wipe_get σ j vs]
      have e : (j ∈ v :: vs) ↔ j ∈ vs := by
        rw [List.mem_cons]
        exact ⟨fun z => z.elim (fun q => absurd q.symm h) id, .inr⟩
      simp only [e]
theorem wipe_eq {σ σ2 : L2.St} {vs : List Nat} (hl : σ2.length = σ.length) (h : ∀ j, j ∉ vs → σ2[j]? = (L2.wipe σ vs)[j]?) : L2.wipe σ2 vs = L2.wipe σ vs := by
  apply List.ext_getElem?
  intro j
  rw [wipe_get σ2, hl]
  by_cases hj : j ∈ vs
  · rw [wipe_get σ]
    by_cases h2 : j < σ.length
    · rw [if_pos ⟨hj, h2⟩, if_pos ⟨hj, h2⟩]
    · rw [if_neg (fun z => h2 z.2), if_neg (fun z => h2 z.2), List.getElem?_eq_none (by omega), List.getElem?_eq_none (by omega)]
  · rw [if_neg (fun z => hj z.1)]
    exact h j hj
end
/-- the turns of a comprehension -/
def compM (f : D → M (Option D)) : List D → M (List D)
  | [] => pure []
  | d :: ds => f d >>= fun o => compM f ds >>= fun rs => pure (o.toList ++ rs)
def lcM (mt : D → M Bool) (me : D → M D) (d : D) : M (Option D) := noErr (mt d >>= fun b => if b = true then me d >>= fun x => pure (some x) else pure none)
section
variable {X : Cx} {Ω : Om} {F : Fr} {ρ : Env'} {pos : Pos}
theorem compM_len {f : D → M (Option D)} : ∀ {ds : List D} {S : DS} {Q : List D → DS → Prop} {E : Exn → DS → Prop}, (compM f ds).wp Q E S → (compM f ds).wp (fun rs S' => Q rs S' ∧ rs.length ≤ ds.length) E S
  | [], _, _, _, h => ⟨h, Nat.le_refl _⟩
  | d :: ds, S, Q, E, h => by
    unfold compM at h ⊢
    rw [wp_bind] at h ⊢
    refine h.imp fun o S1 h1 => ?_
    rw [wp_bind] at h1 ⊢
    refine (compM_len h1).imp fun rs S2 ⟨h2, hl⟩ => ⟨h2, ?_⟩
    rw [List.length_append, List.length_cons]
    have : o.toList.length ≤ 1 := by cases o <;> simp
    omega
/-- [elt for tg in iter if ..] -/
theorem pdLcG {elt tg iter : Expr} {ifs : List Expr} {scope : Scope} {own : List (Str × Nat)} {mi : M (List D)} {π : D → Option Sets} {g : TG} {mt : D → M Bool} {me : D → M D}
    (hc : X.calm = true) (hN : X.N.Nodup) (hi : PI X tg iter (tI Ω F ρ mi)) (ok : BlkOk X.N X.env.scope scope own) (hv : ∀ d us, π d = some us → ∀ j ∈ us.map (·.1), j ∈ own.map (·.2)) (hn : ∀ d, π d = none → lcM mt me d = M.stuck)
    (hr : RG Ω F.nox π g)
    (ht : ∀ (s : Shared) (H : Hp) (C : Addr) (cl : List (Str × Addr)) (fp : List Addr) d us, π d = some us → PTs (X.blk s H scope (compEnvC scope cl C X.env) fp) ifs (tT Ω F.nox (setC (wipeC ρ (own.map (·.2))) us) (mt d)))
    (he : ∀ (s : Shared) (H : Hp) (C : Addr) (cl : List (Str × Addr)) (fp : List Addr) d us, π d = some us → PE (X.blk s H scope (compEnvC scope cl C X.env) fp) elt (tD Ω F.nox (setC (wipeC ρ (own.map (·.2))) us) (me d)))
    (hs : ∀ x, foldedSetIterable iter X.env x = pure x := by intro _; rfl) :
    (∀ (s : Shared) (H : Hp) (C : Addr) (cl : List (Str × Addr)) (fp : List Addr), PTs (X.blk s H scope (compEnvC scope cl C X.env) fp) ifs (fun σ H Q => ∃ p : { q : D × Sets // π q.1 = some q.2 }, tT Ω F.nox (setC (wipeC ρ (own.map (·.2))) p.1.2) (mt p.1.1) σ H Q)) ∧
    (∀ (s : Shared) (H : Hp) (C : Addr) (cl : List (Str × Addr)) (fp : List Addr), PE (X.blk s H scope (compEnvC scope cl C X.env) fp) elt (fun σ H Q => ∃ p : { q : D × Sets // π q.1 = some q.2 }, tD Ω F.nox (setC (wipeC ρ (own.map (·.2))) p.1.2) (me p.1.1) σ H Q)) ∧
    (∀ σ H Q, tD Ω F ρ (mi >>= fun ds => gd (ds.length ≤ lim) (compM (lcM mt me) ds >>= fun rs => pure (.lst rs))) σ H Q → tLc (tI Ω F ρ mi) g (fun σ H Q => ∃ p : { q : D × Sets // π q.1 = some q.2 }, tT Ω F.nox (setC (wipeC ρ (own.map (·.2))) p.1.2) (mt p.1.1) σ H Q)
      (fun σ H Q => ∃ p : { q : D × Sets // π q.1 = some q.2 }, tD Ω F.nox (setC (wipeC ρ (own.map (·.2))) p.1.2) (me p.1.1) σ H Q) (own.map (·.2)) σ H Q) := by
  refine ⟨fun s H C cl fp => PTsx fun p => ht s H C cl fp _ _ p.2, fun s H C cl fp => PEx fun p => he s H C cl fp _ _ p.2, fun σ H Q ⟨S, G, I, w⟩ => ?_⟩
  rw [wp_bind] at w
  refine ⟨S, G, I, w.imp fun ds S1 p G1 H1 J w1 g1 h1 dw Da hD => ?_⟩
  rw [wp_gd, lim_eq, wp_bind] at p
  obtain ⟨hl, p⟩ := p
  have p := compM_len p
  have I1 := I.step w1 g1 h1
  have sD : Same H1 (upd H1 Da (.lst [])) := same_upd hD
  -- the invariant: what is made so far stands at Da, not frozen
  refine ⟨fun i m H' => m = ds.length - i ∧ i ≤ ds.length ∧ ∃ vs rs S' G', RInv Ω F ρ S' G' σ H' ∧ Same G1 G' ∧ GX G H G' ∧ HX Ω H H' ∧ G' Da = none ∧ H' Da = some (.lst vs) ∧ rs.length ≤ i ∧ Reps Ω G' vs rs ∧
      (compM (lcM mt me) (ds.drop i)).wp (fun rs2 S2 => (pure (.lst (rs ++ rs2)) : M D).wp (Pg Ω (RD Ω) G H Q) (Er Ω F) S2) (Er Ω F) S', ⟨ds.length, by simp, Nat.zero_le _, [], [], S1, G1, I1.step (w1.grow sD) (GX.refl _ _) (HX.of sD), Same.refl _, g1, h1.trans (HX.of sD), w1.free hD, upd_same, Nat.le_refl _, .nil, ?_⟩, ?_⟩
  · rw [List.drop_zero]
    exact p.imp fun rs2 S2 q => q.1
  rintro i m H' ⟨rfl, hi', vs, rs, S', G', I', s', g', x', hn', hD', hlen, rr, q⟩
  have sH : Same G1 H' := s'.trans I'.f.w.same
  by_cases hlt : i < ds.length
  · refine .inr ⟨dw.go i H' sH hlt, fun H'' => i + 1 ≤ ds.length ∧ ∃ vs rs S' G', RInv Ω F ρ S' G' σ H'' ∧ Same G1 G' ∧ GX G H G' ∧ HX Ω H H'' ∧ G' Da = none ∧ H'' Da = some (.lst vs) ∧ rs.length ≤ i + 1 ∧ Reps Ω G' vs rs ∧
      (compM (lcM mt me) (ds.drop (i + 1))).wp (fun rs2 S2 => (pure (.lst (rs ++ rs2)) : M D).wp (Pg Ω (RD Ω) G H Q) (Er Ω F) S2) (Er Ω F) S', fun H'' ⟨h2, h3⟩ => ⟨ds.length - (i + 1), by omega, rfl, h2, h3⟩, fun x H'' y => ?_⟩
    obtain ⟨d, hd, nw⟩ := dw.yld i H' x H'' sH hlt y
    obtain ⟨G3, w3, g3, h3, r3⟩ := nw S' G' I'.f.w s'
    have s3 := g3.same I'.f.w.same
    have I3 := I'.step w3 g3 h3
    have hDne := w1.ne hD
    have hD3 : H'' Da = some (.lst vs) := h3 _ _ hD' hDne.1 hDne.2.1 hDne.2.2.2
    have n3 : G3 Da = none := by rw [g3.at hD' (by intro _ z; cases z)]; exact hn'
    have gx3 : GX G H G3 := g'.trans x' I'.f.w.st g3
    have e : ds.drop i = d :: ds.drop (i + 1) := by
      rw [List.drop_eq_getElem_cons hlt]
      rw [List.getElem?_eq_getElem hlt] at hd
      rw [Option.some.inj hd]
    rw [e] at q
    unfold compM at q
    rw [wp_bind] at q
    cases hπ : π d with
    | none => rw [hn d hπ] at q; exact q.elim
    | some us =>
      have I3' : RInv Ω F.nox (wipeC ρ (own.map (·.2))) S' G3 (L2.wipe σ (own.map (·.2))) H'' := (I3.re (F' := F.nox) rfl rfl).wipe _
      refine hr _ S' G3 _ H'' x d us _ I3' r3 hπ fun σ4 I4 f4 l4 => ?_
      refine ⟨wipe_eq (l4.trans (wipe_length _ _)) fun j hj => f4 j fun hm => hj (hv d us hπ j hm), ⟨(d, us), hπ⟩, S', G3, I4, ?_⟩
      unfold lcM at q
      rw [wp_noErr, wp_bind] at q
      refine q.mono (fun b S5 q5 G5 H5 b5 w5 g5 h5 r5 => ?_) fun _ _ z => z.elim
      cases r5
      have s5 := g5.same I4.f.w.same
      have I5 := I3.step w5 g5 h5
      have I5' := I4.step w5 g5 h5
      have hD5 : H5 Da = some (.lst vs) := h5 _ _ hD3 hDne.1 hDne.2.1 hDne.2.2.2
      have n5 : G5 Da = none := by rw [g5.at hD3 (by intro _ z; cases z)]; exact n3
      have gx5 : GX G H G5 := gx3.trans (x'.trans h3) w3.st g5
      cases b with
      | false =>
        rw [if_neg Bool.false_ne_true] at q5 ⊢
        have q5 : (compM (lcM mt me) (ds.drop (i + 1)) >>= fun rs => pure ((none : Option D).toList ++ rs)).wp _ (Er Ω F) S5 := q5
        rw [wp_bind] at q5
        exact ⟨hlt, vs, rs, S5, G5, I5, (s'.trans s3).trans s5, gx5, (x'.trans h3).trans h5, n5, hD5, by omega, (rr.same s3).same s5, q5⟩
      | true =>
        rw [if_pos rfl] at q5 ⊢
        have q5 : (me d >>= fun x => pure (some x) : M (Option D)).wp _ (fun _ _ => False) S5 := q5
        rw [wp_bind] at q5
        refine ⟨⟨(d, us), hπ⟩, S5, G5, I5', q5.mono (fun z S6 q6 G6 H6 v6 w6 g6 h6 r6 => ?_) fun _ _ z => z.elim⟩
        have s6 := g6.same I5.f.w.same
        have I6 := I5.step w6 g6 h6
        have hD6 : H6 Da = some (.lst vs) := h6 _ _ hD5 hDne.1 hDne.2.1 hDne.2.2.2
        have n6 : G6 Da = none := by rw [g6.at hD5 (by intro _ z; cases z)]; exact n5
        have gx6 : GX G H G6 := gx5.trans ((x'.trans h3).trans h5) w5.st g6
        have hx6 : HX Ω H H6 := ((x'.trans h3).trans h5).trans h6
        have rr6 := ((rr.same s3).same s5).same s6
        have q6 : (compM (lcM mt me) (ds.drop (i + 1)) >>= fun rs => pure ((some z).toList ++ rs)).wp _ (Er Ω F) S6 := q6
        rw [wp_bind] at q6
        refine ⟨vs, hD6, by rw [rr.length]; omega, hlt, vs ++ [v6], rs ++ [z], S6, G6, ?_, ((s'.trans s3).trans s5).trans s6, gx6, ?_, n6, upd_same, by rw [List.length_append, List.length_singleton]; omega, rr6.append (.cons r6 .nil), q6.imp fun rs2 S7 q7 => ?_⟩
        · -- the new list is the def's own: nothing leans on it
          have f6 := I6.f
          have sg : Same G6 (upd H6 Da (.lst (vs ++ [v6]))) := fun a o q => by
            rw [upd_ne fun h => by subst h; rw [n6] at q; cases q]
            exact f6.w.same a o q
          have st6 : StOk Ω S6 (upd H6 Da (.lst (vs ++ [v6]))) := ⟨by rw [upd_ne (Ne.symm hDne.1)]; exact f6.w.st.dict, by rw [upd_ne (Ne.symm hDne.2.1)]; exact f6.w.st.great, by rw [upd_ne (Ne.symm hDne.2.2.1)]; exact f6.w.st.cells, tabs_upd f6.w.st.tabs hDne.2.2.2 fun φ z => by rw [hD6] at z; cases z⟩
          have h0 : F.H0 Da = none := by
            cases q0 : F.H0 Da with
            | none => rfl
            | some o => exact absurd hD (I1.f.h.there I1.f.w.st (by rw [q0]; simp))
          have hxF : HX Ω F.H0 (upd H6 Da (.lst (vs ++ [v6]))) := fun a o q n1 n2 n3 => by
            rw [upd_ne fun h => by subst h; rw [h0] at q; cases q]
            exact f6.h a o q n1 n2 n3
          refine ⟨⟨⟨sg, f6.w.ga, f6.w.gg, f6.w.gc, f6.w.gt, f6.w.nt, st6⟩, f6.g, hxF, f6.e⟩, I6.len, fun j c q => ?_, I6.inj⟩
          have k := I1.cell j c q
          have k6 := I6.cell j c q
          have other : ∀ p o, H1 p = some o → p ≠ Da := fun p o q h => by subst h; rw [hD] at q; cases q
          cases c with
          | no => trivial
          | dat d => exact k6
          | own ds =>
            obtain ⟨p, vs1, e1, m1, hp1, _⟩ := k
            obtain ⟨p2, vs2, e2, m2, hp2, r2⟩ := k6
            rw [e1] at e2; cases e2
            exact ⟨p, vs2, e1, m2, by rw [upd_ne (other p _ hp1)]; exact hp2, r2⟩
          | ownK ds =>
            obtain ⟨p, vs1, e1, m1, hp1, _⟩ := k
            obtain ⟨p2, vs2, e2, m2, hp2, r2⟩ := k6
            rw [e1] at e2; cases e2
            exact ⟨p, vs2, e1, m2, by rw [upd_ne (other p _ hp1)]; exact hp2, r2⟩
          | ownT ds =>
            obtain ⟨p, vs1, e1, m1, hp1, _⟩ := k
            obtain ⟨p2, vs2, e2, m2, hp2, r2⟩ := k6
            rw [e1] at e2; cases e2
            exact ⟨p, vs2, e1, m2, by rw [upd_ne (other p _ hp1)]; exact hp2, r2⟩
        · have hDH : H Da = none := by
            cases q0 : H Da with
            | none => rfl
            | some o => exact absurd hD (h1.there w1.st (by rw [q0]; simp))
          exact fun a o q n1 n2 n3 => by
            rw [upd_ne fun h => by subst h; rw [hDH] at q; cases q]
            exact hx6 a o q n1 n2 n3
        · rw [List.append_assoc]
          exact q7
  · have e : i = ds.length := by omega
    subst e
    refine .inl ⟨dw.stop H' sH, ?_⟩
    rw [List.drop_length] at q
    have q : (pure (.lst (rs ++ [])) : M D).wp (Pg Ω (RD Ω) G H Q) (Er Ω F) S' := q
    rw [List.append_nil] at q
    -- the list is frozen
    have w' := I'.f.w
    have hDne := w1.ne hD
    have hDH : H Da = none := by
      cases q0 : H Da with
      | none => rfl
      | some o => exact absurd hD (h1.there w1.st (by rw [q0]; simp))
    refine q (upd G' Da (.lst vs)) H' (.ref Da) ⟨fun a o z => ?_, by rw [upd_ne (Ne.symm hDne.1)]; exact w'.ga, by rw [upd_ne (Ne.symm hDne.2.1)]; exact w'.gg, by rw [upd_ne (Ne.symm hDne.2.2.1)]; exact w'.gc, fun q hq => by rw [upd_ne (Ne.symm (hDne.2.2.2 q hq))]; exact w'.gt q hq, fun b ps z => by
      by_cases hb : b = Da
      · rw [hb, upd_same] at z; cases z
      · rw [upd_ne hb] at z; exact w'.nt b ps z, w'.st⟩ (fun a ha => ?_) x' (.lst upd_same (rr.same (same_upd hn')))
    · by_cases h : a = Da
      · subst h; rw [upd_same] at z; rw [← z]; exact hD'
      · rw [upd_ne h] at z; exact w'.same a o z
    · rw [upd_ne fun h => ha (by rw [h]; exact hDH)]
      exact g' a ha
end
end DL
set_option Elab.async false
set_option linter.all false
set_option maxRecDepth 100000
set_option autoImplicit false
/-! DLa: the forms of list comprehensions; while; defs and their calls. -/
namespace DL
open PySem PySem.Spec PyProof.Rows L2
def lcD (mt : D → M Bool) (me : D → M D) (ds : List D) : M D := gd (ds.length ≤ lim) (compM (lcM mt me) ds >>= fun rs => pure (.lst rs))
def un21 {α : Type} (k : D → D → D → M α) : D → M α := un2 fun p z => un2 (fun x y => k x y z) p
section
variable {X : Cx} {Ω : Om} {F : Fr} {ρ : Env'} {pos : Pos}
theorem ptsN : PTs X [] (tT Ω F ρ (pure true)) := ⟨fun pins s σ H Q I h => by
  obtain ⟨S, G, I2, h⟩ := h.pure
  exact pts_nil.run pins s σ H Q I (h true rfl)⟩
theorem ptsO {c : Expr} {m : M Bool} (h : PT X c (tT Ω F ρ m)) : PTs X [c] (tT Ω F ρ m) := pts_one h
variable {elt iter : Expr} {ifs : List Expr} {scope : Scope} {mi : M (List D)}
theorem hv1 {i : Nat} {x : Str} : ∀ d us, piN i d = some us → ∀ j ∈ us.map (·.1), j ∈ ([(x, i)] : List (Str × Nat)).map (·.2) := fun d us e j hj => by
  cases e; simpa using hj
theorem hv2 {i j : Nat} {x y : Str} : ∀ d us, piT (pisC (piN i) (pisC (piN j) pisN)) d = some us → ∀ l ∈ us.map (·.1), l ∈ ([(x, i), (y, j)] : List (Str × Nat)).map (·.2) := fun d us e l hl => by
  obtain ⟨t, a, b, rfl, rfl⟩ := pi2s e; simpa using hl
theorem hv3 {i j k : Nat} {x y z : Str} : ∀ d us, piT (pisC (piN i) (pisC (piN j) (pisC (piN k) pisN))) d = some us → ∀ l ∈ us.map (·.1), l ∈ ([(x, i), (y, j), (z, k)] : List (Str × Nat)).map (·.2) := fun d us e l hl => by
  obtain ⟨t, a, b, c, rfl, rfl⟩ := pi3s e; simpa using hl
theorem hn2 {i j : Nat} {mt : D → D → M Bool} {me : D → D → M D} (d : D) (e : piT (pisC (piN i) (pisC (piN j) pisN)) d = none) : lcM (un2 mt) (un2 me) d = M.stuck := by
  unfold lcM; rw [pi2n e]; rfl
theorem hn3 {i j k : Nat} {mt : D → D → D → M Bool} {me : D → D → D → M D} (d : D) (e : piT (pisC (piN i) (pisC (piN j) (pisC (piN k) pisN))) d = none) : lcM (un3 mt) (un3 me) d = M.stuck := by
  unfold lcM; rw [pi3n e]; rfl
/-- [elt for x in iter ..] -/
theorem pdLc1 {i : Nat} {x : Str} {px : Pos} {mt : D → M Bool} {me : D → M D} (hN : X.N.Nodup) (ok : BlkOk X.N X.env.scope scope [(x, i)]) (hi : PI X (.Name x px) iter (tI Ω F ρ mi))
    (hg : ∀ (s : Shared) (H : Hp) (C : Addr) (cl : List (Str × Addr)) (fp : List Addr), PG (X.blk s H scope (compEnvC scope cl C X.env) fp) (.Name x px) (gName i))
    (ht : ∀ (s : Shared) (H : Hp) (C : Addr) (cl : List (Str × Addr)) (fp : List Addr) d, PTs (X.blk s H scope (compEnvC scope cl C X.env) fp) ifs (tT Ω F.nox ((ρ.set i .no).set i (.dat d)) (mt d)))
    (he : ∀ (s : Shared) (H : Hp) (C : Addr) (cl : List (Str × Addr)) (fp : List Addr) d, PE (X.blk s H scope (compEnvC scope cl C X.env) fp) elt (tD Ω F.nox ((ρ.set i .no).set i (.dat d)) (me d)))
    (hc : X.calm = true := by rfl) (hs : ∀ x, foldedSetIterable iter X.env x = pure x := by intro _; rfl) : PE X (.ListComp elt [⟨.Name x px, iter, ifs, 0⟩] scope pos) (tD Ω F ρ (mi >>= lcD mt me)) := by
  obtain ⟨h1, h2, h3⟩ := pdLcG (π := piN i) hc hN hi ok hv1 (fun d e => nomatch e) rgN (fun s H C cl fp d us e => by cases e; exact ht s H C cl fp d) (fun s H C cl fp d us e => by cases e; exact he s H C cl fp d) hs
  exact PEi (pe_lc hc hN hi ok hg h1 h2 hs) h3
theorem pdLc2 {i j : Nat} {x y : Str} {px py pt : Pos} {kt : Nat} {mt : D → D → M Bool} {me : D → D → M D} (hN : X.N.Nodup) (ok : BlkOk X.N X.env.scope scope [(x, i), (y, j)]) (hi : PI X (.Tuple [.Name x px, .Name y py] kt pt) iter (tI Ω F ρ mi))
    (hg : ∀ (s : Shared) (H : Hp) (C : Addr) (cl : List (Str × Addr)) (fp : List Addr), PG (X.blk s H scope (compEnvC scope cl C X.env) fp) (.Tuple [.Name x px, .Name y py] kt pt) (gTup X.K 2 (gCons (gName i) (gCons (gName j) gNil))))
    (ht : ∀ (s : Shared) (H : Hp) (C : Addr) (cl : List (Str × Addr)) (fp : List Addr) d e, PTs (X.blk s H scope (compEnvC scope cl C X.env) fp) ifs (tT Ω F.nox ((wipeC ρ [i, j]).set i (.dat d) |>.set j (.dat e)) (mt d e)))
    (he : ∀ (s : Shared) (H : Hp) (C : Addr) (cl : List (Str × Addr)) (fp : List Addr) d e, PE (X.blk s H scope (compEnvC scope cl C X.env) fp) elt (tD Ω F.nox ((wipeC ρ [i, j]).set i (.dat d) |>.set j (.dat e)) (me d e)))
    (hc : X.calm = true := by rfl) (hs : ∀ x, foldedSetIterable iter X.env x = pure x := by intro _; rfl) : PE X (.ListComp elt [⟨.Tuple [.Name x px, .Name y py] kt pt, iter, ifs, 0⟩] scope pos) (tD Ω F ρ (mi >>= lcD (un2 mt) (un2 me))) := by
  obtain ⟨h1, h2, h3⟩ := pdLcG (π := piT (pisC (piN i) (pisC (piN j) pisN))) (mt := un2 mt) (me := un2 me) hc hN hi ok hv2 hn2 (rgT (K := X.K) (rgsC rgN (rgsC rgN rgsN)))
    (fun s H C cl fp d us e => by obtain ⟨t, a, b, rfl, rfl⟩ := pi2s e; exact ht s H C cl fp a b) (fun s H C cl fp d us e => by obtain ⟨t, a, b, rfl, rfl⟩ := pi2s e; exact he s H C cl fp a b) hs
  exact PEi (pe_lc hc hN hi ok hg h1 h2 hs) h3
theorem pdLc3 {i j k : Nat} {x y z : Str} {px py pz pt : Pos} {kt : Nat} {mt : D → D → D → M Bool} {me : D → D → D → M D} (hN : X.N.Nodup) (ok : BlkOk X.N X.env.scope scope [(x, i), (y, j), (z, k)]) (hi : PI X (.Tuple [.Name x px, .Name y py, .Name z pz] kt pt) iter (tI Ω F ρ mi))
    (hg : ∀ (s : Shared) (H : Hp) (C : Addr) (cl : List (Str × Addr)) (fp : List Addr), PG (X.blk s H scope (compEnvC scope cl C X.env) fp) (.Tuple [.Name x px, .Name y py, .Name z pz] kt pt) (gTup X.K 3 (gCons (gName i) (gCons (gName j) (gCons (gName k) gNil)))))
    (ht : ∀ (s : Shared) (H : Hp) (C : Addr) (cl : List (Str × Addr)) (fp : List Addr) d e c, PTs (X.blk s H scope (compEnvC scope cl C X.env) fp) ifs (tT Ω F.nox ((wipeC ρ [i, j, k]).set i (.dat d) |>.set j (.dat e) |>.set k (.dat c)) (mt d e c)))
    (he : ∀ (s : Shared) (H : Hp) (C : Addr) (cl : List (Str × Addr)) (fp : List Addr) d e c, PE (X.blk s H scope (compEnvC scope cl C X.env) fp) elt (tD Ω F.nox ((wipeC ρ [i, j, k]).set i (.dat d) |>.set j (.dat e) |>.set k (.dat c)) (me d e c)))
    (hc : X.calm = true := by rfl) (hs : ∀ x, foldedSetIterable iter X.env x = pure x := by intro _; rfl) : PE X (.ListComp elt [⟨.Tuple [.Name x px, .Name y py, .Name z pz] kt pt, iter, ifs, 0⟩] scope pos) (tD Ω F ρ (mi >>= lcD (un3 mt) (un3 me))) := by
  obtain ⟨h1, h2, h3⟩ := pdLcG (π := piT (pisC (piN i) (pisC (piN j) (pisC (piN k) pisN)))) (mt := un3 mt) (me := un3 me) hc hN hi ok hv3 hn3 (rgT (K := X.K) (rgsC rgN (rgsC rgN (rgsC rgN rgsN))))
    (fun s H C cl fp d us e => by obtain ⟨t, a, b, c, rfl, rfl⟩ := pi3s e; exact ht s H C cl fp a b c) (fun s H C cl fp d us e => by obtain ⟨t, a, b, c, rfl, rfl⟩ := pi3s e; exact he s H C cl fp a b c) hs
  exact PEi (pe_lc hc hN hi ok hg h1 h2 hs) h3
/-! ### y = [..], y a local -/
theorem tAsg_of {β γ : Type} {en : β → Env'} {el : γ → Env'} {te : TE} {me : M D} {i : Nat} {kk : D → M (Fl β γ)} {u : TS} (h3 : ∀ σ H Q, tD Ω F ρ me σ H Q → te σ H Q) {E : Ends} {σ : L2.St} {H : Hp} (h : tS Ω F ρ (me >>= kk) en el E σ H)
    (hu : ∀ S G d σ' H', RInv Ω F (ρ.set i (.dat d)) S G σ' H' → (kk d).wp (PSt Ω F en el G E) (Er Ω F) S → u E σ' H') : tAsg te (gName i) { E with nx := u E } σ H := by
  refine h3 σ H _ (tD_then (t := tNext) h fun S G S1 G1 d v H1 I I1 s1 r1 w => ?_)
  exact hu S1 G1 d _ H1 (I1.set r1) w
variable {rest : List Stmt} {β γ : Type} {en : β → Env'} {el : γ → Env'} {kk : D → M (Fl β γ)} {n : Nat} {yy : Str} {py0 spos : Pos}
theorem pssLc1 {i : Nat} {x : Str} {px : Pos} {mt : D → M Bool} {me : D → M D} (hN : X.N.Nodup) (hsw : swapsWith (.ListComp elt [⟨.Name x px, iter, ifs, 0⟩] scope pos) (some (.Name yy py0)) spos.line X.env = pure true)
    (ok : BlkOk X.N X.env.scope scope [(x, i)]) (hi : PI X (.Name x px) iter (tI Ω F ρ mi))
    (hg : ∀ (s : Shared) (H : Hp) (C : Addr) (cl : List (Str × Addr)) (fp : List Addr), PG (X.blk s H scope (compEnvC scope cl C X.env) fp) (.Name x px) (gName i))
    (ht : ∀ (s : Shared) (H : Hp) (C : Addr) (cl : List (Str × Addr)) (fp : List Addr) d, PTs (X.blk s H scope (compEnvC scope cl C X.env) fp) ifs (tT Ω F.nox ((ρ.set i .no).set i (.dat d)) (mt d)))
    (he : ∀ (s : Shared) (H : Hp) (C : Addr) (cl : List (Str × Addr)) (fp : List Addr) d, PE (X.blk s H scope (compEnvC scope cl C X.env) fp) elt (tD Ω F.nox ((ρ.set i .no).set i (.dat d)) (me d)))
    (hr : ∀ d, PSs X rest (tS Ω F (ρ.set n (.dat d)) (kk d) en el)) (hy : X.N[n]? = some yy := by rfl) (hyl : X.env.scope.names.lookup yy = some .local := by rfl)
    (hc : X.calm = true := by rfl) (hs : ∀ x, foldedSetIterable iter X.env x = pure x := by intro _; rfl) : PSs X (.Assign [.Name yy py0] (.ListComp elt [⟨.Name x px, iter, ifs, 0⟩] scope pos) spos :: rest) (tS Ω F ρ ((mi >>= lcD mt me) >>= kk) en el) := by
  obtain ⟨h1, h2, h3⟩ := pdLcG (π := piN i) hc hN hi ok hv1 (fun d e => nomatch e) rgN (fun s H C cl fp d us e => by cases e; exact ht s H C cl fp d) (fun s H C cl fp d us e => by cases e; exact he s H C cl fp d) hs
  exact PSsi (pss_cons (ps_setLc (i := n) hc hN hy hyl hsw hi ok hg h1 h2 hs) (PSsx hr)) fun E σ H h => tAsg_of (i := n) (u := fun E σ H => ∃ a, tS Ω F (ρ.set n (.dat a)) (kk a) en el E σ H) h3 h fun S G d σ' H' I w => ⟨d, S, G, I, w⟩
theorem pssLc2 {i j : Nat} {x y : Str} {px py pt : Pos} {kt : Nat} {mt : D → D → M Bool} {me : D → D → M D} (hN : X.N.Nodup) (hsw : swapsWith (.ListComp elt [⟨.Tuple [.Name x px, .Name y py] kt pt, iter, ifs, 0⟩] scope pos) (some (.Name yy py0)) spos.line X.env = pure true)
    (ok : BlkOk X.N X.env.scope scope [(x, i), (y, j)]) (hi : PI X (.Tuple [.Name x px, .Name y py] kt pt) iter (tI Ω F ρ mi))
    (hg : ∀ (s : Shared) (H : Hp) (C : Addr) (cl : List (Str × Addr)) (fp : List Addr), PG (X.blk s H scope (compEnvC scope cl C X.env) fp) (.Tuple [.Name x px, .Name y py] kt pt) (gTup X.K 2 (gCons (gName i) (gCons (gName j) gNil))))
    (ht : ∀ (s : Shared) (H : Hp) (C : Addr) (cl : List (Str × Addr)) (fp : List Addr) d e, PTs (X.blk s H scope (compEnvC scope cl C X.env) fp) ifs (tT Ω F.nox ((wipeC ρ [i, j]).set i (.dat d) |>.set j (.dat e)) (mt d e)))
    (he : ∀ (s : Shared) (H : Hp) (C : Addr) (cl : List (Str × Addr)) (fp : List Addr) d e, PE (X.blk s H scope (compEnvC scope cl C X.env) fp) elt (tD Ω F.nox ((wipeC ρ [i, j]).set i (.dat d) |>.set j (.dat e)) (me d e)))
    (hr : ∀ d, PSs X rest (tS Ω F (ρ.set n (.dat d)) (kk d) en el)) (hy : X.N[n]? = some yy := by rfl) (hyl : X.env.scope.names.lookup yy = some .local := by rfl)
    (hc : X.calm = true := by rfl) (hs : ∀ x, foldedSetIterable iter X.env x = pure x := by intro _; rfl) : PSs X (.Assign [.Name yy py0] (.ListComp elt [⟨.Tuple [.Name x px, .Name y py] kt pt, iter, ifs, 0⟩] scope pos) spos :: rest) (tS Ω F ρ ((mi >>= lcD (un2 mt) (un2 me)) >>= kk) en el) := by
  obtain ⟨h1, h2, h3⟩ := pdLcG (π := piT (pisC (piN i) (pisC (piN j) pisN))) (mt := un2 mt) (me := un2 me) hc hN hi ok hv2 hn2 (rgT (K := X.K) (rgsC rgN (rgsC rgN rgsN)))
    (fun s H C cl fp d us e => by obtain ⟨t, a, b, rfl, rfl⟩ := pi2s e; exact ht s H C cl fp a b) (fun s H C cl fp d us e => by obtain ⟨t, a, b, rfl, rfl⟩ := pi2s e; exact he s H C cl fp a b) hs
  exact PSsi (pss_cons (ps_setLc (i := n) hc hN hy hyl hsw hi ok hg h1 h2 hs) (PSsx hr)) fun E σ H h => tAsg_of (i := n) (u := fun E σ H => ∃ a, tS Ω F (ρ.set n (.dat a)) (kk a) en el E σ H) h3 h fun S G d σ' H' I w => ⟨d, S, G, I, w⟩

/-! ### while -/
def whileD (mc : β → M Bool) (f : β → M (Fl β β)) : Nat → β → M (Fl β γ)
  | 0, _ => M.stuck
  | n + 1, b => mc b >>= fun t => if t = true then f b >>= fun fl => match fl with
      | .nx b' => whileD mc f n b'
      | .ct b' => whileD mc f n b'
      | .bk b' => pure (.nx b')
      | .rt r => pure (.rt r)
    else pure (.nx b)
theorem psWhile {c : Expr} {body : List Stmt} {enb : β → Env'} {mc : β → M Bool} {f : β → M (Fl β β)} {fuel : Nat} {b0 : β} (hp : PassesOwn (model X.prog X.w) X.A X.env X.xe)
    (hc : ∀ b, PT X c (tT Ω F (enb b) (mc b))) (hb : ∀ b, PSs X body (tS Ω F (enb b) (f b) enb enb)) (c0 : Conv Ω F ρ (enb b0)) : PS X (.While c body [] pos) (tS Ω F ρ (whileD mc f fuel b0) enb el) := by
  refine PSi (ps_while hp (PTx hc) (PSsx hb)) fun E σ H ⟨S, G, I, w⟩ => ?_
  obtain ⟨G1, I1, s1⟩ := c0 S G σ H I
  refine ⟨fun m σ' H' => ∃ b S' G', RInv Ω F (enb b) S' G' σ' H' ∧ Same G G' ∧ (whileD mc f m b).wp (PSt Ω F enb el G E) (Er Ω F) S', ⟨fuel, b0, S, G1, I1, s1, w⟩, ?_⟩
  rintro m σ' H' ⟨b, S', G', I', s', q⟩
  cases m with
  | zero => exact q.elim
  | succ m =>
    unfold whileD at q
    rw [wp_bind] at q
    refine ⟨b, S', G', I', q.imp fun t S2 q2 G2 H2 t' w2 g2 h2 r2 => ?_⟩
    cases r2
    have s2 := g2.same I'.f.w.same
    have I2 := I'.step w2 g2 h2
    cases t with
    | false =>
      rw [if_neg Bool.false_ne_true] at q2 ⊢
      exact q2 G2 H2 σ' I2 (s'.trans s2)
    | true =>
      rw [if_pos rfl] at q2 ⊢
      rw [wp_bind] at q2
      refine ⟨fun σ3 H3 => ∃ b S' G', RInv Ω F (enb b) S' G' σ3 H3 ∧ Same G G' ∧ (whileD mc f m b).wp (PSt Ω F enb el G E) (Er Ω F) S', fun σ3 H3 h3 => ⟨m, Nat.lt_succ_self m, h3⟩, b, S2, G2, I2, q2.imp fun fl S5 q5 => ?_⟩
      cases fl with
      | nx b' => exact fun G5 H5 σ5 I5 s5 => ⟨b', S5, G5, I5, (s'.trans s2).trans s5, q5⟩
      | ct b' => exact fun G5 H5 σ5 I5 s5 => ⟨b', S5, G5, I5, (s'.trans s2).trans s5, q5⟩
      | bk b' => exact fun G5 H5 σ5 I5 s5 => q5 G5 H5 σ5 I5 ((s'.trans s2).trans s5)
      | rt r => exact fun G5 H5 v f5 r5 => q5 G5 H5 v f5 r5
end

/-! ### defs -/
/-- what a def promises: from data to a computation of data; no exception leaves it -/
def spN (Ω : Om) (n : Nat) (m : List D → M D) : Sp := fun vs H Q _ => vs.length = n ∧ ∃ S G ds, Wd Ω S G H ∧ Reps Ω G vs ds ∧ (m ds).wp (Pg Ω (RD Ω) G H Q) (fun _ _ => False) S
/-- .. it may raise -/
def spD (Ω : Om) (n : Nat) (m : List D → M D) : Sp := fun vs H Q E => vs.length = n ∧ ∃ S G ds, Wd Ω S G H ∧ Reps Ω G vs ds ∧ (m ds).wp (Pg Ω (RD Ω) G H Q)
  (fun x S' => ∀ G' H' c d, Wd Ω S' G' H' → GX G H G' → HX Ω H H' → RepX Ω G' H' c d x → E c d H') S
section
variable {Ω : Om} {P : Program} {w : World} {mg : Str → Option Value} {base : Heap} {CX : CXT}
theorem cells_start {G H : Hp} {F : Fr} : ∀ {N : List Str} {vs : List V} {ds : List D}, Reps Ω G vs ds → ∀ (i : Nat) (c : Cell), (ds.map Cell.dat ++ List.replicate (N.length - vs.length) Cell.no)[i]? = some c → CellOk Ω F G H ((L2.start N vs)[i]?.join) c := by
  intro N vs ds r i c e
  unfold L2.start
  have hl := r.length
  by_cases h : i < ds.length
  · rw [List.getElem?_append_left (by simpa using h)] at e
    rw [List.getElem?_map] at e
    obtain ⟨d, hd, rfl⟩ := Option.map_eq_some_iff.mp e
    obtain ⟨v, hv, rv⟩ := r.getD hd
    rw [List.getElem?_append_left (by simp; omega), List.getElem?_map, hv]
    exact ⟨v, rfl, rv⟩
  · rw [List.getElem?_append_right (by simp; omega)] at e
    have := List.mem_of_getElem? e
    rw [(List.mem_replicate.mp this).2]
    trivial
def envOf (N : List Str) (ds : List D) : Env' := ds.map Cell.dat ++ List.replicate (N.length - ds.length) Cell.no
theorem rinv_start {N : List Str} {vs : List V} {ds : List D} {S : DS} {G H : Hp} {E : XK} (w : Wd Ω S G H) (r : Reps Ω G vs ds) : RInv Ω ⟨G, H, E⟩ (envOf N ds) S G (L2.start N vs) H := by
  have hl := r.length
  refine ⟨⟨w, GX.refl _ _, HX.refl _ _, ?_, ?_, ?_, fun q hq => w.st.some (.inr (.inr ⟨q, hq, rfl⟩))⟩, by simp [envOf, L2.start, hl], fun i c e => cells_start (N := N) r i c (by unfold envOf at e; rw [← hl] at e; exact e), fun i j c d p e1 e2 o1 => ?_⟩
  · show H Ω.as ≠ none; rw [w.st.dict]; simp
  · show H Ω.ag ≠ none; rw [w.st.great]; simp
  · show H Ω.ac ≠ none; rw [w.st.cells]; simp
  · exfalso
    unfold envOf at e1
    have hm := List.mem_of_getElem? e1
    rcases List.mem_append.mp hm with hm | hm
    · obtain ⟨d, _, rfl⟩ := List.mem_map.mp hm
      cases o1
    · rw [(List.mem_replicate.mp hm).2] at o1
      cases o1
theorem Conv.all {F : Fr} {ρ : Env'} {n : Nat} (h : ρ.length = n) : Conv Ω F ρ (List.replicate n .no) := fun S G σ H I => by
  refine ⟨G, ⟨I.f, by rw [List.length_replicate, ← h]; exact I.len, fun i c e => ?_, fun i j c d p e1 e2 o1 => ?_⟩, Same.refl G⟩
  · rw [(List.mem_replicate.mp (List.mem_of_getElem? e)).2]
    trivial
  · rw [(List.mem_replicate.mp (List.mem_of_getElem? e1)).2] at o1
    cases o1
/-- a def by its body: no exception leaves it -/
theorem fnD {x qual : Str} {st : Stmt} {f : Addr} {fd : FuncData} {N ps : List Str} {k n : Nat} {m : List D → M D} (Fn : Fun Ω.K x qual st f fd) (Sc : FnScope N ps (defScope st)) (hn : ps.length = n)
    (hbody : ∀ (cdv : Value) (A : Around) (outer : List Env) (s : Shared) (H : Hp) (E : XK) (G : Hp) (ds : List D), Room k (A.deeper (envOfC qual (defScope st) s.heap.objs.size f cdv)) → ds.length = n →
      ∃ mb : M (Fl Unit Unit), PSs (cxOf CX0 P w Ω.K mg base N qual (defScope st) f cdv A outer s H E).nox (defBody st) (tS Ω ⟨G, H, fun _ _ _ => False⟩ (envOf N ds) mb (fun _ => List.replicate N.length .no) (fun _ => [])) ∧ Fl.fin mb = m ds) :
    FnOk P w Ω.K mg base CX0 (k + 1) f fd ps (spN Ω n m) := by
  refine Fn.ok Sc (fun vs H Q E h => h.1.trans hn.symm) fun cdv A outer s H vs Q E hr ⟨hl, S, G, ds, wd, r, h⟩ => ?_
  obtain ⟨mb, hp, e⟩ := hbody cdv A outer s H E G ds hr (r.length.symm.trans hl)
  refine ⟨_, hp, S, G, rinv_start wd r, ?_⟩
  rw [← e] at h
  unfold Fl.fin at h
  rw [wp_bind] at h
  refine h.mono (fun fl S' h => ?_) fun _ _ z => z.elim
  cases fl with
  | nx b => exact fun G' H' σ' I' s' => h G' H' .non I'.f.w I'.f.g I'.f.h .non
  | rt d => exact fun G' H' v f' r' => h G' H' v f'.w f'.g f'.h r'
  | bk c => exact h.elim
  | ct c => exact h.elim
/-- a computation of just n arguments -/
def ArOk (n : Nat) (m : List D → M D) : Prop := ∀ ds, ds.length ≠ n → m ds = M.stuck
theorem arOk1 {g : D → M D} : ArOk 1 (ar1 g) := fun ds h => by
  match ds with
  | [] => rfl
  | [_] => exact absurd rfl h
  | _ :: _ :: _ => rfl
theorem arOk2 {g : D → D → M D} : ArOk 2 (ar2 g) := fun ds h => by
  match ds with
  | [] => rfl
  | [_] => rfl
  | [_, _] => exact absurd rfl h
  | _ :: _ :: _ :: _ => rfl
theorem arOk3 {g : D → D → D → M D} : ArOk 3 (ar3 g) := fun ds h => by
  match ds with
  | [] => rfl
  | [_] => rfl
  | [_, _] => rfl
  | [_, _, _] => exact absurd rfl h
  | _ :: _ :: _ :: _ :: _ => rfl
def ar0 (g : M D) : List D → M D
  | [] => g
  | _ => M.stuck
def ar4 (g : D → D → D → D → M D) : List D → M D
  | [x, y, z, u] => g x y z u
  | _ => M.stuck
def ar5 (g : D → D → D → D → D → M D) : List D → M D
  | [x, y, z, u, v] => g x y z u v
  | _ => M.stuck
theorem arOk0 {g : M D} : ArOk 0 (ar0 g) := fun ds h => by
  match ds with
  | [] => exact absurd rfl h
  | _ :: _ => rfl
theorem arOk4 {g : D → D → D → D → M D} : ArOk 4 (ar4 g) := fun ds h => by
  match ds with
  | [] => rfl
  | [_] => rfl
  | [_, _] => rfl
  | [_, _, _] => rfl
  | [_, _, _, _] => exact absurd rfl h
  | _ :: _ :: _ :: _ :: _ :: _ => rfl
theorem arOk5 {g : D → D → D → D → D → M D} : ArOk 5 (ar5 g) := fun ds h => by
  match ds with
  | [] => rfl
  | [_] => rfl
  | [_, _] => rfl
  | [_, _, _] => rfl
  | [_, _, _, _] => rfl
  | [_, _, _, _, _] => exact absurd rfl h
  | _ :: _ :: _ :: _ :: _ :: _ :: _ => rfl
theorem ArOk.len {n : Nat} {m : List D → M D} (a : ArOk n m) {ds : List D} {Q : D → DS → Prop} {E : Exn → DS → Prop} {S : DS} (h : (m ds).wp Q E S) : ds.length = n := by
  by_cases e : ds.length = n
  · exact e
  · rw [a ds e] at h
    exact h.elim
end
section
variable {X : Cx} {Ω : Om} {F : Fr} {ρ : Env'} {pos : Pos} {CX : CXT} {k n : Nat} {f : Addr} {fd : FuncData} {ps : List Str} {m : List D → M D} {x : Str} {p : Pos} {a : Expr} {es : List Expr} {ms : M (List D)}
/-- f(a, ..), f a def that raises nothing -/
theorem pdCall (G : FnOk X.prog X.w X.K X.mg X.base CX0 k f fd ps (spN Ω n m)) (ar : ArOk n m) (hr : Room k X.A) (hm : X.mg x = some (.ref f)) (hk : PySem.W.keepIn X.K (.ref f) = true) (hb : Binds X.K fd ps [])
    (ha : PA X (a :: es) (tA Ω F ρ ms)) (hg : Gl X x := by rfl) (hdb : (x == ("__debug__" : Str)) = false := by decide) (he : starEach (a :: es) X.env = (false, eval a X.env) :: starEach es X.env := by rfl) (hpl : (backTo pos (starEach es X.env)).any (·.1) = false := by rfl) :
    PE X (.Call (.Name x p) (a :: es) [] pos) (tD Ω F ρ (ms >>= fun ds => noErr (m ds))) := PEi (pe_call G hr hg hm hk hb .nil pass0 ha hdb he hpl) fun σ H Q ⟨S, G, I, h⟩ =>
  (tG.bindI (R := RA Ω) I h).mono fun vs H1 ⟨S1, G1, ds, I1, s1, r, h1⟩ => by
    rw [wp_noErr] at h1
    rw [List.append_nil]
    exact ⟨r.length.trans (ar.len h1), S1, G1, ds, I1.f.w, r, h1⟩
theorem pdCall0 {m : M D} (G : FnOk X.prog X.w X.K X.mg X.base CX0 k f fd [] (spN Ω 0 (ar0 m))) (hr : Room k X.A) (hm : X.mg x = some (.ref f)) (hk : PySem.W.keepIn X.K (.ref f) = true) (hb : Binds X.K fd [] [])
    (hg : Gl X x := by rfl) (hdb : (x == ("__debug__" : Str)) = false := by decide) : PE X (.Call (.Name x p) [] [] pos) (tD Ω F ρ (noErr m)) := PEi (pe_call0 G hr hg hm hk hb .nil pass0 hdb) fun σ H Q ⟨S, G, I, h⟩ => by
  rw [wp_noErr] at h
  exact ⟨rfl, S, G, [], I.f.w, .nil, h⟩
/-! ### keywords alone -/
variable {kws : List Keyword} {nm : Option Str} {kpos : Pos} {me : M D} {ks : List Str} {g : List Value → List Value → List Value} {gV : List V → List V → List V} {gD : List D → List D}
structure PKd (X : Cx) (Ω : Om) (F : Fr) (ρ : Env') (kws : List Keyword) (ms : M (List D)) : Prop where
  pk : PK X kws (tA Ω F ρ ms)
theorem pkN : PKd X Ω F ρ [] (pure []) := ⟨⟨fun pos pins s σ H Q I h => by
  obtain ⟨S, G, I2, h⟩ := h.pure
  exact pk_nil.run pos pins s σ H Q I (h _ .nil)⟩⟩
theorem pkC (ha : PE X a (tD Ω F ρ me)) (hr : PKd X Ω F ρ kws ms) : PKd X Ω F ρ (⟨nm, a, kpos⟩ :: kws) (opC me ms) := ⟨⟨fun pos pins s σ H Q I h => (pk_cons ha hr.pk).run pos pins s σ H Q I (tCons_of h)⟩⟩
theorem pdCallK (G : FnOk X.prog X.w X.K X.mg X.base CX0 k f fd ps (spN Ω n m)) (ar : ArOk n m) (hr : Room k X.A) (hm : X.mg x = some (.ref f)) (hk : PySem.W.keepIn X.K (.ref f) = true) (hb : KBinds X.K fd ps ks g gV)
    (hgD : ∀ G vs ds, Reps Ω G vs ds → Reps Ω G (gV [] vs) (gD ds)) (ha : PKd X Ω F ρ kws ms) (hall : (backToKw pos (keywordEach kws X.env)).all (·.1.isSome) = true := by rfl) (hks : (backToKw pos (keywordEach kws X.env)).filterMap (·.1) = ks := by rfl)
    (hpl : ((backTo pos (starEach [] X.env)).any (·.1) || (backToKw pos (keywordEach kws X.env)).any (·.1.isNone)) = false := by rfl) (hg : Gl X x := by rfl) (hdb : (x == ("__debug__" : Str)) = false := by decide) :
    PE X (.Call (.Name x p) [] kws pos) (tD Ω F ρ (ms >>= fun ds => noErr (m (gD ds)))) := by
  refine ⟨fun pins s σ H Q I ⟨S, G0, IR, h⟩ => ?_⟩
  refine wpAny_Call_Name_kw (ld_glob I hg hm ?_ hdb)
  refine PySem.W.callWith_KW0 (h₀ := X.base) I.ok.mod.kin hk hall ?_ hpl
  have key : tA Ω F ρ ms σ H fun zs H1 => spN Ω n m (gV [] zs) H1 Q E0 := (tG.bindI (R := RA Ω) IR h).mono fun vs H1 ⟨S1, G1, ds, I1, s1, r, h1⟩ => by
    rw [wp_noErr] at h1
    have r' := hgD G1 vs ds r
    exact ⟨r'.length.trans (ar.len h1), S1, G1, gD ds, I1.f.w, r', h1⟩
  refine thn (ha.pk.run pos pins s σ H _ I key) fun ws s2 ⟨zs, H2, I2, rz, q2⟩ => ⟨I2.kIn, ?_⟩
  rw [hks]
  exact run_fnk (us := []) (vs := []) G hr hb pass0 I2 .nil rz q2
end
end DL
set_option Elab.async false
set_option linter.all false
set_option maxRecDepth 100000
set_option autoImplicit false
/-! DLb: sorted keys of dicts, tuples told by their objects, dict(..) of pairs. -/
namespace DL
open PySem PySem.Spec PyProof.Rows L2

/-! ### sorted rows are one -/
theorem perm_one {α : Type} {le : α → α → Bool} (as : ∀ a b, le a b = true → le b a = true → a = b) : ∀ {l m : List α}, l.Perm m → l.Pairwise (fun a b => le a b = true) → m.Pairwise (fun a b => le a b = true) → l = m
  | [], m, p, _, _ => by rw [List.nil_perm] at p; exact p.symm
  | a :: l, [], p, _, _ => by have := p.length_eq; simp at this
  | a :: l, b :: m, p, hl, hm => by
    have e : a = b := by
      have h1 : a ∈ b :: m := p.subset (List.mem_cons_self ..)
      have h2 : b ∈ a :: l := p.symm.subset (List.mem_cons_self ..)
      rcases List.mem_cons.mp h1 with h | h
      · exact h
      · rcases List.mem_cons.mp h2 with h' | h'
        · exact h'.symm
        · exact as _ _ ((List.pairwise_cons.mp hl).1 _ h') ((List.pairwise_cons.mp hm).1 _ h)
    subst e
    rw [perm_one as (List.Perm.cons_inv p) (List.pairwise_cons.mp hl).2 (List.pairwise_cons.mp hm).2]
def leS (x y : Str) : Bool := !ltCps y.cps.toList x.cps.toList
def leI (x y : Int) : Bool := decide (x ≤ y)
theorem leS_iff (x y : Str) : leS x y = true ↔ x.cps.toList ≤ y.cps.toList := by
  unfold leS
  rw [ltCps_eq, Bool.not_eq_true', decide_eq_false_iff_not]
  exact List.not_lt
theorem leS_anti (x y : Str) (h : leS x y = true) (h' : leS y x = true) : x = y := by
  rw [leS_iff] at h h'
  have e := List.le_antisymm h h'
  cases x; cases y
  simp only [Str.mk.injEq]
  exact Array.toList_inj.mp e
theorem leS_trans (x y z : Str) (h : leS x y = true) (h' : leS y z = true) : leS x z = true := by
  rw [leS_iff] at *
  exact List.le_trans h h'
theorem leS_total (x y : Str) : (leS x y || leS y x) = true := by
  rw [Bool.or_eq_true, leS_iff, leS_iff]
  exact List.le_total ..
theorem risingS_pair : ∀ (p : Str) (l : List Str), risingS p l = true → (p :: l).Pairwise (fun a b => leS a b = true)
  | p, [], _ => by simp
  | p, x :: r, h => by
    unfold risingS at h
    rw [Bool.and_eq_true] at h
    have ih := risingS_pair x r h.2
    refine List.pairwise_cons.mpr ⟨fun b hb => ?_, ih⟩
    have hx : leS p x = true := h.1
    rcases List.mem_cons.mp hb with rfl | hb
    · exact hx
    · exact leS_trans _ _ _ hx ((List.pairwise_cons.mp ih).1 _ hb)
theorem sortedS_pair (l : List Str) (h : sortedS l = true) : l.Pairwise (fun a b => leS a b = true) := by
  cases l with
  | nil => exact .nil
  | cons x r => exact risingS_pair x r h
theorem sort_strs {ys ks : List Str} (p : ys.Perm ks) (h : sortedS ys = true) : ys = ks.mergeSort leS :=
  perm_one leS_anti (p.trans (List.mergeSort_perm ks leS).symm) (sortedS_pair _ h) (List.pairwise_mergeSort leS_trans leS_total ks)
theorem leI_anti (x y : Int) (h : leI x y = true) (h' : leI y x = true) : x = y := by simp [leI] at h h'; omega
theorem leI_trans (x y z : Int) (h : leI x y = true) (h' : leI y z = true) : leI x z = true := by simp [leI] at *; omega
theorem leI_total (x y : Int) : (leI x y || leI y x) = true := by simp [leI]; omega
theorem sort_ints {ys ks : List Int} (p : ys.Perm ks) (h : ys.Pairwise (· ≤ ·)) : ys = ks.mergeSort leI :=
  perm_one leI_anti (p.trans (List.mergeSort_perm ks leI).symm) (h.imp fun h => by simpa [leI] using h) (List.pairwise_mergeSort leI_trans leI_total ks)

def D.strs? : List D → Option (List Str)
  | [] => some []
  | .str x :: ds => (D.strs? ds).map (x :: ·)
  | _ :: _ => none
def D.ints? : List D → Option (List Int)
  | [] => some []
  | .int x :: ds => (D.ints? ds).map (x :: ·)
  | _ :: _ => none
theorem strs?_eq : ∀ {ds : List D} {xs : List Str}, D.strs? ds = some xs → ds = xs.map D.str
  | [], xs, h => by simp [D.strs?] at h; subst h; rfl
  | d :: ds, xs, h => by
    cases d <;> simp [D.strs?] at h
    obtain ⟨ys, h, rfl⟩ := h
    rw [strs?_eq h]; rfl
theorem ints?_eq : ∀ {ds : List D} {xs : List Int}, D.ints? ds = some xs → ds = xs.map D.int
  | [], xs, h => by simp [D.ints?] at h; subst h; rfl
  | d :: ds, xs, h => by
    cases d <;> simp [D.ints?] at h
    obtain ⟨ys, h, rfl⟩ := h
    rw [ints?_eq h]; rfl
theorem strs?_map : ∀ xs : List Str, D.strs? (xs.map D.str) = some xs
  | [] => rfl
  | x :: xs => by simp [D.strs?, strs?_map xs]
theorem ints?_map : ∀ xs : List Int, D.ints? (xs.map D.int) = some xs
  | [] => rfl
  | x :: xs => by simp [D.ints?, ints?_map xs]
/-- sorted(d): its keys, all texts or all ints, fewer than 64 -/
def dSortedK : D → M D
  | .dct false ks _ => gd (ks.length < 64) (match D.strs? ks with
    | some xs => pure (.lst ((xs.mergeSort leS).map .str))
    | none => match D.ints? ks with
      | some ns => pure (.lst ((ns.mergeSort leI).map .int))
      | none => M.stuck)
  | _ => M.stuck
section
variable {X : Cx} {Ω : Om} {F : Fr} {ρ : Env'} {S : DS} {G H : Hp}
theorem reps_strs : ∀ xs : List Str, Reps Ω G (xs.map V.str) (xs.map D.str)
  | [] => .nil
  | x :: xs => .cons (.str x) (reps_strs xs)
theorem reps_ints : ∀ xs : List Int, Reps Ω G (xs.map V.int) (xs.map D.int)
  | [] => .nil
  | x :: xs => .cons (.int x) (reps_ints xs)
theorem keysS : ∀ {kvs : List (Key × V)} {xs : List Str}, (kvs.map fun kv => keyD kv.1) = xs.map D.str → kvs.map (·.1) = xs.map Sum.inr
  | [], [], _ => rfl
  | [], _ :: _, h => by simp at h
  | _ :: _, [], h => by simp at h
  | (k, v) :: kvs, x :: xs, h => by
    simp only [List.map_cons, List.cons.injEq] at h ⊢
    refine ⟨?_, keysS h.2⟩
    cases k with
    | inl i => exact nomatch h.1
    | inr y => have := h.1; simp only [keyD, D.str.injEq] at this; rw [this]
theorem keysI : ∀ {kvs : List (Key × V)} {xs : List Int}, (kvs.map fun kv => keyD kv.1) = xs.map D.int → kvs.map (·.1) = xs.map Sum.inl
  | [], [], _ => rfl
  | [], _ :: _, h => by simp at h
  | _ :: _, [], h => by simp at h
  | (k, v) :: kvs, x :: xs, h => by
    simp only [List.map_cons, List.cons.injEq] at h ⊢
    refine ⟨?_, keysI h.2⟩
    cases k with
    | inr i => exact nomatch h.1
    | inl y => have := h.1; simp only [keyD, D.int.injEq] at this; rw [this]
theorem dc_sortedK (hc : X.calm = true) : CallR X (.builtin "sorted") (rDl Ω F (ar1 dSortedK)) := by
  refine CallRi ((call_sortedD hc).or (call_sortedDI hc)) fun xs H Q h0 => ?_
  obtain ⟨x, S, G, d, rfl, f, r, h⟩ := rDl1 h0
  unfold dSortedK at h
  split at h
  · rw [wp_gd] at h
    obtain ⟨hl, h⟩ := h
    cases r with
    | @dK a kvs vs q qs =>
      split at h
      · rename_i xs e
        have e := strs?_eq e
        have l : kvs.length = xs.length := by have := congrArg List.length e; simpa using this
        refine .inl ⟨a, kvs, xs, rfl, (RdLe.of f.w.same).rd _ _ q.rd, keysS e, by simpa [← l] using hl, fun ys p hp hs hn => ?_⟩
        rw [sort_strs hp hs]
        exact Pg.newO f h hn (.newL f.w hn (reps_strs _))
      · split at h
        · rename_i ns e
          have e := ints?_eq e
          have l : kvs.length = ns.length := by have := congrArg List.length e; simpa using this
          refine .inr ⟨a, kvs, ns, rfl, (RdLe.of f.w.same).rd _ _ q.rd, keysI e, by simpa [← l] using hl, fun ys p hp hs hn => ?_⟩
          rw [sort_ints hp hs]
          exact Pg.newO f h hn (.newL f.w hn (reps_ints _))
        · exact h.elim
  · exact h.elim

/-! ### tuples told by their objects -/
def mkTupX (xs : List D) : M D := gd (xs.length ≤ lim) (pure (.tup true xs))
variable {es : List Expr} {ms : M (List D)} {pos : Pos}
theorem Rep.newX {p : Addr} {o : Obj} {vs : List V} {ds : List D} (w : Wd Ω S G H) (h : H p = none) (ho : o.dict = none) (r : Reps Ω G vs ds) : Rep Ω (upd G p (.frz o (.tup vs))) (.ref p) (.tup true ds) :=
  .tup (x := true) ⟨o, upd_same, ho⟩ (r.same (same_upd (w.free h)))
theorem pdTupX {x1} (h : PA X es (tA Ω F ρ ms)) : PE X (.Tuple es x1 pos) (tD Ω F ρ (ms >>= mkTupX)) := by
  refine ⟨fun pins s σ H Q I ⟨S, G, IR, h0⟩ => ?_⟩
  refine wpAny_Tuple_spliced (thn (h.run pos pins s σ H _ I (tG.bindI (R := RA Ω) IR h0)) fun us s1 ⟨xs, H1, I1, r, S1, G1, dxs, IR1, s1', rxs, h1⟩ => ?_)
  unfold mkTupX at h1
  rw [wp_gd, lim_eq] at h1
  have hl : xs.length ≤ sizeLine := by rw [rxs.length]; exact h1.1
  refine ⟨by rw [← r.length]; exact hl, ?_⟩
  have hf : H1 s1.heap.objs.size = none := I1.hok.fresh (Nat.le_refl _)
  refine ⟨.ref s1.heap.objs.size, upd H1 s1.heap.objs.size (.frz { cls := .type "tuple", data := .seq us.toArray } (.tup xs)), I1.laid (t' := s1.toks) (fun b u e => Heap.get?_push_of_some _ e) (Nat.le_refl _) ?_, rfl, Pg.newO IR1.f h1.2 hf (.newX IR1.f.w hf rfl rxs)⟩
  exact ⟨Heap.get?_push_size _ rfl, hl, us, r, ⟨_, Heap.get?_push_size _ rfl, rfl, _, rfl⟩⟩
/-- tuple(xs) of a list, told by its object -/
def dTupleX : D → M D
  | .lst xs => pure (.tup true xs)
  | _ => M.stuck
theorem dc_tupleX (hK : X.K = Ω.K) : CallR X (.type "tuple") (rDl Ω F (ar1 dTupleX)) := by
  intro pins s σ H xs us Q I r h0
  obtain ⟨x, S, G, d, rfl, f, rx, h⟩ := rDl1 h0
  obtain ⟨u, rfl, ru⟩ := vals1 r
  unfold dTupleX at h
  split at h
  · cases rx with
    | @lst a vs ds q rs =>
      cases ru
      obtain ⟨its, r', pl, hz⟩ := I.list (f.w.lst q)
      have hlen := r'.length
      refine call_tuple_list pl.isList (fun h' kp => ?_) (by simp only [List.size_toArray] <;> omega)
      have I1 : Inv X pins σ H { s with heap := h' } := I.kept (t' := s.toks) kp
      have hf : H h'.objs.size = none := I1.hok.fresh (Nat.le_refl _)
      have I2 : Inv X pins σ (upd H h'.objs.size (.frz { cls := .type "tuple", data := .seq its.toArray } (.tup vs))) { s with heap := h'.push { cls := .type "tuple", data := .seq its.toArray } } :=
        I1.laid (t' := s.toks) (fun b o e => Heap.get?_push_of_some _ e) (Nat.le_refl _) ⟨Heap.get?_push_size _ rfl, hz, its, r', IsTup.new _ _⟩
      exact ⟨.ref h'.objs.size, _, I2, rfl, Pg.newO f h hf (.newX f.w hf rfl rs)⟩
  · exact h.elim

/-! ### dict(xs) of pairs: a list, a tuple told by its object -/
def putA {κ α : Type} [DecidableEq κ] (kvs : List (κ × α)) (k : κ) (v : α) : List (κ × α) :=
  if kvs.any (fun kv => decide (kv.1 = k)) then kvs.map fun kv => if kv.1 = k then (kv.1, v) else kv else kvs ++ [(k, v)]
def mergeA {κ α : Type} [DecidableEq κ] (kvs more : List (κ × α)) : List (κ × α) := more.foldl (fun acc kv => putA acc kv.1 kv.2) kvs
def D.pairs? : List D → Option (List (Key × D))
  | [] => some []
  | d :: ds => match d with
    | .tup _ [k, v] => match k.key?, D.pairs? ds with
      | some k, some ps => some ((k, v) :: ps)
      | _, _ => none
    | _ => none
def dDict (d : D) : M D := match d with
  | .lst xs => match D.pairs? xs with
    | some ps => pure (.dct false ((mergeA [] ps).map fun kv => keyD kv.1) ((mergeA [] ps).map (·.2)))
    | none => M.stuck
  | .tup true xs => match D.pairs? xs with
    | some ps => pure (.dct false ((mergeA [] ps).map fun kv => keyD kv.1) ((mergeA [] ps).map (·.2)))
    | none => M.stuck
  | _ => M.stuck
theorem KDs.any {κ : Type} [DecidableEq κ] (k : κ) : ∀ {kvs : List (κ × V)} {ds : List (κ × D)}, KDs Ω G kvs ds → (kvs.any fun kv => decide (kv.1 = k)) = ds.any fun kv => decide (kv.1 = k)
  | [], [], _ => rfl
  | [], _ :: _, h => by have := h.1; simp at this
  | _ :: _, [], h => by have := h.1; simp at this
  | (a, v) :: kvs, (b, d) :: ds, ⟨h1, h2⟩ => by
    simp only [List.map_cons, List.cons.injEq] at h1
    cases h2 with
    | cons r t =>
      simp only [List.any_cons, h1.1]
      rw [KDs.any k (kvs := kvs) (ds := ds) ⟨h1.2, t⟩]
theorem KDs.repl {κ : Type} [DecidableEq κ] (k : κ) {v : V} {d : D} (r : Rep Ω G v d) : ∀ {kvs : List (κ × V)} {ds : List (κ × D)}, KDs Ω G kvs ds → KDs Ω G (kvs.map fun kv => if kv.1 = k then (kv.1, v) else kv) (ds.map fun kv => if kv.1 = k then (kv.1, d) else kv)
  | [], [], _ => ⟨rfl, .nil⟩
  | [], _ :: _, h => by have := h.1; simp at this
  | _ :: _, [], h => by have := h.1; simp at this
  | (a, v') :: kvs, (b, d') :: ds, ⟨h1, h2⟩ => by
    simp only [List.map_cons, List.cons.injEq] at h1
    cases h2 with
    | cons r' t =>
      obtain ⟨i1, i2⟩ := KDs.repl k r (kvs := kvs) (ds := ds) ⟨h1.2, t⟩
      obtain ⟨e, _⟩ := h1
      subst e
      by_cases e : a = k
      · refine ⟨?_, ?_⟩
        · simp only [List.map_cons, if_pos e, i1]
        · simp only [List.map_cons, if_pos e]; exact .cons r i2
      · refine ⟨?_, ?_⟩
        · simp only [List.map_cons, if_neg e, i1]
        · simp only [List.map_cons, if_neg e]; exact .cons r' i2
theorem KDs.put {κ : Type} [DecidableEq κ] {k : κ} {v : V} {d : D} {kvs : List (κ × V)} {ds : List (κ × D)} (h : KDs Ω G kvs ds) (r : Rep Ω G v d) : KDs Ω G (putK kvs k v) (putA ds k d) := by
  unfold putK putA
  rw [h.any k]
  split
  · exact h.repl k r
  · exact ⟨by simp [h.1], by simp only [List.map_append]; exact h.2.append (.cons r .nil)⟩
theorem KDs.merge : ∀ {more : List (Key × V)} {dm : List (Key × D)} {kvs : List (Key × V)} {ds : List (Key × D)}, KDs Ω G more dm → KDs Ω G kvs ds → KDs Ω G (mergeK kvs more) (mergeA ds dm)
  | [], [], _, _, _, h => h
  | [], _ :: _, _, _, h, _ => by have := h.1; simp at this
  | _ :: _, [], _, _, h, _ => by have := h.1; simp at this
  | (a, v) :: more, (b, d) :: dm, kvs, ds, ⟨h1, h2⟩, h => by
    simp only [List.map_cons, List.cons.injEq] at h1
    cases h2 with
    | cons r t =>
      obtain ⟨e, h1⟩ := h1
      subst e
      exact KDs.merge (kvs := putK kvs a v) (ds := putA ds a d) ⟨h1, t⟩ (h.put r)
theorem Rep.ofK {p : Addr} {kvs : List (Key × V)} {ds : List (Key × D)} (q : Told G p (.dK kvs)) (h : KDs Ω G kvs ds) : Rep Ω G (.ref p) (.dct false (ds.map fun kv => keyD kv.1) (ds.map (·.2))) := by
  have := Rep.dK (Ω := Ω) q h.2
  have e : (kvs.map fun kv => keyD kv.1) = ds.map fun kv => keyD kv.1 := by
    have := congrArg (List.map keyD) h.1
    rw [List.map_map, List.map_map] at this
    exact this
  rw [e] at this
  exact this
/-- the pairs of a row of tuples -/
theorem pairs_rep : ∀ {vs : List V} {ds : List D} {ps : List (Key × D)}, Reps Ω G vs ds → D.pairs? ds = some ps →
    ∃ (as : List Addr) (kvs : List (Key × V)), vs = as.map V.ref ∧ KDs Ω G kvs ps ∧ Paired (fun p (kv : Key × V) => Rd G p (.tup [kV kv.1, kv.2])) as kvs
  | _, [], ps, r, h => by
    cases r; cases h
    exact ⟨[], [], rfl, ⟨rfl, .nil⟩, .nil⟩
  | _, d :: ds, ps, r, h => by
    cases r with
    | cons r t =>
      unfold D.pairs? at h
      split at h
      · rename_i x k v
        split at h
        · rename_i k' ps' e1 e2
          cases h
          cases r with
          | @tup a _ us _ q rs =>
            obtain ⟨as, kvs, e3, h3, p3⟩ := pairs_rep t e2
            have := key?_eq e1
            subst this
            cases rs with
            | cons rk rs =>
              cases rs with
              | cons rv rs =>
                cases rs
                have := rk.keyV
                subst this e3
                refine ⟨a :: as, (k', _) :: kvs, rfl, ⟨by simp [h3.1], .cons rv h3.2⟩, .cons q.rd p3⟩
        · cases h
      · cases h
theorem KDs.same {κ : Type} {G' : Hp} {kvs : List (κ × V)} {ds : List (κ × D)} (h : KDs Ω G kvs ds) (s : Same G G') : KDs Ω G' kvs ds := ⟨h.1, h.2.same s⟩
theorem KDs.nil {κ : Type} : KDs Ω G ([] : List (κ × V)) [] := ⟨rfl, .nil⟩
/-! a new dict is told by its object at once -/
def tellQ (Q : VK) : VK := fun v H' => ∃ p u, v = .ref p ∧ H' p = some u ∧ Mut (some u) ∧ ∀ od, Q v (upd H' p (.frz od u))
theorem ep_tell {pins : List (Addr × Obj)} {σ : L2.St} {Q : VK} {v : Value} {s : Shared} (h : EP X pins σ (tellQ Q) v s) : EP X pins σ Q v s := by
  obtain ⟨x, H1, I1, r, p, u, e, hp, mu, q⟩ := h
  obtain ⟨od, I2⟩ := I1.lock hp mu
  exact ⟨x, _, I2, r, q od⟩
theorem CallR.tell {f : Value} {r : List V → Hp → VK → Prop} (h : CallR X f r) : CallR X f (fun xs H Q => r xs H (tellQ Q)) := fun pins s σ H xs us Q I rx q => thn (h pins s σ H xs us _ I rx q) fun v s1 e => ep_tell e
theorem PE.tell {e : Expr} {t : TE} (h : PE X e t) : PE X e (fun σ H Q => t σ H (tellQ Q)) := ⟨fun pins s σ H Q I q => thn (h.run pins s σ H _ I q) fun v s1 e => ep_tell e⟩
theorem updUpd (H : Hp) (p : Addr) (a b : HO) : upd (upd H p a) p b = upd H p b := by
  funext q
  by_cases h : q = p
  · subst h; rw [upd_same, upd_same]
  · rw [upd_ne h, upd_ne h, upd_ne h]
theorem Pg.newD {Q : VK} {d : D} {p : Addr} {u : HO} (f : Fx Ω F S G H) (q : Pg Ω (RD Ω) G H Q d S) (h : H p = none) (mu : Mut (some u)) (r : ∀ od, Rep Ω (upd G p (.frz od u)) (.ref p) d) : tellQ Q (.ref p) (upd H p u) :=
  ⟨p, u, rfl, upd_same, mu, fun od => by rw [updUpd]; exact Pg.newO f q h (r od)⟩
theorem Rep.newK {p : Addr} {kvs : List (Key × V)} {ds : List (Key × D)} (w : Wd Ω S G H) (hp : H p = none) (h : KDs Ω G kvs ds) (od : Obj) : Rep Ω (upd G p (.frz od (.dK kvs))) (.ref p) (.dct false (ds.map fun kv => keyD kv.1) (ds.map (·.2))) :=
  .ofK ⟨od, upd_same⟩ (h.same (same_upd (w.free hp)))
theorem pairs_at {pins : List (Addr × Obj)} {σ : L2.St} {s : Shared} (I : Inv X pins σ H s) : ∀ {ps : List Addr} {kvs : List (Key × V)}, Paired (fun p kv => Rd H p (.tup [kV kv.1, kv.2])) ps kvs →
    ∃ (prs : List (Key × Value)) (vvs : List (Value × Value)), KV kvs prs ∧ prs.length = ps.length ∧ vvs.length = ps.length ∧ (∀ (j : Nat) k v, vvs[j]? = some (k, v) → ∃ b q, ps[j]? = some b ∧ IsTup s.heap b #[k, v] ∧ prs[j]? = some (q, v) ∧ keyIs q k = true)
  | _, _, .nil => ⟨[], [], .nil, rfl, rfl, fun j k v e => by simp at e⟩
  | _, _, .cons (a := p) (b := kv) h t => by
    obtain ⟨prs, vvs, r, hl, hl2, hp⟩ := pairs_at I t
    obtain ⟨its, rv, ht, _⟩ := I.tuple (.inl h)
    obtain ⟨u, y, ei, ru, ry⟩ := vals2 rv
    subst ei
    refine ⟨(kv.1, y) :: prs, (u, y) :: vvs, .cons ⟨rfl, ry⟩ r, by rw [List.length_cons, List.length_cons, hl], by rw [List.length_cons, List.length_cons, hl2], fun j k v e => ?_⟩
    cases j with
    | zero =>
      have e' : (u, y) = (k, v) := Option.some.inj e
      cases e'
      exact ⟨p, kv.1, rfl, ht, rfl, kV_is (P := X.prog) (w := X.w) ru⟩
    | succ j =>
      obtain ⟨b, q, e1, e2, e3, e4⟩ := hp j k v (by simpa using e)
      exact ⟨b, q, by simpa using e1, e2, by simpa using e3, e4⟩
theorem dc_dict (hc : X.calm = true) : CallR X (.type "dict") (rDl Ω F (ar1 dDict)) := by
  intro pins s σ H xs us Q I r h0
  obtain ⟨x, S, G, d, rfl, f, rx, h⟩ := rDl1 h0
  refine thn (Q := EP X pins σ (tellQ Q)) ?_ fun v s1 e => ep_tell e
  unfold dDict at h
  split at h
  · split at h
    · rename_i ps e
      cases rx with
      | @lst a vs ds q rs =>
        obtain ⟨as, kvs, rfl, hk, hp⟩ := pairs_rep rs e
        refine call_dictP hc pins s σ H _ us (tellQ Q) I r ⟨a, as, kvs, rfl, f.w.lst q, L2.Paired.mapP hp fun p kv r => .inl ((RdLe.of f.w.same).rd _ _ r), fun p hp => ?_⟩
        exact Pg.newD f h hp True.intro fun od => .newK f.w hp (hk.merge .nil) od
    · exact h.elim
  · split at h
    · rename_i ps e
      cases rx with
      | @tup a _ vs ds q rs =>
        obtain ⟨as, kvs, rfl, hk, hp⟩ := pairs_rep rs e
        obtain ⟨u, rfl, ru⟩ := vals1 r
        cases ru
        obtain ⟨o, q, hd⟩ := q
        obtain ⟨ho, hz, its, rv, o', ho', hcl, n, hdat⟩ := (show ObjOk X.prog X.w H s.heap a (.frz o (.tup (as.map V.ref))) from I.hok a _ (f.w.same _ _ q))
        have ei := refs_at rv
        subst ei
        rw [ho] at ho'
        cases ho'
        rw [List.length_map] at hz
        obtain ⟨prs, vvs, rel, hl, hl2, hpr⟩ := pairs_at I (L2.Paired.mapP hp fun p kv r => (RdLe.of f.w.same).rd _ _ r)
        refine PySem.call_dict_pairs (knd := mixKind X.prog X.w) (kvs := prs) (PySem.PairArg.tuple a (as.map Value.ref).toArray (fun j => as.getD j 0) vvs) (I.ok.hd hc) ⟨⟨o, n, ho, hcl, hd, hdat⟩, by simp [hl2], fun j k v e => ?_⟩ ⟨by rw [hl, hl2], fun i k v e => ?_⟩ (by rw [hl2]; exact hz) fun h' tk hd' kp => ?_
        · obtain ⟨b, q', e1, e2, e3, e4⟩ := hpr j k v e
          have : as.getD j 0 = b := by rw [List.getD_eq_getElem?_getD, e1]; rfl
          show _ = some (Value.ref (as.getD j 0)) ∧ PairAt s.heap (as.getD j 0) k v
          rw [this]
          exact ⟨by simp [e1], .inl e2⟩
        · obtain ⟨b, q', e1, e2, e3, e4⟩ := hpr i k v e
          exact ⟨q', e3, e4⟩
        · have hm : (s.heap.objs.size == sysModules) = false := beq_eq_false_iff_ne.mpr (Nat.ne_of_gt I.big)
          have hlen : (mergeK [] kvs).length ≤ sizeLine := by
            refine Nat.le_trans (length_mergeK kvs []) ?_
            rw [List.length_nil, Nat.zero_add, rel.length, hl]
            exact hz
          have hf : H s.heap.objs.size = none := I.hok.fresh (Nat.le_refl _)
          exact ⟨.ref s.heap.objs.size, upd H s.heap.objs.size (.dK (mergeK [] kvs)), I.laid (t' := tk) (fun b o e => kp b o (fun z => nomatch z) e) (Nat.le_refl _) (show ObjOk X.prog X.w _ _ _ (.dK (mergeK [] kvs)) from ⟨hlen, hm, merged [] prs, KV.merge rel .nil, hd'⟩), rfl, Pg.newD f h hf True.intro fun od => .newK f.w hf (hk.merge .nil) od⟩
    · exact h.elim
  · exact h.elim
end
end DL
set_option Elab.async false
set_option linter.all false
set_option maxRecDepth 100000
set_option autoImplicit false
/-! DLc: lists and dicts of the def's own: made, written. -/
namespace DL
open PySem PySem.Spec PyProof.Rows L2

section
variable {Ω : Om} {F : Fr} {ρ : Env'} {S : DS} {G H : Hp} {σ : L2.St} {i : Nat} {p : Addr}
theorem join_some {o : Option (Option V)} {v : V} (h : o.join = some v) : o = some (some v) := by
  cases o with
  | none => cases h
  | some z => exact congrArg some h
theorem RInv.own {c : Cell} (I : RInv Ω F ρ S G σ H) (hc : ρ[i]? = some c) (ho : c.isOwn = true) : ∃ p, σ[i]? = some (some (.ref p)) ∧ Mine Ω F G p ∧ H p ≠ none := by
  have k := I.cell i c hc
  cases c with
  | no => cases ho
  | dat _ => cases ho
  | own ds => obtain ⟨p, vs, e, m, hp, _⟩ := k; exact ⟨p, join_some e, m, by rw [hp]; simp⟩
  | ownK ds => obtain ⟨p, vs, e, m, hp, _⟩ := k; exact ⟨p, join_some e, m, by rw [hp]; simp⟩
  | ownT ds => obtain ⟨p, vs, e, m, hp, _⟩ := k; exact ⟨p, join_some e, m, by rw [hp]; simp⟩
/-- an object that no other slot owns and nothing frozen leans on is written -/
theorem CellOk.poke {sv : Option V} {c : Cell} (k : CellOk Ω F G H sv c) (o : HO) (ne : c.isOwn = true → sv ≠ some (.ref p)) : CellOk Ω F G (upd H p o) sv c := by
  cases c with
  | no => trivial
  | dat d => exact k
  | own ds =>
    obtain ⟨q, vs, e, m, hp, r⟩ := k
    exact ⟨q, vs, e, m, by rw [upd_ne fun h => ne rfl (by rw [e, h])]; exact hp, r⟩
  | ownK ds =>
    obtain ⟨q, vs, e, m, hp, r⟩ := k
    exact ⟨q, vs, e, m, by rw [upd_ne fun h => ne rfl (by rw [e, h])]; exact hp, r⟩
  | ownT ds =>
    obtain ⟨q, vs, e, m, hp, r⟩ := k
    exact ⟨q, vs, e, m, by rw [upd_ne fun h => ne rfl (by rw [e, h])]; exact hp, r⟩
theorem Fx.poke (f : Fx Ω F S G H) (m : Mine Ω F G p) (o : HO) (hx : ∀ φ, H p ≠ some (.ext φ)) : Fx Ω F S G (upd H p o) := by
  obtain ⟨n1, n2, n3, n4⟩ := m.ne f
  refine ⟨⟨fun a x q => ?_, f.w.ga, f.w.gg, f.w.gc, f.w.gt, f.w.nt, ?_⟩, f.g, fun a x q h1 h2 h3 => ?_, f.e⟩
  · rw [upd_ne fun h => by subst h; rw [m.g] at q; cases q]
    exact f.w.same a x q
  · exact ⟨by rw [upd_ne (Ne.symm n1)]; exact f.w.st.dict, by rw [upd_ne (Ne.symm n2)]; exact f.w.st.great, by rw [upd_ne (Ne.symm n3)]; exact f.w.st.cells, tabs_upd f.w.st.tabs n4 hx⟩
  · rw [upd_ne fun h => by subst h; rw [m.h0] at q; cases q]
    exact f.h a x q h1 h2 h3
/-- it is no slot's -/
theorem RInv.poke (I : RInv Ω F ρ S G σ H) (m : Mine Ω F G p) (o : HO) (hx : ∀ φ, H p ≠ some (.ext φ)) (ne : ∀ (j : Nat) (c : Cell), ρ[j]? = some c → c.isOwn = true → σ[j]?.join ≠ some (V.ref p)) : RInv Ω F ρ S G σ (upd H p o) :=
  ⟨I.f.poke m o hx, I.len, fun j c q => (I.cell j c q).poke o (ne j c q), I.inj⟩
/-- it is one slot's -/
theorem RInv.write {c c' : Cell} (I : RInv Ω F ρ S G σ H) (hc : ρ[i]? = some c) (ho : c.isOwn = true) (hs : σ[i]? = some (some (.ref p))) (m : Mine Ω F G p) (o : HO) (k : CellOk Ω F G (upd H p o) (some (.ref p)) c') : RInv Ω F (ρ.set i c') S G σ (upd H p o) := by
  have hx : ∀ φ, H p ≠ some (.ext φ) := fun φ z => by
    have k := I.cell i c hc
    rw [hs] at k
    cases c with
    | no => cases ho
    | dat _ => cases ho
    | own ds => obtain ⟨p', vs, e, _, hp, _⟩ := k; cases e; rw [hp] at z; cases z
    | ownK ds => obtain ⟨p', vs, e, _, hp, _⟩ := k; cases e; rw [hp] at z; cases z
    | ownT ds => obtain ⟨p', vs, e, _, hp, _⟩ := k; cases e; rw [hp] at z; cases z
  refine ⟨I.f.poke m o hx, by rw [List.length_set]; exact I.len, fun j c2 q => ?_, fun j l c1 c2 q e1 e2 o1 o2 f1 f2 => ?_⟩
  · rcases set_ne_or q with ⟨h, rfl, _⟩ | ⟨h, q⟩
    · subst h; rw [hs]; exact k
    · exact (I.cell j c2 q).poke o fun o2 e => h (I.inj j i c2 c p q hc o2 ho (join_some e) hs)
  · have g : ∀ {j : Nat} {c1 : Cell}, (ρ.set i c')[j]? = some c1 → c1.isOwn = true → ∃ c0, ρ[j]? = some c0 ∧ c0.isOwn = true := fun {j c1} e o => by
      rcases set_ne_or e with ⟨h, _, _⟩ | ⟨_, e⟩
      · subst h; exact ⟨c, hc, ho⟩
      · exact ⟨_, e, o⟩
    obtain ⟨_, g1, g2⟩ := g e1 o1
    obtain ⟨_, g3, g4⟩ := g e2 o2
    exact I.inj j l _ _ q g1 g3 g2 g4 f1 f2
theorem Fx.mine (f : Fx Ω F S G H) (h : H p = none) : Mine Ω F G p := ⟨f.w.free h, by
  cases q : F.H0 p with
  | none => rfl
  | some o => exact absurd h (f.h.there f.w.st (by rw [q]; simp))⟩
/-- a new object becomes a slot's own -/
theorem RInv.newOwn {c' : Cell} (I : RInv Ω F ρ S G σ H) (h : H p = none) (o : HO) (k : CellOk Ω F G (upd H p o) (some (.ref p)) c') : RInv Ω F (ρ.set i c') S G (σ.set i (some (.ref p))) (upd H p o) := by
  have f : Fx Ω F S G (upd H p o) := I.f.poke (I.f.mine h) o fun φ z => by rw [h] at z; cases z
  have other : ∀ {j : Nat} {c : Cell}, ρ[j]? = some c → c.isOwn = true → σ[j]? ≠ some (some (.ref p)) := fun {j c} e ho z => by
    obtain ⟨p', e', _, n⟩ := I.own e ho
    rw [z] at e'
    cases e'
    exact n h
  refine ⟨f, by rw [List.length_set, List.length_set]; exact I.len, fun j c2 q => ?_, fun j l c1 c2 q e1 e2 o1 o2 f1 f2 => ?_⟩
  · rcases set_ne_or q with ⟨h2, rfl, hl⟩ | ⟨h2, q⟩
    · subst h2
      rw [List.getElem?_set_self (by rw [← I.len]; exact hl)]
      exact k
    · rw [List.getElem?_set_ne (Ne.symm h2)]
      exact (I.cell j c2 q).poke o fun ho e => other q ho (join_some e)
  · rcases set_ne_or e1 with ⟨h1, _, hl1⟩ | ⟨h1, e1'⟩
    · rcases set_ne_or e2 with ⟨h2, _, _⟩ | ⟨h2, e2'⟩
      · exact h1.trans h2.symm
      · subst h1
        rw [List.getElem?_set_self (by rw [← I.len]; exact hl1)] at f1
        cases f1
        rw [List.getElem?_set_ne (Ne.symm h2)] at f2
        exact absurd f2 (other e2' o2)
    · rw [List.getElem?_set_ne (Ne.symm h1)] at f1
      rcases set_ne_or e2 with ⟨h2, _, hl2⟩ | ⟨h2, e2⟩
      · subst h2
        rw [List.getElem?_set_self (by rw [← I.len]; exact hl2)] at f2
        cases f2
        exact absurd f1 (other e1' o1)
      · rw [List.getElem?_set_ne (Ne.symm h2)] at f2
        exact I.inj j l c1 c2 q e1' e2 o1 o2 f1 f2
end

/-! ### statements -/
section
variable {X : Cx} {Ω : Om} {F : Fr} {ρ : Env'} {β γ : Type} {en : β → Env'} {el : γ → Env'} {i : Nat} {x : Str} {p ap cp p1 pos : Pos} {e ke : Expr} {es : List Expr} {me mk : M D} {ms : M (List D)} {rest : List Stmt} {km : M (Fl β γ)} {k : D → M (Fl β γ)} {ks : List D → M (Fl β γ)}
theorem Same.mineU {G H : Hp} {p : Addr} (h : G p = none) (o : HO) : Same G (upd G p o) := same_upd h
/-- x = [..], the def's own -/
theorem pssOwnL (hN : X.N.Nodup) (ha : PA X es (tA Ω F ρ ms)) (hr : ∀ ds, PSs X rest (tS Ω F (ρ.set i (.own ds)) (ks ds) en el)) (hi : X.N[i]? = some x := by rfl) (hx : Loc X.env.scope x := by first | exact Or.inl rfl | exact Or.inr rfl)
    (hf : X.fn x = true ∨ X.env.scope.names.lookup x = some .local := by first | exact Or.inl rfl | exact Or.inr rfl)
    (hs : swapsWithSole [.Name x p] (.List es p1) pos.line X.env = pure false := by rfl) (hw : swappedStores [.Name x p] (.List es p1) X.env = pure none := by rfl) : PSs X (.Assign [.Name x p] (.List es p1) pos :: rest) (tS Ω F ρ (ms >>= fun ds => gd (ds.length ≤ lim) (ks ds)) en el) :=
  PSsi (pss_cons (ps_asg (pe_lst ha) (pg_name (i := i) hN hi hx hf) hs hw) (PSsx hr)) fun E σ H ⟨S, G, I, w⟩ => by
    rw [wp_bind] at w
    refine ⟨S, G, I, w.imp fun ds S1 w G1 H1 vs w1 g1 h1 r1 => ?_⟩
    rw [wp_gd, lim_eq] at w
    have I1 := I.step w1 g1 h1
    have s1 := g1.same I.f.w.same
    refine ⟨by rw [r1.length]; exact w.1, fun q hq => ?_⟩
    exact ⟨ds, S1, G1, I1.newOwn hq _ ⟨q, vs, rfl, I1.f.mine hq, upd_same, r1⟩, w.2.imp fun fl S2 p2 => p2.le s1⟩
/-- x = {}, keys ints and texts -/
theorem pssOwnK (hN : X.N.Nodup) (hr : PSs X rest (tS Ω F (ρ.set i (.ownK [])) km en el)) (hi : X.N[i]? = some x := by rfl) (hx : Loc X.env.scope x := by first | exact Or.inl rfl | exact Or.inr rfl)
    (hf : X.fn x = true ∨ X.env.scope.names.lookup x = some .local := by first | exact Or.inl rfl | exact Or.inr rfl)
    (hs : swapsWithSole [.Name x p] (.Dict [] [] p1) pos.line X.env = pure false := by rfl) (hw : swappedStores [.Name x p] (.Dict [] [] p1) X.env = pure none := by rfl) : PSs X (.Assign [.Name x p] (.Dict [] [] p1) pos :: rest) (tS Ω F ρ km en el) :=
  PSsi (pss_cons (ps_asg pe_dnewK (pg_name (i := i) hN hi hx hf) hs hw) hr) fun E σ H ⟨S, G, I, w⟩ =>
    fun q hq => ⟨S, G, I.newOwn hq _ ⟨q, [], rfl, I.f.mine hq, upd_same, .nil⟩, w⟩
/-- x = {}, keys tuples of these -/
theorem pssOwnT (hN : X.N.Nodup) (hr : PSs X rest (tS Ω F (ρ.set i (.ownT [])) km en el)) (hi : X.N[i]? = some x := by rfl) (hx : Loc X.env.scope x := by first | exact Or.inl rfl | exact Or.inr rfl)
    (hf : X.fn x = true ∨ X.env.scope.names.lookup x = some .local := by first | exact Or.inl rfl | exact Or.inr rfl)
    (hs : swapsWithSole [.Name x p] (.Dict [] [] p1) pos.line X.env = pure false := by rfl) (hw : swappedStores [.Name x p] (.Dict [] [] p1) X.env = pure none := by rfl) : PSs X (.Assign [.Name x p] (.Dict [] [] p1) pos :: rest) (tS Ω F ρ km en el) :=
  PSsi (pss_cons (ps_asg pe_dnewT (pg_name (i := i) hN hi hx hf) hs hw) hr) fun E σ H ⟨S, G, I, w⟩ =>
    fun q hq => ⟨S, G, I.newOwn hq _ ⟨q, [], rfl, I.f.mine hq, upd_same, .nil⟩, w⟩
theorem RInv.ownL {S : DS} {G H : Hp} {σ : L2.St} {ds : List D} (I : RInv Ω F ρ S G σ H) (hc : ρ[i]? = some (.own ds)) : ∃ p vs, σ[i]? = some (some (.ref p)) ∧ Mine Ω F G p ∧ H p = some (.lst vs) ∧ Reps Ω G vs ds := by
  obtain ⟨p, vs, e, r⟩ := I.cell i _ hc
  exact ⟨p, vs, join_some e, r⟩
theorem RInv.ownDK {S : DS} {G H : Hp} {σ : L2.St} {ds : List (Key × D)} (I : RInv Ω F ρ S G σ H) (hc : ρ[i]? = some (.ownK ds)) : ∃ p vs, σ[i]? = some (some (.ref p)) ∧ Mine Ω F G p ∧ H p = some (.dK vs) ∧ KDs Ω G vs ds := by
  obtain ⟨p, vs, e, r⟩ := I.cell i _ hc
  exact ⟨p, vs, join_some e, r⟩
theorem RInv.ownDT {S : DS} {G H : Hp} {σ : L2.St} {ds : List (List Key × D)} (I : RInv Ω F ρ S G σ H) (hc : ρ[i]? = some (.ownT ds)) : ∃ p vs, σ[i]? = some (some (.ref p)) ∧ Mine Ω F G p ∧ H p = some (.dT vs) ∧ KDs Ω G vs ds := by
  obtain ⟨p, vs, e, r⟩ := I.cell i _ hc
  exact ⟨p, vs, join_some e, r⟩
/-- x.append(e) -/
theorem pssApp {ds : List D} (hc : ρ[i]? = some (.own ds)) (h : PE X e (tD Ω F ρ me)) (hr : ∀ d, PSs X rest (tS Ω F (ρ.set i (.own (ds ++ [d]))) (k d) en el)) (hN : X.N[i]? = some x := by rfl) (hv : Vis X.env.scope x := by first | exact Or.inl rfl | exact Or.inr (Or.inl rfl) | exact Or.inr (Or.inr rfl))
    (hd : (x == ("__debug__" : Str)) = false := by decide) (hcd : (x == ("__classdict__" : Str)) = false := by decide) (he : starEach [e] X.env = (false, eval e X.env) :: starEach [] X.env := by rfl)
    (hline : (ap.endLine == cp.line) = true := by rfl) (hbase : attributeBase (.Name x p) "append" X.env (eval (.Name x p) X.env) = eval (.Name x p) X.env := by rfl)
    (hfew : ((backTo cp (starEach [e] X.env)).all (fun x => !x.1) && (backToKw cp (keywordEach [] X.env)).all (fun x => x.1.isSome)
      && decide ([e].length + ([] : List Keyword).length + (if ([] : List Keyword).isEmpty then 0 else 1) < 30)) = true := by rfl)
    (hs : swapsWith (.Call (.Attribute (.Name x p) "append" ap) [e] [] cp) none pos.line X.env = pure false := by rfl) :
    PSs X (.Expr (.Call (.Attribute (.Name x p) "append" ap) [e] [] cp) pos :: rest) (tS Ω F ρ (me >>= fun d => gd (ds.length < lim) (k d)) en el) :=
  PSsi (pss_cons (ps_expr (pe_bm (T := "list") (id := "list.append") PySem.F.plainAttrs_list PySem.F.slot_list_append PySem.F.type_list_append mt_append (pe_var hN hv hd hcd) (pa_cons h pa_nil he) hbase hfew hline he) hs) (PSsx hr)) fun E σ H ⟨S, G, I, w⟩ => by
    obtain ⟨q, vs, e1, m, hq, rs⟩ := I.ownL hc
    refine ⟨.ref q, e1, .inl ⟨rfl, vs, .inl (.inl hq)⟩, ?_⟩
    rw [wp_bind] at w
    refine ⟨S, G, I, w.imp fun d S1 w G1 H1 v w1 g1 h1 r1 => ?_⟩
    rw [wp_gd, lim_eq] at w
    have I1 := I.step w1 g1 h1
    have s1 := g1.same I.f.w.same
    obtain ⟨q', vs', e1', m', hq', rs'⟩ := I1.ownL hc
    rw [e1] at e1'
    cases e1'
    refine ⟨q, vs', v, rfl, rfl, hq', by rw [rs'.length]; exact w.1, ?_⟩
    exact ⟨d, S1, G1, I1.write hc rfl e1 m' _ ⟨q, _, rfl, m', upd_same, rs'.append (.cons r1 .nil)⟩, w.2.imp fun fl S2 p2 => p2.le s1⟩
abbrev dctK (kvs : List (Key × D)) : D := .dct false (kvs.map fun kv => keyD kv.1) (kvs.map (·.2))
def onKey {α : Type} (d : D) (f : Key → M α) : M α := match d.key? with
  | some key => f key
  | none => M.stuck
/-- x[ke] = e, keys ints and texts -/
theorem pssPutK {kvs : List (Key × D)} {p2 : Pos} {kk : Key → D → M (Fl β γ)} (hu : X.A.units + 64 < cLine) (hc : ρ[i]? = some (.ownK kvs)) (hk : PE X ke (tD Ω F ρ mk)) (h : PE X e (tD Ω F ρ me)) (hr : ∀ key d, PSs X rest (tS Ω F (ρ.set i (.ownK (putA kvs key d))) (kk key d) en el)) (hN : X.N[i]? = some x := by rfl) (hv : Vis X.env.scope x := by first | exact Or.inl rfl | exact Or.inr (Or.inl rfl) | exact Or.inr (Or.inr rfl))
    (hd : (x == ("__debug__" : Str)) = false := by decide) (hcd : (x == ("__classdict__" : Str)) = false := by decide)
    (hs : swapsWith e (some (.Subscript (.Name x p) ke p2)) pos.line X.env = pure false := by rfl) :
    PSs X (.Assign [.Subscript (.Name x p) ke p2] e pos :: rest) (tS Ω F ρ (me >>= fun d => mk >>= fun kd => onKey kd fun key => gd (kvs.length < lim) (kk key d)) en el) :=
  PSsi (pss_cons (ps_dput (by omega) (pe_var hN hv hd hcd) hk h hs) (PSsx (α := Key × D) fun q => hr q.1 q.2)) fun E σ H ⟨S, G, I, w⟩ => by
    obtain ⟨q, vs, e1, m, hq, rs⟩ := I.ownDK hc
    rw [wp_bind] at w
    refine ⟨S, G, I, w.imp fun d S1 w G1 H1 v w1 g1 h1 r1 => ⟨.ref q, e1, ?_⟩⟩
    have I1 := I.step w1 g1 h1
    have s1 := g1.same I.f.w.same
    rw [wp_bind] at w
    refine ⟨S1, G1, I1, w.imp fun kd S2 w G2 H2 kv w2 g2 h2 r2 => ?_⟩
    have I2 := I1.step w2 g2 h2
    have s2 := g2.same I1.f.w.same
    unfold onKey at w
    cases hk : kd.key? with
    | none => rw [hk] at w; exact w.elim
    | some key =>
      rw [hk] at w
      have w : (gd (kvs.length < lim) (kk key d)).wp _ _ S2 := w
      rw [wp_gd, lim_eq] at w
      have := key?_eq hk
      subst this
      have := r2.keyV
      subst this
      obtain ⟨q', vs', e1', m', hq', rs'⟩ := I2.ownDK hc
      rw [e1] at e1'
      cases e1'
      have hl : vs'.length = kvs.length := by have := congrArg List.length rs'.1; simpa using this
      refine ⟨q, _, rfl, .inl ⟨vs', key, hq', rfl, by rw [hl]; exact w.1, rfl⟩, ?_⟩
      exact ⟨(key, d), S2, G2, I2.write hc rfl e1 m' _ ⟨q, _, rfl, m', upd_same, rs'.put (r1.same s2)⟩, w.2.imp fun fl S3 p3 => p3.le (s1.trans s2)⟩
end
end DL
set_option Elab.async false
set_option linter.all false
set_option maxRecDepth 100000
set_option autoImplicit false
/-! DLd: dict comprehensions, x.update(..). -/
namespace DL
open PySem PySem.Spec PyProof.Rows L2

def dcM (mt : D → M Bool) (mk mv : D → M D) (d : D) : M (Option D) := noErr (mt d >>= fun b => if b = true then mk d >>= fun k => mv d >>= fun v => match k.key? with
  | some _ => pure (some (.tup false [k, v]))
  | none => M.stuck else pure none)
def dcD (mt : D → M Bool) (mk mv : D → M D) (ds : List D) : M D := gd (ds.length ≤ lim) (compM (dcM mt mk mv) ds >>= fun rs => dDict (.lst rs))
theorem pairs?_snoc : ∀ {rs : List D} {ps : List (Key × D)} {k : Key} {v : D}, D.pairs? rs = some ps → D.pairs? (rs ++ [.tup false [keyD k, v]]) = some (ps ++ [(k, v)])
  | [], ps, k, v, h => by
    cases h
    simp [D.pairs?, key?_keyD]
  | d :: rs, ps, k, v, h => by
    unfold D.pairs? at h
    split at h
    · rename_i t a b
      split at h
      · rename_i k' ps' e1 e2
        cases h
        rw [List.cons_append]
        unfold D.pairs?
        simp only [e1, pairs?_snoc e2, List.cons_append]
      · cases h
    · cases h
section
variable {X : Cx} {Ω : Om} {F : Fr} {ρ : Env'} {pos : Pos}
/-- a dict that is no part of what is frozen is told and frozen -/
theorem Wd.told {S : DS} {G H : Hp} {p : Addr} {u : HO} (w : Wd Ω S G H) (n1 : p ≠ Ω.as) (n2 : p ≠ Ω.ag) (n3 : p ≠ Ω.ac) (n4 : ∀ q ∈ Ω.tb, p ≠ q.1) (g : G p = none) (h : H p = some u) (od : Obj) (nx : ∀ φ, u ≠ .ext φ := by intro _ z; cases z) : Wd Ω S (upd G p (.frz od u)) (upd H p (.frz od u)) := by
  refine ⟨fun a o e => ?_, by rw [upd_ne (Ne.symm n1)]; exact w.ga, by rw [upd_ne (Ne.symm n2)]; exact w.gg, by rw [upd_ne (Ne.symm n3)]; exact w.gc, fun q hq => by rw [upd_ne (Ne.symm (n4 q hq))]; exact w.gt q hq, fun b ps z => ?_,
    ⟨by rw [upd_ne (Ne.symm n1)]; exact w.st.dict, by rw [upd_ne (Ne.symm n2)]; exact w.st.great, by rw [upd_ne (Ne.symm n3)]; exact w.st.cells, tabs_upd w.st.tabs n4 fun φ z => by rw [h] at z; exact nx φ (Option.some.inj z)⟩⟩
  · by_cases hp : a = p
    · subst hp; rw [upd_same] at e ⊢; exact e
    · rw [upd_ne hp] at e ⊢; exact w.same a o e
  · by_cases hb : b = p
    · rw [hb, upd_same] at z; cases z
    · rw [upd_ne hb] at z; exact w.nt b ps z
/-- {kx: vx for tg in iter if ..}, keys ints and texts -/
theorem pdDcG {kx vx tg iter : Expr} {ifs : List Expr} {scope : Scope} {own : List (Str × Nat)} {mi : M (List D)} {π : D → Option Sets} {g : TG} {mt : D → M Bool} {mk mv : D → M D}
    (hc : X.calm = true) (hN : X.N.Nodup) (hi : PI X tg iter (tI Ω F ρ mi)) (ok : BlkOk X.N X.env.scope scope own) (hv : ∀ d us, π d = some us → ∀ j ∈ us.map (·.1), j ∈ own.map (·.2)) (hn : ∀ d, π d = none → dcM mt mk mv d = M.stuck)
    (hr : RG Ω F.nox π g) (hg : ∀ (s : Shared) (H : Hp) (C : Addr) (cl : List (Str × Addr)) (fp : List Addr), PG (X.blk s H scope (compEnvC scope cl C X.env) fp) tg g)
    (ht : ∀ (s : Shared) (H : Hp) (C : Addr) (cl : List (Str × Addr)) (fp : List Addr) d us, π d = some us → PTs (X.blk s H scope (compEnvC scope cl C X.env) fp) ifs (tT Ω F.nox (setC (wipeC ρ (own.map (·.2))) us) (mt d)))
    (hk : ∀ (s : Shared) (H : Hp) (C : Addr) (cl : List (Str × Addr)) (fp : List Addr) d us, π d = some us → PE (X.blk s H scope (compEnvC scope cl C X.env) fp) kx (tD Ω F.nox (setC (wipeC ρ (own.map (·.2))) us) (mk d)))
    (he : ∀ (s : Shared) (H : Hp) (C : Addr) (cl : List (Str × Addr)) (fp : List Addr) d us, π d = some us → PE (X.blk s H scope (compEnvC scope cl C X.env) fp) vx (tD Ω F.nox (setC (wipeC ρ (own.map (·.2))) us) (mv d)))
    (hs : ∀ x, foldedSetIterable iter X.env x = pure x := by intro _; rfl) : PE X (.DictComp kx vx [⟨tg, iter, ifs, 0⟩] scope pos) (tD Ω F ρ (mi >>= dcD mt mk mv)) := by
  refine PEi (PE.tell (pe_dc hc hN hi ok hg (fun s H C cl fp => PTsx fun p : { q : D × Sets // π q.1 = some q.2 } => ht s H C cl fp _ _ p.2) (fun s H C cl fp => PEx fun p : { q : D × Sets // π q.1 = some q.2 } => hk s H C cl fp _ _ p.2) (fun s H C cl fp => PEx fun p : { q : D × Sets // π q.1 = some q.2 } => he s H C cl fp _ _ p.2) hs)) fun σ H Q ⟨S, G, I, w⟩ => ?_
  rw [wp_bind] at w
  refine ⟨S, G, I, w.imp fun ds S1 p G1 H1 J w1 g1 h1 dw Da hD => ?_⟩
  unfold dcD at p
  rw [wp_gd, lim_eq, wp_bind] at p
  obtain ⟨hl, p⟩ := p
  have I1 := I.step w1 g1 h1
  have m1 : Mine Ω F G1 Da := I1.f.mine hD
  have sD : Same H1 (upd H1 Da (.dK [])) := same_upd hD
  have hDne := w1.ne hD
  have noOwn : ∀ (j : Nat) (c : Cell), ρ[j]? = some c → c.isOwn = true → σ[j]?.join ≠ some (V.ref Da) := fun j c hc ho e => by
    obtain ⟨p', e', _, n⟩ := I1.own hc ho
    rw [e'] at e
    cases e
    exact n hD
  have hDH : H Da = none := by
    cases q0 : H Da with
    | none => rfl
    | some o => exact absurd hD (h1.there w1.st (by rw [q0]; simp))
  refine ⟨fun i m H' => m = ds.length - i ∧ i ≤ ds.length ∧ ∃ kvs rs ps S' G', RInv Ω F ρ S' G' σ H' ∧ Same G1 G' ∧ GX G H G' ∧ HX Ω H H' ∧ G' Da = none ∧ H' Da = some (.dK kvs) ∧ kvs.length ≤ i ∧ D.pairs? rs = some ps ∧ KDs Ω G' kvs (mergeA [] ps) ∧
      (compM (dcM mt mk mv) (ds.drop i)).wp (fun rs2 S2 => (dDict (.lst (rs ++ rs2))).wp (Pg Ω (RD Ω) G H Q) (Er Ω F) S2) (Er Ω F) S', ⟨ds.length, by simp, Nat.zero_le _, [], [], [], S1, G1, I1.step (w1.grow sD) (GX.refl _ _) (HX.of sD), Same.refl _, g1, h1.trans (HX.of sD), w1.free hD, upd_same, Nat.le_refl _, rfl, .nil, ?_⟩, ?_⟩
  · rw [List.drop_zero]
    exact p
  rintro i m H' ⟨rfl, hi', kvs, rs, ps, S', G', I', s', g', x', hn', hD', hlen, hps, rr, q⟩
  have sH : Same G1 H' := s'.trans I'.f.w.same
  by_cases hlt : i < ds.length
  · refine .inr ⟨dw.go i H' sH hlt, fun H'' => i + 1 ≤ ds.length ∧ ∃ kvs rs ps S' G', RInv Ω F ρ S' G' σ H'' ∧ Same G1 G' ∧ GX G H G' ∧ HX Ω H H'' ∧ G' Da = none ∧ H'' Da = some (.dK kvs) ∧ kvs.length ≤ i + 1 ∧ D.pairs? rs = some ps ∧ KDs Ω G' kvs (mergeA [] ps) ∧
      (compM (dcM mt mk mv) (ds.drop (i + 1))).wp (fun rs2 S2 => (dDict (.lst (rs ++ rs2))).wp (Pg Ω (RD Ω) G H Q) (Er Ω F) S2) (Er Ω F) S', fun H'' ⟨h2, h3⟩ => ⟨ds.length - (i + 1), by omega, rfl, h2, h3⟩, fun x H'' y => ?_⟩
    obtain ⟨d, hd, nw⟩ := dw.yld i H' x H'' sH hlt y
    obtain ⟨G3, w3, g3, h3, r3⟩ := nw S' G' I'.f.w s'
    have s3 := g3.same I'.f.w.same
    have I3 := I'.step w3 g3 h3
    have hD3 : H'' Da = some (.dK kvs) := h3 _ _ hD' hDne.1 hDne.2.1 hDne.2.2.2
    have n3 : G3 Da = none := by rw [g3.at hD' (by intro _ z; cases z)]; exact hn'
    have gx3 : GX G H G3 := g'.trans x' I'.f.w.st g3
    have e : ds.drop i = d :: ds.drop (i + 1) := by
      rw [List.drop_eq_getElem_cons hlt]
      rw [List.getElem?_eq_getElem hlt] at hd
      rw [Option.some.inj hd]
    rw [e] at q
    unfold compM at q
    rw [wp_bind] at q
    cases hπ : π d with
    | none => rw [hn d hπ] at q; exact q.elim
    | some us =>
      have I3' : RInv Ω F.nox (wipeC ρ (own.map (·.2))) S' G3 (L2.wipe σ (own.map (·.2))) H'' := (I3.re (F' := F.nox) rfl rfl).wipe _
      refine hr _ S' G3 _ H'' x d us _ I3' r3 hπ fun σ4 I4 f4 l4 => ?_
      refine ⟨wipe_eq (l4.trans (wipe_length _ _)) fun j hj => f4 j fun hm => hj (hv d us hπ j hm), ⟨(d, us), hπ⟩, S', G3, I4, ?_⟩
      unfold dcM at q
      rw [wp_noErr, wp_bind] at q
      refine q.mono (fun b S5 q5 G5 H5 b5 w5 g5 h5 r5 => ?_) fun _ _ z => z.elim
      cases r5
      have s5 := g5.same I4.f.w.same
      have I5 := I3.step w5 g5 h5
      have I5' := I4.step w5 g5 h5
      have hD5 : H5 Da = some (.dK kvs) := h5 _ _ hD3 hDne.1 hDne.2.1 hDne.2.2.2
      have n5 : G5 Da = none := by rw [g5.at hD3 (by intro _ z; cases z)]; exact n3
      have gx5 : GX G H G5 := gx3.trans (x'.trans h3) w3.st g5
      have hx5 := (x'.trans h3).trans h5
      cases b with
      | false =>
        rw [if_neg Bool.false_ne_true] at q5 ⊢
        have q5 : (compM (dcM mt mk mv) (ds.drop (i + 1)) >>= fun rs => pure ((none : Option D).toList ++ rs)).wp _ (Er Ω F) S5 := q5
        rw [wp_bind] at q5
        exact ⟨hlt, kvs, rs, ps, S5, G5, I5, (s'.trans s3).trans s5, gx5, hx5, n5, hD5, by omega, hps, (rr.same s3).same s5, q5⟩
      | true =>
        rw [if_pos rfl] at q5 ⊢
        rw [wp_bind] at q5
        refine ⟨⟨(d, us), hπ⟩, S5, G5, I5', q5.mono (fun zk S6 q6 G6 H6 v6 w6 g6 h6 r6 => ?_) fun _ _ z => z.elim⟩
        have s6 := g6.same I5.f.w.same
        have I6 := I5.step w6 g6 h6
        have I6' := I5'.step w6 g6 h6
        have hD6 : H6 Da = some (.dK kvs) := h6 _ _ hD5 hDne.1 hDne.2.1 hDne.2.2.2
        have n6 : G6 Da = none := by rw [g6.at hD5 (by intro _ z; cases z)]; exact n5
        have gx6 : GX G H G6 := gx5.trans hx5 w5.st g6
        have hx6 := hx5.trans h6
        rw [wp_bind] at q6
        refine ⟨⟨(d, us), hπ⟩, S6, G6, I6', q6.mono (fun z S7 q7 G7 H7 v7 w7 g7 h7 r7 => ?_) fun _ _ z => z.elim⟩
        have s7 := g7.same I6.f.w.same
        have I7 := I6.step w7 g7 h7
        have hD7 : H7 Da = some (.dK kvs) := h7 _ _ hD6 hDne.1 hDne.2.1 hDne.2.2.2
        have n7 : G7 Da = none := by rw [g7.at hD6 (by intro _ z; cases z)]; exact n6
        have gx7 : GX G H G7 := gx6.trans hx6 w6.st g7
        have hx7 := hx6.trans h7
        have rr7 := (((rr.same s3).same s5).same s6).same s7
        cases hkk : zk.key? with
        | none => rw [hkk] at q7; exact q7.elim
        | some key =>
          rw [hkk] at q7
          have := key?_eq hkk
          subst this
          have := r6.keyV
          subst this
          have q7 : (compM (dcM mt mk mv) (ds.drop (i + 1)) >>= fun rs => pure ((some (D.tup false [keyD key, z])).toList ++ rs)).wp _ (Er Ω F) S7 := q7
          rw [wp_bind] at q7
          have m7 : Mine Ω F G7 Da := ⟨n7, m1.h0⟩
          refine ⟨kvs, key, rfl, hD7, by omega, hlt, putK kvs key v7, rs ++ [.tup false [keyD key, z]], ps ++ [(key, z)], S7, G7, I7.poke m7 _ (fun φ z => by rw [hD7] at z; cases z) noOwn, (((s'.trans s3).trans s5).trans s6).trans s7, gx7, ?_, n7, upd_same, ?_, pairs?_snoc hps, ?_, q7.imp fun rs2 S8 q8 => ?_⟩
          · exact fun a o q n1 n2 n3 => by
              rw [upd_ne fun h => by subst h; rw [hDH] at q; cases q]
              exact hx7 a o q n1 n2 n3
          · have := length_putK kvs key v7
            omega
          · have : mergeA [] (ps ++ [(key, z)]) = putA (mergeA [] ps) key z := by simp [mergeA, List.foldl_append]
            rw [this]
            exact rr7.put r7
          · rw [List.append_assoc]
            exact q8
  · have e : i = ds.length := by omega
    subst e
    refine .inl ⟨dw.stop H' sH, ?_⟩
    rw [List.drop_length] at q
    have q : (dDict (.lst (rs ++ []))).wp (Pg Ω (RD Ω) G H Q) (Er Ω F) S' := q
    rw [List.append_nil] at q
    unfold dDict at q
    simp only [hps] at q
    have w' := I'.f.w
    refine ⟨Da, _, rfl, hD', True.intro, fun od => ?_⟩
    refine q (upd G' Da (.frz od (.dK kvs))) (upd H' Da (.frz od (.dK kvs))) (.ref Da) (w'.told (hDne.1) hDne.2.1 hDne.2.2.1 hDne.2.2.2 hn' hD' od) (fun a ha => ?_) (fun a o z n1 n2 n3 => by
      rw [upd_ne fun h => by subst h; rw [hDH] at z; cases z]
      exact x' a o z n1 n2 n3) (.ofK ⟨od, upd_same⟩ (rr.same (same_upd hn')))
    rw [upd_ne fun h => ha (by rw [h]; exact hDH)]
    exact g' a ha
/-- {kx: vx for x in iter if ..} -/
theorem pdDc1 {kx vx iter : Expr} {ifs : List Expr} {scope : Scope} {mi : M (List D)} {i : Nat} {x : Str} {px : Pos} {mt : D → M Bool} {mk mv : D → M D} (hN : X.N.Nodup) (ok : BlkOk X.N X.env.scope scope [(x, i)]) (hi : PI X (.Name x px) iter (tI Ω F ρ mi))
    (hg : ∀ (s : Shared) (H : Hp) (C : Addr) (cl : List (Str × Addr)) (fp : List Addr), PG (X.blk s H scope (compEnvC scope cl C X.env) fp) (.Name x px) (gName i))
    (ht : ∀ (s : Shared) (H : Hp) (C : Addr) (cl : List (Str × Addr)) (fp : List Addr) d, PTs (X.blk s H scope (compEnvC scope cl C X.env) fp) ifs (tT Ω F.nox ((ρ.set i .no).set i (.dat d)) (mt d)))
    (hk : ∀ (s : Shared) (H : Hp) (C : Addr) (cl : List (Str × Addr)) (fp : List Addr) d, PE (X.blk s H scope (compEnvC scope cl C X.env) fp) kx (tD Ω F.nox ((ρ.set i .no).set i (.dat d)) (mk d)))
    (he : ∀ (s : Shared) (H : Hp) (C : Addr) (cl : List (Str × Addr)) (fp : List Addr) d, PE (X.blk s H scope (compEnvC scope cl C X.env) fp) vx (tD Ω F.nox ((ρ.set i .no).set i (.dat d)) (mv d)))
    (hc : X.calm = true := by rfl) (hs : ∀ x, foldedSetIterable iter X.env x = pure x := by intro _; rfl) : PE X (.DictComp kx vx [⟨.Name x px, iter, ifs, 0⟩] scope pos) (tD Ω F ρ (mi >>= dcD mt mk mv)) :=
  pdDcG (π := piN i) hc hN hi ok hv1 (fun d e => nomatch e) rgN hg (fun s H C cl fp d us e => by cases e; exact ht s H C cl fp d) (fun s H C cl fp d us e => by cases e; exact hk s H C cl fp d) (fun s H C cl fp d us e => by cases e; exact he s H C cl fp d) hs
theorem dn2 {i j : Nat} {mt : D → D → M Bool} {mk mv : D → D → M D} (d : D) (e : piT (pisC (piN i) (pisC (piN j) pisN)) d = none) : dcM (un2 mt) (un2 mk) (un2 mv) d = M.stuck := by
  unfold dcM; rw [pi2n e]; rfl
/-- {kx: vx for x, y in iter if ..} -/
theorem pdDc2 {kx vx iter : Expr} {ifs : List Expr} {scope : Scope} {mi : M (List D)} {i j : Nat} {x y : Str} {px py pt : Pos} {kt : Nat} {mt : D → D → M Bool} {mk mv : D → D → M D} (hN : X.N.Nodup) (ok : BlkOk X.N X.env.scope scope [(x, i), (y, j)]) (hi : PI X (.Tuple [.Name x px, .Name y py] kt pt) iter (tI Ω F ρ mi))
    (hg : ∀ (s : Shared) (H : Hp) (C : Addr) (cl : List (Str × Addr)) (fp : List Addr), PG (X.blk s H scope (compEnvC scope cl C X.env) fp) (.Tuple [.Name x px, .Name y py] kt pt) (gTup X.K 2 (gCons (gName i) (gCons (gName j) gNil))))
    (ht : ∀ (s : Shared) (H : Hp) (C : Addr) (cl : List (Str × Addr)) (fp : List Addr) d e, PTs (X.blk s H scope (compEnvC scope cl C X.env) fp) ifs (tT Ω F.nox ((wipeC ρ [i, j]).set i (.dat d) |>.set j (.dat e)) (mt d e)))
    (hk : ∀ (s : Shared) (H : Hp) (C : Addr) (cl : List (Str × Addr)) (fp : List Addr) d e, PE (X.blk s H scope (compEnvC scope cl C X.env) fp) kx (tD Ω F.nox ((wipeC ρ [i, j]).set i (.dat d) |>.set j (.dat e)) (mk d e)))
    (he : ∀ (s : Shared) (H : Hp) (C : Addr) (cl : List (Str × Addr)) (fp : List Addr) d e, PE (X.blk s H scope (compEnvC scope cl C X.env) fp) vx (tD Ω F.nox ((wipeC ρ [i, j]).set i (.dat d) |>.set j (.dat e)) (mv d e)))
    (hc : X.calm = true := by rfl) (hs : ∀ x, foldedSetIterable iter X.env x = pure x := by intro _; rfl) : PE X (.DictComp kx vx [⟨.Tuple [.Name x px, .Name y py] kt pt, iter, ifs, 0⟩] scope pos) (tD Ω F ρ (mi >>= dcD (un2 mt) (un2 mk) (un2 mv))) :=
  pdDcG (π := piT (pisC (piN i) (pisC (piN j) pisN))) hc hN hi ok hv2 dn2 (rgT (K := X.K) (rgsC rgN (rgsC rgN rgsN))) hg (fun s H C cl fp d us e => by obtain ⟨t, a, b, rfl, rfl⟩ := pi2s e; exact ht s H C cl fp a b)
    (fun s H C cl fp d us e => by obtain ⟨t, a, b, rfl, rfl⟩ := pi2s e; exact hk s H C cl fp a b) (fun s H C cl fp d us e => by obtain ⟨t, a, b, rfl, rfl⟩ := pi2s e; exact he s H C cl fp a b) hs
end
/-! ### x.update(e): x the def's own -/
section
variable {X : Cx}
theorem mt_updK : MtR X "dict.update" (fun x xs H Q => ∃ a b kvs more, x = .ref a ∧ xs = [.ref b] ∧ a ≠ b ∧ H a = some (.dK kvs) ∧ Rd H b (.dK more) ∧ kvs.length + more.length ≤ sizeLine ∧ Q .non (upd H a (.dK (mergeK kvs more)))) := by
  intro pins s σ H x xs v us Q I rx rs h
  obtain ⟨a, b, kvs, more, rfl, rfl, ne, ha, hb, hl, q⟩ := h
  cases rx
  obtain ⟨u, rfl, ru⟩ := vals1 rs
  cases ru
  obtain ⟨z, hd, vs, rel, dd⟩ := dk_of I.hok ha
  obtain ⟨z2, hd2, ws, rel2, dd2⟩ := dk_rd I.hok hb
  refine call_meetsIn PySem.F.slot_dict_update dd.typeIs PySem.F.entry_dict_update (PySem.F.args_dict_update_2 _ _) (PySem.meets_dict_update (mixKind X.prog X.w) a b ne hd2) ⟨vs, ws, dd, dd2, by rw [← rel.length, ← rel2.length]; exact hl, fun h' d1 d2 hs => ?_⟩
  have he : ∃ q, h'.get? a = some q := let ⟨q, _, _, hq, _⟩ := d1; ⟨q, hq⟩
  have hlen : (mergeK kvs more).length ≤ sizeLine := Nat.le_trans (length_mergeK more kvs) hl
  exact ⟨.non, upd H a (.dK (mergeK kvs more)), d_write (t' := s.toks) I (by rw [ha]; exact True.intro) hs he (dk_new hlen hd (KV.merge rel2 rel) d1), rfl, q⟩
variable {Ω : Om} {F : Fr} {ρ : Env'} {β γ : Type} {en : β → Env'} {el : γ → Env'} {i : Nat} {x : Str} {p ap cp pos : Pos} {e : Expr} {me : M D} {rest : List Stmt}
theorem zip_maps {α β : Type} : ∀ l : List (α × β), (l.map (·.1)).zip (l.map (·.2)) = l
  | [] => rfl
  | _ :: l => by simp [zip_maps l]
def onUpd {α : Type} (d : D) (f : List (Key × D) → M α) : M α := match d with
  | .dct false ks vs => match D.keys? ks with
    | some kl => f (kl.zip vs)
    | none => M.stuck
  | _ => M.stuck
/-- x.update(e), keys ints and texts -/
theorem pssUpdK {kvs : List (Key × D)} {kk : List (Key × D) → M (Fl β γ)} (hc : ρ[i]? = some (.ownK kvs)) (h : PE X e (tD Ω F ρ me)) (hr : ∀ more, PSs X rest (tS Ω F (ρ.set i (.ownK (mergeA kvs more))) (kk more) en el)) (hN : X.N[i]? = some x := by rfl) (hv : Vis X.env.scope x := by first | exact Or.inl rfl | exact Or.inr (Or.inl rfl) | exact Or.inr (Or.inr rfl))
    (hd : (x == ("__debug__" : Str)) = false := by decide) (hcd : (x == ("__classdict__" : Str)) = false := by decide) (he : starEach [e] X.env = (false, eval e X.env) :: starEach [] X.env := by rfl)
    (hline : (ap.endLine == cp.line) = true := by rfl) (hbase : attributeBase (.Name x p) "update" X.env (eval (.Name x p) X.env) = eval (.Name x p) X.env := by rfl)
    (hfew : ((backTo cp (starEach [e] X.env)).all (fun x => !x.1) && (backToKw cp (keywordEach [] X.env)).all (fun x => x.1.isSome)
      && decide ([e].length + ([] : List Keyword).length + (if ([] : List Keyword).isEmpty then 0 else 1) < 30)) = true := by rfl)
    (hs : swapsWith (.Call (.Attribute (.Name x p) "update" ap) [e] [] cp) none pos.line X.env = pure false := by rfl) :
    PSs X (.Expr (.Call (.Attribute (.Name x p) "update" ap) [e] [] cp) pos :: rest) (tS Ω F ρ (me >>= fun d => onUpd d fun more => gd (kvs.length + more.length ≤ lim) (kk more)) en el) :=
  PSsi (pss_cons (ps_expr (pe_bm (T := "dict") (id := "dict.update") PySem.F.plainAttrs_dict PySem.F.slot_dict_update PySem.F.type_dict_update mt_updK (pe_var hN hv hd hcd) (pa_cons h pa_nil he) hbase hfew hline he) hs) (PSsx hr)) fun E σ H ⟨S, G, I, w⟩ => by
    obtain ⟨q, vs, e1, m, hq, rs⟩ := I.ownDK hc
    refine ⟨.ref q, e1, .inr (.inr (.inl ⟨rfl, .inl ⟨vs, hq⟩⟩)), ?_⟩
    rw [wp_bind] at w
    refine ⟨S, G, I, w.imp fun d S1 w G1 H1 v w1 g1 h1 r1 => ?_⟩
    have I1 := I.step w1 g1 h1
    have s1 := g1.same I.f.w.same
    obtain ⟨q', vs', e1', m', hq', rs'⟩ := I1.ownDK hc
    rw [e1] at e1'
    cases e1'
    unfold onUpd at w
    split at w
    · rename_i ks0 ds
      cases r1 with
      | @dK a more _ qa ra =>
        have e : D.keys? (more.map fun kv => keyD kv.1) = some (more.map (·.1)) := by
          rw [← keys?_map, List.map_map]; rfl
        rw [e] at w
        have w : (gd (kvs.length + ((more.map (·.1)).zip ds).length ≤ lim) (kk ((more.map (·.1)).zip ds))).wp _ _ S1 := w
        have hz : ((more.map (·.1)).zip ds).length = more.length := by
          have := ra.length
          rw [List.length_zip, List.length_map, ← this, List.length_map, Nat.min_self]
        rw [wp_gd, lim_eq, hz] at w
        have hl : vs'.length = kvs.length := by have := congrArg List.length rs'.1; simpa using this
        have hne : q ≠ a := fun z => by
          subst z
          obtain ⟨o, qa⟩ := qa
          rw [m'.g] at qa; cases qa
        have hla : more.length = ds.length := by have := ra.length; simpa using this
        have kd : KDs Ω G1 more ((more.map (·.1)).zip ds) := by
          refine ⟨?_, ?_⟩
          · rw [List.map_fst_zip (by simp [hla])]
          · rw [List.map_snd_zip (by simp [hla])]; exact ra
        refine ⟨q, a, vs', more, rfl, rfl, hne, hq', (RdLe.of w1.same).rd _ _ qa.rd, by rw [hl]; exact w.1, ?_⟩
        exact ⟨_, S1, G1, I1.write hc rfl e1 m' _ ⟨q, _, rfl, m', upd_same, kd.merge rs'⟩, w.2.imp fun fl S2 p2 => p2.le s1⟩
    · exact w.elim
end
end DL
set_option Elab.async false
set_option linter.all false
set_option maxRecDepth 100000
set_option autoImplicit false
/-! DLe: enumerate of lists and tuples. -/
namespace DL
open PySem PySem.Spec PyProof.Rows L2

set_option maxHeartbeats 1000000 in
theorem enumNew1 {val : Value} {ob : Obj} {HH : Heap → Prop} (BB : Begins val ob HH) :
    Meets (Builtin.«enumerate.__new__» ⟨[.type "enumerate", val], []⟩) (fun _ R s => HH s.heap ∧ R (.ok (.ret (.ref (s.heap.push ob).objs.size))) { s with heap := (s.heap.push ob).push { cls := .type "enumerate", data := .fields #[.none, .bool false, .ref s.heap.objs.size, rawInt 0, .none, .none] } }) :=
  .of_wp fun prog w A R s h => by
    obtain ⟨hp, gl, di, tk, os⟩ := s; obtain ⟨h1, h⟩ := h
    have hsub := sub_enumerate
    have q1 : ∀ {A' : Around} {E : Value → Shared → Prop} {Q : Value → Shared → Prop}, Q (.ref hp.objs.size) ⟨hp.push ob, gl, di, tk, os⟩ → wpAny (model prog w) A' (pyIter val) Q E ⟨hp, gl, di, tk, os⟩ := fun q => BB.iter prog w _ _ ⟨hp, gl, di, tk, os⟩ _ h1 q
    wp_walk using q1
    refine wpAny_stack_any fun st => wpAny_pure ?_
    split
    · rename_i c _ _ _ _ _
      cases (c == Value.type "enumerate")
      · wp_walk using q1
        exact ⟨_, rfl, h⟩
      · wp_walk using q1
        exact ⟨_, rfl, h⟩
    · wp_walk using q1
      exact ⟨_, rfl, h⟩
theorem enumCall1 {prog : Program} {w : World} {A : Around} {E : Value → Shared → Prop} {s : Shared} {val : Value} {ob : Obj} {HH : Heap → Prop} {Q : Value → Shared → Prop} (BB : Begins val ob HH) (h1 : HH s.heap)
    (h : ∀ h', IsEnum h' (s.heap.objs.size + 1) s.heap.objs.size 0 .none → h'.get? s.heap.objs.size = some ob → h'.objs.size = s.heap.objs.size + 2 → (∀ b o, s.heap.get? b = some o → h'.get? b = some o) → Q (.ref (s.heap.objs.size + 1)) { s with heap := h' }) :
    wpAny (model prog w) A (call (.type "enumerate") [val]) Q E s := by
  refine callType_new PySem.F.called_enumerate (by decide) (PySem.F.typeCall_enumerate_1 _) (PySem.F.newCall_enumerate_1 _) (fun obj => PySem.F.args_object_init_2 obj _) PySem.F.entry_enumerate_new (enumNew1 BB) ⟨h1, ?_⟩
  have sz : (s.heap.push ob).objs.size = s.heap.objs.size + 1 := Heap.size_push ..
  show _ ∧ _
  rw [sz]
  have he : IsEnum ((s.heap.push ob).push { cls := .type "enumerate", data := .fields #[.none, .bool false, .ref s.heap.objs.size, rawInt 0, .none, .none] }) (s.heap.objs.size + 1) s.heap.objs.size 0 .none := by
    have z := Heap.get?_push_size (s.heap.push ob) (o := { cls := .type "enumerate", data := .fields #[.none, .bool false, .ref s.heap.objs.size, rawInt 0, .none, .none] }) rfl
    rw [sz] at z; exact z
  exact ⟨⟨_, he, rfl⟩, h _ he (Heap.get?_push_of_some _ (Heap.get?_push_size _ BB.free)) (by rw [Heap.size_push, sz]) fun b o x => Heap.get?_push_of_some _ (Heap.get?_push_of_some _ x)⟩

/-- the tuple at a, each item in a new pair -/
def IteT (K : PySem.W.Frag) (a : Addr) : It :=
  ⟨fun i H => ∃ (xs : List V) (x : V), SqT K H a xs ∧ xs[i]? = some x, fun i H v H' => ∃ T x, v = .ref T ∧ H T = none ∧ H' = upd H T (.tup [.int (i : Nat), x]) ∧ ∀ xs, SqT K H a xs → xs[i]? = some x, fun i H => ∃ xs : List V, SqT K H a xs ∧ xs.length ≤ i⟩
theorem turn_enumT {P : Program} {w : World} {K : PySem.W.Frag} {elts : List Expr} {kk : Nat} {tpos : Pos} (a e it : Addr) :
    Turn P w K (.Tuple elts kk tpos) (IteT K a) [e, it] e (fun i h => (∃ old, IsEnum h e it ((i : Nat) : Int) old) ∧ h.IsTupleIter it a i ∧ e ≠ it ∧ a ≠ it ∧ e ≠ a) where
  mem := by simp
  obj := fun i h st b hb => by
    obtain ⟨⟨old, he⟩, ⟨o, ho, hcl, hd⟩, _⟩ := st
    rcases (by simpa using hb : b = e ∨ b = it) with rfl | rfl
    · exact ⟨_, he, fun v q => nomatch q⟩
    · exact ⟨o, ho, fun v q => by rw [hd] at q; cases q⟩
  keep := fun i h h' st k => by
    obtain ⟨⟨old, he⟩, hi, n1⟩ := st
    exact ⟨⟨old, k e (by simp) _ he⟩, hi.at fun o q => k it (by simp) o q, n1⟩
  item := by
    intro X hP hw hK hc i pins s σ H E I hf st hg
    subst hP hw hK
    obtain ⟨⟨old, he⟩, hit, n1, n2, n3⟩ := st
    obtain ⟨xs, x, hq, hx⟩ := hg
    obtain ⟨its, rv, p, hz⟩ := I.tuple hq
    obtain ⟨u, hu, ru⟩ := rv.get hx
    have hlt : i < its.toArray.size := by
      have := List.getElem?_eq_some_iff.mp hu
      simpa using this.1
    have hel : e < s.heap.objs.size := Heap.lt_size he
    have hil : it < s.heap.objs.size := by obtain ⟨_, q, _⟩ := hit; exact Heap.lt_size q
    have hh : X.A.in1.handled = none := I.ok.hd hc
    refine wpAny_pyNext_enum_itemC (Draws.tuple hh it a n2 its.toArray) he ⟨hit, p⟩ hlt n1 (by simp [n1, n3]) fun y h' tk hy ho hst' hT hsz hk => ?_
    have ey : y = u := by
      rw [show its.toArray[i]? = some u by simpa using hu] at hy
      exact (Option.some.inj hy).symm
    subst ey
    refine ⟨_, rfl, wpAny_letOwnedTupleGo_enum (s := { s with heap := h', toks := tk + 1 }) ho fun h'' he' sb => ?_⟩
    have hT2 : h''.get? s.heap.objs.size = some { cls := .type "tuple", data := .seq #[.int i tk, y] } := (sb.2 _ (Nat.ne_of_gt hel)).trans hT
    have pr : ObjOk X.prog X.w (upd H s.heap.objs.size (.tup [.int (i : Nat), x])) h'' s.heap.objs.size (.tup [.int (i : Nat), x]) := ⟨by show 2 ≤ sizeLine; decide, [.int i tk, y], .cons ⟨_, rfl⟩ (.cons ru .nil), ⟨_, hT2, rfl, _, rfl⟩⟩
    have I1 : Inv X pins σ (upd H s.heap.objs.size (.tup [.int (i : Nat), x])) { s with heap := h'', toks := tk + 1 } :=
      I.turnedNew (ch := [e, it]) (fun b ob hb q => (sb.2 b (fun z => hb (by simp [z]))).trans (hk b ob (fun z => hb (by simp [z])) (fun z => hb (by simp [z])) q)) hf (Nat.le_refl _) pr
    refine ⟨.ref s.heap.objs.size, _, I1, rfl, ⟨_, x, rfl, I.hok.fresh (Nat.le_refl _), rfl, fun zs hy => by rw [I.tuple_inj hy hq]; exact hx⟩, ⟨⟨y, ?_⟩, hst'.1.at fun o q => (sb.2 it (Ne.symm n1)).trans q, n1, n2, n3⟩, fun b hb => ?_⟩
    · have e1 : ((i + 1 : Nat) : Int) = (i : Int) + 1 := by omega
      rw [e1]; exact he'
    · have hlb : b < s.heap.objs.size := by
        rcases (by simpa using hb : b = e ∨ b = it) with rfl | rfl
        · exact hel
        · exact hil
      rw [upd_ne (Nat.ne_of_lt hlb)]
      exact (hf b hb).1
  done := by
    intro X hP hw hK hc i pins s σ H E I hf st hg
    subst hP hw hK
    obtain ⟨⟨old, he⟩, hit, n1, n2, n3⟩ := st
    obtain ⟨xs, hq, hx⟩ := hg
    obtain ⟨its, rv, p, hz⟩ := I.tuple hq
    obtain ⟨f0, f1, f2, f3, f4, f5⟩ := hf it (by simp)
    have hl := rv.length
    have hh : X.A.in1.handled = none := I.ok.hd hc
    have dr : Draws X.prog X.w X.A.in1 it [it, a] i (fun _ _ => True) (fun j h => j = i ∧ h.IsTupleIter it a i ∧ h.IsTuple a its.toArray) :=
      ⟨fun _ h z => let ⟨o, ho, _⟩ := z.2.1; ⟨o, ho⟩, fun _ h h2 z k => ⟨z.1, z.2.1.at fun o e => k it (by simp) o e, z.2.2.at fun o e => k a (by simp) o e⟩, fun j s Q E hj z _ => absurd z.1 (by omega), fun s Q E z hE => wpAny_nextOf_tuple_end hh z.2.1 z.2.2 (by simp; omega) hE⟩
    exact wpAny_pyNext_enum_endD dr he ⟨rfl, hit, p⟩ fun h' eb => ⟨rfl, I.turned (t' := s.toks) (fun b o hb q => eb b o hb q) f0 f1 f3 f4 f5⟩
  self := fun A i s Q E st h => let ⟨⟨_, he⟩, _⟩ := st; wpAny_pyIter_enum he h
def iEnumT (K : PySem.W.Frag) (ta : TA) : TI := fun σ H R => ta σ H fun vs H1 => ∃ a xs, vs = [.ref a] ∧ SqT K H1 a xs ∧ R (IteT K a) H1
theorem pi_enumT {X : Cx} {e : Expr} {ta : TA} {p pos tpos : Pos} {elts : List Expr} {kk : Nat} (hg : Gl X "enumerate") (hm : X.mg "enumerate" = none) (ha : PA X [e] ta) (hs : starEach [e] X.env = [(false, eval e X.env)] := by rfl) : PI X (.Tuple elts kk tpos) (.Call (.Name "enumerate" p) [e] [] pos) (iEnumT X.K ta) := by
  refine ⟨fun pins s σ H R I h => Call_ (ld_blt I hg hm boot_enumerate (PyProof.Rows.callWith_type1 (thn (ha.run pos pins s σ H _ I h) fun us s1 ⟨vs, H1, I1, r1, q1⟩ => ?_) hs rfl))⟩
  obtain ⟨a, xs, rfl, hq, q⟩ := q1
  obtain ⟨u, rfl, ru⟩ := vals1 r1
  cases ru
  obtain ⟨its, rv, p', hz⟩ := I1.tuple hq
  have ha : a < s1.heap.objs.size := p'.lt
  refine enumCall1 (begins_tuple a its.toArray) p' fun h' he hit hsz hk => wpAny_pyIter_enum he ?_
  have I2 : Inv X pins σ H1 { s1 with heap := h' } := I1.kept (t' := s1.toks) hk
  refine ⟨s1.heap.objs.size + 1, [s1.heap.objs.size + 1, s1.heap.objs.size], _, _, H1, rfl, I2, turn_enumT a (s1.heap.objs.size + 1) s1.heap.objs.size, ⟨⟨.none, he⟩, ⟨_, hit, rfl, rfl⟩, Nat.succ_ne_self _, Nat.ne_of_lt ha, Nat.ne_of_gt (Nat.lt_succ_of_lt ha)⟩, fun b hb => ?_, q⟩
  have hle : s1.heap.objs.size ≤ b := by
    rcases (by simpa using hb : b = s1.heap.objs.size + 1 ∨ b = s1.heap.objs.size) with rfl | rfl
    · exact Nat.le_add_right _ _
    · exact Nat.le_refl _
  exact I1.fpOk hle (I1.hok.fresh hle)
/-- enumerate(xs): a list, a tuple -/
def enumD (k : Nat) : List D → List D
  | [] => []
  | d :: ds => .tup false [.int (k : Nat), d] :: enumD (k + 1) ds
theorem enumD_len : ∀ (ds : List D) (k : Nat), (enumD k ds).length = ds.length
  | [], _ => rfl
  | _ :: ds, k => by simp [enumD, enumD_len ds]
theorem enumD_get : ∀ (ds : List D) (k i : Nat) (d : D), ds[i]? = some d → (enumD k ds)[i]? = some (.tup false [.int ((k + i : Nat) : Int), d])
  | [], _, _, _, h => by simp at h
  | e :: ds, k, 0, d, h => by simp at h; subst h; rfl
  | e :: ds, k, i + 1, d, h => by
    have z := enumD_get ds (k + 1) i d (by simpa using h)
    rw [show k + 1 + i = k + (i + 1) by omega] at z
    simpa [enumD] using z
def dEnum : List D → M (List D)
  | [.lst xs] => pure (enumD 0 xs)
  | [.tup _ xs] => pure (enumD 0 xs)
  | _ => M.stuck
section
variable {X : Cx} {Ω : Om} {F : Fr} {ρ : Env'} {S : DS} {G H : Hp} {e : Expr}
theorem dw_pair {J : It} {vs : List V} {ds : List D} (r : Reps Ω G vs ds) (go : ∀ i H, Same G H → i < ds.length → J.go i H) (stop : ∀ H, Same G H → J.stop ds.length H)
    (yl : ∀ i H v H', Same G H → i < ds.length → J.yld i H v H' → ∃ T x, v = .ref T ∧ H T = none ∧ H' = upd H T (.tup [.int (i : Nat), x]) ∧ vs[i]? = some x) : DW Ω J (enumD 0 ds) G := by
  refine ⟨fun i H s hi => go i H s (by rwa [enumD_len] at hi), fun H s => by rw [enumD_len]; exact stop H s, fun i H v H' s hi y => ?_⟩
  rw [enumD_len] at hi
  obtain ⟨T, x, rfl, hT, rfl, hx⟩ := yl i H v H' s hi y
  obtain ⟨d, hd, rd⟩ := r.get hx
  refine ⟨_, enumD_get ds 0 i d hd, fun S G1 w1 s1 => ⟨upd G1 T (.tup [.int (i : Nat), x]), w1.new hT _, GX.new hT _, HX.new hT _, ?_⟩⟩
  rw [Nat.zero_add]
  exact .tup (x := false) upd_same ((Reps.cons (.int _) (.cons (rd.same s1) .nil)).same (same_upd (w1.free hT)))
theorem piEnum {elts : List Expr} {kk : Nat} {ms : M (List D)} {p pos tpos : Pos} (hm : X.mg "enumerate" = none) (ha : PA X [e] (tA Ω F ρ ms)) (hg : Gl X "enumerate" := by rfl) (hs : starEach [e] X.env = [(false, eval e X.env)] := by rfl) :
    PI X (.Tuple elts kk tpos) (.Call (.Name "enumerate" p) [e] [] pos) (tI Ω F ρ (ms >>= dEnum)) :=
  PIi (PIor (pi_enum hg hm ha hs) (pi_enumT hg hm ha hs)) fun σ H R ⟨S, G, I, w⟩ => by
    rw [wp_bind] at w
    cases hms : ms S with
    | stuck => unfold M.wp at w; rw [hms] at w; exact w.elim
    | err x S' =>
      refine .inl ⟨S, G, I, ?_⟩
      unfold M.wp at w ⊢
      rw [hms] at w ⊢
      exact w
    | ok ds S' =>
      unfold M.wp at w
      rw [hms] at w
      have w : (dEnum ds).wp _ (Er Ω F) S' := w
      have go : ∀ {Q : List V → Hp → Prop}, (∀ vs G' H', Wd Ω S' G' H' → GX G H G' → HX Ω H H' → Reps Ω G' vs ds → Q vs H') → tA Ω F ρ ms σ H Q := fun {Q} q => ⟨S, G, I, by
        unfold M.wp
        rw [hms]
        exact fun G' H' vs w' g' h' r' => q vs G' H' w' g' h' r'⟩
      unfold dEnum at w
      split at w
      · refine .inl (go fun vs G' H' w' g' h' r' => ?_)
        cases r' with
        | cons r t =>
          cases t
          cases r with
          | @lst a us _ q r =>
            refine ⟨a, us, rfl, w'.lst q, w G' H' _ w' g' h' (dw_pair r (fun i H s hi => ?_) (fun H s => ⟨us, .inl (.inl (s _ _ q)), Nat.le_of_eq r.length⟩) fun i H v H' s hi ⟨T, x, h1, h2, h3, h4⟩ => ⟨T, x, h1, h2, h3, h4 us (.inl (.inl (s _ _ q)))⟩)⟩
            exact ⟨us, us[i]'(by rw [r.length]; exact hi), .inl (.inl (s _ _ q)), by rw [List.getElem?_eq_getElem]⟩
      · refine .inr (go fun vs G' H' w' g' h' r' => ?_)
        cases r' with
        | cons r t =>
          cases t
          cases r with
          | @tup a x us _ q r =>
            have sq : ∀ H, Same G' H → SqT X.K H a us := fun H s => .inl ((RdLe.of s).rd _ _ q.rd)
            refine ⟨a, us, rfl, w'.tup q, w G' H' _ w' g' h' (dw_pair r (fun i H s hi => ?_) (fun H s => ⟨us, sq H s, Nat.le_of_eq r.length⟩) fun i H v H' s hi ⟨T, x, h1, h2, h3, h4⟩ => ⟨T, x, h1, h2, h3, h4 us (sq H s)⟩)⟩
            exact ⟨us, us[i]'(by rw [r.length]; exact hi), sq H s, by rw [List.getElem?_eq_getElem]⟩
      · exact w.elim
end
end DL
set_option Elab.async false
set_option linter.all false
set_option maxRecDepth 100000
set_option autoImplicit false
/-! DLf: defs that are run where nothing is being shown (no repr under way). -/
namespace DL
open PySem PySem.Spec PyProof.Rows L2

/-- what a def does wherever no repr is under way -/
structure FnG (P : Program) (w : World) (K : PySem.W.Frag) (mg : Str → Option Value) (base : Heap) (k : Nat) (f : Addr) (fd : FuncData) (ps : List Str) (sp : Sp) : Prop where
  len : ∀ vs H Q E, sp vs H Q E → vs.length = ps.length
  go : ∀ (A : Around) (outer : List Env) (s : Shared) (H : Hp) (ar : Args) (us : List Value) (vs : List V) (Q : VK) (E : XK), A.guards = some [] → Room k A → Env0 P w K mg base A outer s H →
    BindsTo s fd ar (ps.zip us) → Vals vs us → sp vs H Q E → codeAny (model P w) A (.call (.ref f) ar) (CR CX0 outer P w H s Q E) s
section
variable {P : Program} {w : World} {K : PySem.W.Frag} {mg : Str → Option Value} {base : Heap}
theorem fnG_of {x qual : Str} {st : Stmt} {f : Addr} {fd : FuncData} {N ps : List Str} {k : Nat} {sp : Sp} (Fn : Fun K x qual st f fd) (Sc : FnScope N ps (defScope st)) (len : ∀ vs H Q E, sp vs H Q E → vs.length = ps.length)
    (hb : ∀ (cdv : Value) (A : Around) (outer : List Env) (s : Shared) (H : Hp) (vs : List V) (Q : VK) (E : XK), A.guards = some [] → Room k (A.deeper (envOfC qual (defScope st) s.heap.objs.size f cdv)) → sp vs H Q E →
      ∃ t, PSs (cxOf CX0 P w K mg base N qual (defScope st) f cdv A outer s H E).nox (defBody st) t ∧ t { nx := fun _ H' => Q .non H', rt := Q } (L2.start N vs) H) : FnG P w K mg base (k + 1) f fd ps sp := by
  obtain ⟨oc, od, kV, doc, pm, an, cdv, ct, osl, rfl, lk, hcd⟩ := Fn.ex
  refine ⟨len, fun A outer s H ar us vs Q E hg hr e0 hbd r hsp => ?_⟩
  have nus := len _ _ _ _ hsp
  have Kin : K.In s.heap := e0.mod.kin.keeps fun b o e => (e0.bs b o e).1
  have noL : s.heap.NoLimit := e0.mod.nolimit.keeps fun b o e => (e0.bs b o e).1
  refine codeAny_call_function hr.depth (Kin _ _ lk) rfl Sc.co Sc.gen rfl (PySem.W.codeRec_of Kin hcd) (hbd _ _ _ _ ?_)
  refine wpAny_newFunctionEnv_cells Sc.kind (fun ⟨n, v⟩ hy => ?_) fun env he s1 x => ?_
  · rcases Sc.par n (List.of_mem_zip hy).1 with q | q
    · exact .inl q
    · exact .inr ⟨q, PySem.W.cellsFrom_some _ _ _ (.inl q)⟩
  subst he
  refine ⟨noL.keeps x.toInCall.keep, codeAny_func ?_⟩
  obtain ⟨t, ht, hq⟩ := hb cdv A outer s H vs Q E hg (hr.deeper _) hsp
  have J0 := inv_start (CX := CX0) (E := E) Sc hr.hd e0 nus r x
  refine wpAny_mono (ht.nox.run [] s1 (L2.start N vs) H _ J0 hq) (fun fl s' hs => ?_) fun e s' hs => hs
  cases fl with
  | ret u => obtain ⟨v, σ', H', J, rv, q⟩ := hs; exact ⟨v, H', J.os, J.bare, J.base, J.hok, rv, q⟩
  | next => obtain ⟨σ', H', J, q⟩ := hs; exact ⟨V.non, H', J.os, J.bare, J.base, J.hok, rfl, q⟩
  | brk => obtain ⟨_, _, _, q⟩ := hs; exact q.elim
  | cont => obtain ⟨_, _, _, q⟩ := hs; exact q.elim
/-- a def by its body, where no repr is under way -/
theorem fnDG {Ω : Om} {x qual : Str} {st : Stmt} {f : Addr} {fd : FuncData} {N ps : List Str} {k n : Nat} {m : List D → M D} (Fn : Fun Ω.K x qual st f fd) (Sc : FnScope N ps (defScope st)) (hn : ps.length = n)
    (hbody : ∀ (cdv : Value) (A : Around) (outer : List Env) (s : Shared) (H : Hp) (E : XK) (G : Hp) (ds : List D), A.guards = some [] → Room k (A.deeper (envOfC qual (defScope st) s.heap.objs.size f cdv)) → ds.length = n →
      ∃ mb : M (Fl Unit Unit), PSs (cxOf CX0 P w Ω.K mg base N qual (defScope st) f cdv A outer s H E).nox (defBody st) (tS Ω ⟨G, H, fun _ _ _ => False⟩ (envOf N ds) mb (fun _ => List.replicate N.length .no) (fun _ => [])) ∧ Fl.fin mb = m ds) :
    FnG P w Ω.K mg base (k + 1) f fd ps (spN Ω n m) := by
  refine fnG_of Fn Sc (fun vs H Q E h => h.1.trans hn.symm) fun cdv A outer s H vs Q E hg hr ⟨hl, S, G, ds, wd, r, h⟩ => ?_
  obtain ⟨mb, hp, e⟩ := hbody cdv A outer s H E G ds hg hr (r.length.symm.trans hl)
  refine ⟨_, hp, S, G, rinv_start wd r, ?_⟩
  rw [← e] at h
  unfold Fl.fin at h
  rw [wp_bind] at h
  refine h.mono (fun fl S' h => ?_) fun _ _ z => z.elim
  cases fl with
  | nx b => exact fun G' H' σ' I' s' => h G' H' .non I'.f.w I'.f.g I'.f.h .non
  | rt d => exact fun G' H' v f' r' => h G' H' v f'.w f'.g f'.h r'
  | bk c => exact h.elim
  | ct c => exact h.elim
end
section
variable {X : Cx} {Ω : Om} {F : Fr} {ρ : Env'} {pos : Pos} {k n : Nat} {f : Addr} {fd : FuncData} {ps : List Str} {m : List D → M D} {x : Str} {p : Pos} {a : Expr} {es : List Expr} {ms : M (List D)}
/-- f(a, ..), f a def that raises nothing, where no repr is under way -/
theorem pdCallG (hA : X.A.guards = some []) (G : FnG X.prog X.w X.K X.mg X.base k f fd ps (spN Ω n m)) (ar : ArOk n m) (hr : Room k X.A) (hm : X.mg x = some (.ref f)) (hk : PySem.W.keepIn X.K (.ref f) = true) (hb : Binds X.K fd ps [])
    (ha : PA X (a :: es) (tA Ω F ρ ms)) (hg : Gl X x := by rfl) (hdb : (x == ("__debug__" : Str)) = false := by decide) (he : starEach (a :: es) X.env = (false, eval a X.env) :: starEach es X.env := by rfl) (hpl : (backTo pos (starEach es X.env)).any (·.1) = false := by rfl) :
    PE X (.Call (.Name x p) (a :: es) [] pos) (tD Ω F ρ (ms >>= fun ds => noErr (m ds))) := ⟨fun pins s σ H Q I ⟨S, G0, IR, h⟩ => by
  refine wpAny_Call_Name_kw (ld_glob I hg hm ?_ hdb)
  have key : tA Ω F ρ ms σ H fun zs H1 => spN Ω n m zs H1 Q E0 := (tG.bindI (R := RA Ω) IR h).mono fun vs H1 ⟨S1, G1, ds, I1, s1, r, h1⟩ => by
    rw [wp_noErr] at h1
    exact ⟨r.length.trans (ar.len h1), S1, G1, ds, I1.f.w, r, h1⟩
  refine PySem.W.callWith_K (h₀ := X.base) I.ok.mod.kin hk (thn (ha.run pos pins s σ H _ I key) fun us s1 ⟨vs, H1, I1, r, q⟩ => ⟨I1.kIn, ?_⟩) he hpl
  have hl : us.length = ps.length := by rw [← r.length]; exact G.len _ _ _ _ q
  have bs := hb s1 us I1.kIn (by simpa using hl)
  rw [List.append_nil] at bs
  refine wpAny_call (codeAny_mono (G.go X.A X.stack s1 H1 ⟨us, []⟩ us vs Q E0 hA hr I1.env0 bs r q) fun r s' hq => ?_)
  cases r with
  | error e => exact hq.elim
  | ok fl =>
    cases fl with
    | ret u => exact I1.after hq
    | next => exact False.elim hq
    | brk => exact False.elim hq
    | cont => exact False.elim hq⟩
end
end DL
set_option Elab.async false
set_option linter.all false
set_option maxRecDepth 100000
set_option autoImplicit false
/-! DLg: texts' methods, repr, a value among a constant tuple, tuple times one. -/
namespace DL
open PySem PySem.Spec PyProof.Rows L2

/-! ### methods of texts -/
def asS : D → M Str
  | .str z => pure z
  | _ => M.stuck
def rMS (Ω : Om) (F : Fr) (g : Str → List D → M D) : V → List V → Hp → VK → Prop := fun x xs H Q => ∃ z S G ds, x = .str z ∧ Fx Ω F S G H ∧ Reps Ω G xs ds ∧ (g z ds).wp (Pg Ω (RD Ω) G H Q) (Er Ω F) S
section
variable {X : Cx} {Ω : Om} {F : Fr} {ρ : Env'} {S : DS} {G H : Hp} {o e : Expr} {es : List Expr} {mo : M D} {ms : M (List D)} {g : Str → List D → M D} {name : Str} {id : String} {ap cp : Pos}
theorem pdMS0 (sl : Slot "str" name id) (ty : typeOf (.builtin id) = pure (.type "method_descriptor")) (hm : MtR X id (rMS Ω F g)) (ho : PE X o (tD Ω F ρ mo))
    (hbase : attributeBase o name X.env (eval o X.env) = eval o X.env := by rfl) (hline : (ap.endLine == cp.line) = true := by rfl) : PE X (.Call (.Attribute o name ap) [] [] cp) (tD Ω F ρ (mo >>= asS >>= fun z => g z [])) :=
  PEi (pe_bm0 PySem.F.plainAttrs_str sl ty hm ho hbase hline) fun σ H Q ⟨S, G, I, w⟩ => by
    rw [bind_assoc] at w
    refine (tG.bindI (R := RD Ω) I w).mono fun x H1 ⟨S1, G1, d, I1, s1, r, w⟩ => ?_
    cases d with
    | str z => cases r; exact ⟨rfl, z, S1, G1, [], rfl, I1.f, .nil, w⟩
    | _ => exact w.elim
theorem pdMS (sl : Slot "str" name id) (ty : typeOf (.builtin id) = pure (.type "method_descriptor")) (hm : MtR X id (rMS Ω F g)) (ho : PE X o (tD Ω F ρ mo)) (ha : PA X (e :: es) (tA Ω F ρ ms))
    (hbase : attributeBase o name X.env (eval o X.env) = eval o X.env := by rfl)
    (hfew : ((backTo cp (starEach (e :: es) X.env)).all (fun x => !x.1) && (backToKw cp (keywordEach [] X.env)).all (fun x => x.1.isSome) && decide ((e :: es).length + ([] : List Keyword).length + (if ([] : List Keyword).isEmpty then 0 else 1) < 30)) = true := by rfl)
    (hline : (ap.endLine == cp.line) = true := by rfl) (hs : starEach (e :: es) X.env = (false, eval e X.env) :: starEach es X.env := by rfl) (hplain : (backTo cp (starEach es X.env)).any (·.1) = false := by rfl) :
    PE X (.Call (.Attribute o name ap) (e :: es) [] cp) (tD Ω F ρ (mo >>= asS >>= fun z => ms >>= fun ds => g z ds)) :=
  PEi (pe_bm PySem.F.plainAttrs_str sl ty hm ho ha hbase hfew hline hs hplain) fun σ H Q ⟨S, G, I, w⟩ => by
    rw [bind_assoc] at w
    refine (tG.bindI (R := RD Ω) I w).mono fun x H1 ⟨S1, G1, d, I1, s1, r, w⟩ => ?_
    cases d with
    | str z =>
      cases r
      refine ⟨rfl, (tG.bindI (R := RA Ω) I1 w).mono fun xs H2 ⟨S2, G2, ds, I2, s2, r2, w⟩ => ⟨z, S2, G2, ds, rfl, I2.f, r2, w⟩⟩
    | _ => exact w.elim
def dSplit (z : Str) : List D → M D
  | [.str b] => gd ((b.length == 0) = false ∧ z.length + 2 ≤ lim) (pure (.lst ((Txt.split z b).map .str)))
  | _ => M.stuck
def dUpper (z : Str) : List D → M D
  | [] => gd (z.length ≤ 5592405) (pure (.str (Txt.upper z)))
  | _ => M.stuck
theorem MtRi {r r' : V → List V → Hp → VK → Prop} (h : MtR X id r) (i : ∀ x xs H Q, r' x xs H Q → r x xs H Q) : MtR X id r' := fun pins s σ H x xs v us Q I rx rs q => h pins s σ H x xs v us Q I rx rs (i _ _ _ _ q)
theorem dm_split : MtR X "str.split" (rMS Ω F dSplit) := MtRi mt_split fun x xs H Q ⟨z, S, G, ds, ex, f, r, h⟩ => by
  subst ex
  unfold dSplit at h
  split at h
  · rw [wp_gd, lim_eq] at h
    cases r with
    | cons r t =>
      cases r; cases t
      exact ⟨z, _, rfl, rfl, h.1.1, h.1.2, fun p hp => Pg.newO f h.2 hp (.newL f.w hp (reps_strs _))⟩
  · exact h.elim
theorem dm_upper : MtR X "str.upper" (rMS Ω F dUpper) := MtRi mt_upper fun x xs H Q ⟨z, S, G, ds, ex, f, r, h⟩ => by
  subst ex
  unfold dUpper at h
  split at h
  · rw [wp_gd] at h
    cases r
    exact ⟨z, rfl, rfl, h.1, Pg.here f h.2 (.str _)⟩
  · exact h.elim
theorem pdSplit (ho : PE X o (tD Ω F ρ mo)) (ha : PA X [e] (tA Ω F ρ ms)) (hbase : attributeBase o "split" X.env (eval o X.env) = eval o X.env := by rfl)
    (hfew : ((backTo cp (starEach [e] X.env)).all (fun x => !x.1) && (backToKw cp (keywordEach [] X.env)).all (fun x => x.1.isSome) && decide ([e].length + ([] : List Keyword).length + (if ([] : List Keyword).isEmpty then 0 else 1) < 30)) = true := by rfl)
    (hline : (ap.endLine == cp.line) = true := by rfl) (hs : starEach [e] X.env = (false, eval e X.env) :: starEach [] X.env := by rfl) (hplain : (backTo cp (starEach [] X.env)).any (·.1) = false := by rfl) :
    PE X (.Call (.Attribute o "split" ap) [e] [] cp) (tD Ω F ρ (mo >>= asS >>= fun z => ms >>= fun ds => dSplit z ds)) := pdMS PySem.F.slot_str_split PySem.F.type_str_split dm_split ho ha hbase hfew hline hs hplain
theorem pdUpper (ho : PE X o (tD Ω F ρ mo)) (hbase : attributeBase o "upper" X.env (eval o X.env) = eval o X.env := by rfl) (hline : (ap.endLine == cp.line) = true := by rfl) :
    PE X (.Call (.Attribute o "upper" ap) [] [] cp) (tD Ω F ρ (mo >>= asS >>= fun z => dUpper z [])) := pdMS0 PySem.F.slot_str_upper PySem.F.type_str_upper dm_upper ho hbase hline

/-! ### e in NAME, NAME a constant tuple of the module -/
def rInK (Ω : Om) (F : Fr) (neg : Bool) (a : Addr) (ds : List D) : R2 := fun x y H Q => y = .ref a ∧ ∃ S G dx, Fx Ω F S G H ∧ Rep Ω G x dx ∧ (if neg then dNotIn dx (.tup false ds) else dIn dx (.tup false ds)).wp (Pg Ω (RD Ω) G H Q) (Er Ω F) S
theorem opInK {a : Addr} {ds : List D} {neg : Bool} (hK : X.K = Ω.K) (hu : X.A.units + 65 < cLine) (hd : Dp Ω.K (fun _ => none) (.ref a) (D.tup false ds).py) : OpR X (compareOp (if neg then .NotIn else .In)) (rInK Ω F neg a ds) := by
  intro pins s σ H x y v u Q I rx ry ⟨ey, S, G, dx, f, qx, h⟩
  subst ey
  have hD : Dp Ω.K H (.ref a) (D.tup false ds).py := Dp.same (H := fun _ => none) (fun b o z => nomatch z) _ _ hd
  have key : ∀ b : Bool, (gd (dx.sh = true ∧ ds.all D.sh = true) (pure (.bl (if neg then !(D.anyEqv dx ds) else D.anyEqv dx ds))) : M D).wp (Pg Ω (RD Ω) G H Q) (Er Ω F) S → wpAny (model X.prog X.w) X.A (compareOp (if neg then .NotIn else .In) v u) (EP X pins σ Q) X.xe s := fun _ h => by
    rw [wp_gd] at h
    obtain ⟨⟨h1, h2⟩, h⟩ := h
    obtain ⟨as, r1⟩ := Dp.reads I _ x v (hK ▸ qx.dpH (sh_pl h1) f.w) rx
    obtain ⟨bs, r2⟩ := Dp.reads I _ _ u (hK ▸ hD) ry
    exact in_reads (neg := neg) hu ⟨_, .inl ⟨_, rfl⟩, h1, h2, rfl⟩ r2 r1 ⟨.bl _, H, I, rfl, Pg.here f h (.bl _)⟩
  refine key true ?_
  cases neg
  · have h : (dIn dx (.tup false ds)).wp (Pg Ω (RD Ω) G H Q) (Er Ω F) S := h
    unfold dIn dInB at h
    rw [wp_bind, wp_gd] at h
    rw [wp_gd]
    exact h
  · have h : (dNotIn dx (.tup false ds)).wp (Pg Ω (RD Ω) G H Q) (Er Ω F) S := h
    unfold dNotIn dInB at h
    rw [wp_bind, wp_gd] at h
    rw [wp_gd]
    exact h
theorem pdInK {nm : Str} {a : Addr} {ds : List D} {me : M D} {p pos : Pos} {neg : Bool} (hK : X.K = Ω.K) (hu : X.A.units + 65 < cLine) (he : PE X e (tD Ω F ρ me)) (hg : Gl X nm) (hm : X.mg nm = some (.ref a)) (hd : Dp Ω.K (fun _ => none) (.ref a) (D.tup false ds).py) (hdb : (nm == ("__debug__" : Str)) = false := by decide)
    (hmk : behindInMarks (if neg then .NotIn else .In) (.Name nm p) = false := by rfl) : PE X (.Compare e [if neg then .NotIn else .In] [.Name nm p] pos) (tD Ω F ρ (me >>= fun d => if neg then dNotIn d (.tup false ds) else dIn d (.tup false ds))) :=
  PEi (pe_cmpR (opInK hK hu hd) he (pe_glob hg hm (show RelV (.ref a) (.ref a) from rfl) hdb) hmk) fun σ H Q ⟨S, G, I, w⟩ =>
    (tG.bindI (R := RD Ω) I w).mono fun x H1 ⟨S1, G1, d, I1, s1, r, w⟩ => ⟨rfl, S1, G1, d, I1.f, r, w⟩
end

end DL
set_option Elab.async false
set_option linter.all false
set_option maxRecDepth 100000
set_option autoImplicit false
/-! DLh: repr of lists and tuples. -/
namespace DL
open PySem PySem.Spec PyProof.Rows L2

mutual
/-- how long the text of data is at most; all texts, ints of that kind -/
def D.rl : D → Nat
  | .non => 4
  | .bl _ => 5
  | .int _ => 70
  | .str x => 10 * x.length + 2
  | .tup _ xs => D.rls xs + 5
  | .lst xs => D.rls xs + 5
  | _ => 0
def D.rls : List D → Nat
  | [] => 0
  | d :: ds => D.rl d + 2 + D.rls ds
end
mutual
def D.rok : D → Bool
  | .non => true
  | .bl _ => true
  | .int i => decide (i.natAbs < 2 ^ 64)
  | .str x => x.cps.toList.all fun c => decide (c < 16 ^ 8)
  | .tup _ xs => D.roks xs
  | .lst xs => D.roks xs
  | _ => false
def D.roks : List D → Bool
  | [] => true
  | d :: ds => D.rok d && D.roks ds
end
theorem textFrom_le : ∀ (ts : List Str) (k : Nat) (acc : Str), (textFrom k acc ts).length ≤ acc.length + piled ts
  | [], k, acc => by show acc.length ≤ _; rw [piled_nil]; omega
  | t :: ts, k, acc => by
    have ih := textFrom_le ts (k + 1) (acc ++ (if k > 0 then ", " else "" : String) ++ t)
    show (textFrom (k + 1) _ ts).length ≤ _
    have e : (acc ++ (if k > 0 then ", " else "" : String) ++ t).length ≤ acc.length + 2 + t.length := by
      rw [strLen_append, strLen_append]
      have : (Str.ofString (if k > 0 then ", " else "" : String)).length ≤ 2 := by split <;> decide
      omega
    rw [piled_cons]
    omega
theorem listText_le (ts : List Str) : (listText ts).length ≤ piled ts + 2 := by
  unfold listText
  rw [strLen_append]
  have h := textFrom_le ts 0 ("[" : String)
  have e1 : (("[" : String) : Str).length = 1 := rfl
  have e2 : (("]" : String) : Str).length = 1 := rfl
  rw [e1] at h
  rw [e2]
  omega
theorem tupleText_le (ts : List Str) : (tupleText ts).length ≤ piled ts + 3 := by
  unfold tupleText
  rw [strLen_append, strLen_append]
  have e1 : (("(" : String) : Str).length = 1 := rfl
  have e2 : (Str.ofString (if ts.length == 1 then ",)" else ")" : String)).length ≤ 2 := by split <;> decide
  rw [e1]
  by_cases h : ts = []
  · subst h
    have : (Str.join (", " : String) []).length = 0 := rfl
    omega
  · have := join_length_add ts h
    omega
theorem int_text_le {i : Int} (h : i.natAbs < 2 ^ 64) : (Str.ofString (toString i)).length ≤ 70 := by
  rw [PySem.ofString_length]
  cases i with
  | ofNat n =>
    have : (Nat.repr n).length ≤ 64 := nat_repr_length_le (by decide) h
    show (Nat.repr n).length ≤ 70
    omega
  | negSucc n =>
    have : (Nat.repr (n + 1)).length ≤ 64 := nat_repr_length_le (by decide) h
    have e : toString (Int.negSucc n) = "-" ++ Nat.repr (n + 1) := rfl
    rw [e, String.length_append]
    have : ("-" : String).length = 1 := rfl
    omega
mutual
theorem shown_le : ∀ d : D, d.rok = true → d.py.shown.length ≤ d.rl ∧ d.py.showable = true ∧ d.py.hasDict = false ∧ d.py.plain = true
  | .non, _ => by simp only [D.py, PyData.shown, D.rl, PyData.showable, PyData.hasDict, PyData.plain]; exact ⟨by decide, by simp, by simp, by simp⟩
  | .bl b, _ => by simp only [D.py, PyData.shown, D.rl, PyData.showable, PyData.hasDict, PyData.plain]; exact ⟨by cases b <;> decide, by simp, by simp, by simp⟩
  | .int i, h => by
    have h : i.natAbs < 2 ^ 64 := by simpa [D.rok] using h
    simp only [D.py, PyData.shown, D.rl, PyData.showable, PyData.hasDict, PyData.plain]
    refine ⟨int_text_le h, decide_eq_true ?_, by simp, by simp⟩
    by_cases h0 : i.natAbs = 0
    · rw [h0]; decide
    · exact Nat.lt_trans ((Nat.log2_lt h0).mpr h) (by decide)
  | .str x, h => by
    simp only [D.py, PyData.shown, D.rl, PyData.showable, PyData.hasDict, PyData.plain]
    refine ⟨StrLaws.reprText_len x fun c hc => ?_, by simp, by simp, by simp⟩
    have h : x.cps.toList.all (fun c => decide (c < 16 ^ 8)) = true := h
    rw [List.all_eq_true] at h
    simpa using h c hc
  | .tup _ xs, h => by
    obtain ⟨h1, h2, h3, h4⟩ := showns_le xs h
    simp only [D.py, PyData.shown, D.rl, PyData.showable, PyData.hasDict, PyData.plain]
    exact ⟨by have := tupleText_le (PyData.shownAll (D.pys xs)); omega, h2, h3, h4⟩
  | .lst xs, h => by
    obtain ⟨h1, h2, h3, h4⟩ := showns_le xs h
    simp only [D.py, PyData.shown, D.rl, PyData.showable, PyData.hasDict, PyData.plain]
    exact ⟨by have := listText_le (PyData.shownAll (D.pys xs)); omega, h2, h3, h4⟩
  | .dct _ _ _, h => nomatch h
  | .st, h => nomatch h
  | .opq _, h => nomatch h
theorem showns_le : ∀ ds : List D, D.roks ds = true → piled (PyData.shownAll (D.pys ds)) ≤ D.rls ds ∧ PyData.showableAll (D.pys ds) = true ∧ PyData.hasDictAll (D.pys ds) = false ∧ PyData.plainAll (D.pys ds) = true
  | [], _ => by simp only [D.pys, PyData.shownAll, PyData.showableAll, PyData.hasDictAll, PyData.plainAll, piled_nil]; exact ⟨Nat.zero_le _, by simp, by simp, by simp⟩
  | d :: ds, h => by
    have h : d.rok = true ∧ D.roks ds = true := by simpa [D.roks] using h
    obtain ⟨a1, a2, a3, a4⟩ := shown_le d h.1
    obtain ⟨b1, b2, b3, b4⟩ := showns_le ds h.2
    simp only [D.pys, PyData.shownAll, PyData.showableAll, PyData.hasDictAll, PyData.plainAll, piled_cons, D.rls, a2, a3, a4, b2, b3, b4, Bool.and_self, Bool.or_self]
    exact ⟨by omega, by simp, by simp, by simp⟩
end
/-- repr(x) of a list, a tuple -/
def dRepr : D → M D
  | .lst xs => gd ((D.lst xs).rok = true ∧ (D.lst xs).sh = true ∧ (D.lst xs).rl ≤ lim) (pure (.str (D.lst xs).py.shown))
  | .tup x xs => gd ((D.tup x xs).rok = true ∧ (D.tup x xs).sh = true ∧ (D.tup x xs).rl ≤ lim) (pure (.str (D.tup x xs).py.shown))
  | _ => M.stuck
section
variable {X : Cx} {Ω : Om} {F : Fr} {ρ : Env'} {S : DS} {G H : Hp}
theorem dc_repr (hK : X.K = Ω.K) (hg : X.A.guards = some []) (hu : X.A.units + 65 < cLine) : CallR X (.builtin "repr") (rDl Ω F (ar1 dRepr)) := by
  intro pins s σ H xs us Q I r h0
  obtain ⟨x, S, G, d, rfl, f, rx, h⟩ := rDl1 h0
  obtain ⟨u, rfl, ru⟩ := vals1 r
  have key : ∀ {a : Addr}, x = .ref a → d.rok = true → d.sh = true → d.rl ≤ lim → (pure (.str d.py.shown) : M D).wp (Pg Ω (RD Ω) G H Q) (Er Ω F) S → wpAny (model X.prog X.w) X.A (call (.builtin "repr") [u]) (EP X pins σ Q) X.xe s := fun {a} e h1 h2 h3 h => by
    subst e
    cases ru
    obtain ⟨k1, k2, k3, k4⟩ := shown_le d h1
    obtain ⟨as, r1⟩ := Dp.reads I _ (.ref a) (.ref a) (hK ▸ rx.dpH k4 f.w) (show RelV (.ref a) (.ref a) from rfl)
    have hd := sh_dp h2
    refine repr_of_reads' r1 k2 (fun e => by rw [k3] at e; cases e) hg (by omega) (fun b o e => e) (fun h' t tk kp => ?_) (by rw [← lim_eq]; omega)
    exact ⟨.str _, H, I.kept (t' := tk) kp, ⟨t, rfl⟩, Pg.here f h (.str _)⟩
  unfold dRepr at h
  split at h
  · rw [wp_gd] at h
    cases rx with
    | lst q rs => exact key rfl h.1.1 h.1.2.1 h.1.2.2 h.2
  · rw [wp_gd] at h
    cases rx with
    | tup q rs => exact key rfl h.1.1 h.1.2.1 h.1.2.2 h.2
  · exact h.elim
end
end DL
set_option Elab.async false
set_option linter.all false
set_option maxRecDepth 100000
set_option autoImplicit false
/-! DLi: the law's state of draws: its fields read and written; %, //, ** of ints. -/
namespace DL
open PySem PySem.Spec PyProof.Rows L2

def dMod : D → D → M D
  | .int i, .int j => gd (0 < j) (pure (.int (i % j)))
  | _, _ => M.stuck
def dFdiv : D → D → M D
  | .int i, .int j => gd (0 < j ∧ j < 1073741824) (pure (.int (i / j)))
  | _, _ => M.stuck
def dPow : D → D → M D
  | .int i, .int j => gd (0 ≤ j ∧ j ≤ 1000000 ∧ i.natAbs < 2 ^ 64) (pure (.int (i ^ j.toNat)))
  | _, _ => M.stuck
section
variable {X : Cx} {Ω : Om} {F : Fr} {ρ : Env'} {S : DS} {G H : Hp} {a b : Expr} {ma mb : M D} {pos : Pos}
theorem dop_mod : OpR X (binaryOp .Mod) (rD2 Ω F dMod) := by
  refine OpRi op_mod fun x y H Q ⟨S, G, dx, dy, f, rx, ry, h⟩ => ?_
  unfold dMod at h
  split at h
  · cases rx; cases ry
    rw [wp_gd] at h
    exact ⟨_, _, rfl, rfl, h.1, Pg.here f h.2 (.int _)⟩
  · exact h.elim
theorem dop_fdiv : OpR X (binaryOp .FloorDiv) (rD2 Ω F dFdiv) := by
  refine OpRi op_fdiv fun x y H Q ⟨S, G, dx, dy, f, rx, ry, h⟩ => ?_
  unfold dFdiv at h
  split at h
  · cases rx; cases ry
    rw [wp_gd] at h
    exact ⟨_, _, rfl, rfl, ⟨h.1.1, h.1.2⟩, Pg.here f h.2 (.int _)⟩
  · exact h.elim
theorem dop_pow : OpR X (binaryOp .Pow) (rD2 Ω F dPow) := by
  refine OpRi op_pow fun x y H Q ⟨S, G, dx, dy, f, rx, ry, h⟩ => ?_
  unfold dPow at h
  split at h
  · cases rx; cases ry
    rw [wp_gd] at h
    exact ⟨_, _, rfl, rfl, ⟨h.1.1, h.1.2.1, h.1.2.2⟩, Pg.here f h.2 (.int _)⟩
  · exact h.elim
theorem pdMod (ha : PE X a (tD Ω F ρ ma)) (hb : PE X b (tD Ω F ρ mb)) : PE X (.BinOp a .Mod b pos) (tD Ω F ρ (op2 dMod ma mb)) := PEi (pe_op dop_mod ha hb) fun σ H Q h => tOp_of h
theorem pdFdiv (ha : PE X a (tD Ω F ρ ma)) (hb : PE X b (tD Ω F ρ mb)) : PE X (.BinOp a .FloorDiv b pos) (tD Ω F ρ (op2 dFdiv ma mb)) := PEi (pe_op dop_fdiv ha hb) fun σ H Q h => tOp_of h
theorem pdPow (ha : PE X a (tD Ω F ρ ma)) (hb : PE X b (tD Ω F ρ mb)) : PE X (.BinOp a .Pow b pos) (tD Ω F ρ (op2 dPow ma mb)) := PEi (pe_op dop_pow ha hb) fun σ H Q h => tOp_of h

/-! ### the state -/
def getTurn : M D := fun s => .ok (.int s.turn) s
def getRest : M D := fun s => .ok (.int s.rest) s
def putTurn (d : D) : M Unit := fun s => match d with
  | .int i => .ok () { s with turn := i }
  | _ => .stuck
def putRest (d : D) : M Unit := fun s => match d with
  | .int i => .ok () { s with rest := i }
  | _ => .stuck
def popGreat : M D := fun s => match s.great with
  | g :: gs => .ok (.int g) { s with great := gs }
  | [] => .stuck
def anyGreat : M Bool := fun s => .ok (!s.great.isEmpty) s
abbrev stKeys (Ω : Om) (S : DS) : List (Key × V) := [(.inr "great", .ref Ω.ag), (.inr "cells", .ref Ω.ac), (.inr "rest", .int S.rest), (.inr "turn", .int S.turn)]
theorem st_of {d : D} (i : Nat) (hc : ρ[i]? = some (.dat .st)) {σ : L2.St} (I : RInv Ω F ρ S G σ H) : σ[i]? = some (some (.ref Ω.as)) := by
  obtain ⟨v, e, r⟩ := I.dat hc
  cases r
  exact e
variable {i : Nat} {x : Str} {p p2 p3 : Pos} {j : Nat}
theorem nosl {k : Str} {p : Pos} : NoSl (.Constant (.str k) j p) := fun _ _ => rfl
theorem st_get (hu : X.A.units + 1 < cLine) (hc : ρ[i]? = some (.dat .st)) (hN : X.N[i]? = some x) (hv : Vis X.env.scope x) (hd : (x == ("__debug__" : Str)) = false) (hcd : (x == ("__classdict__" : Str)) = false) (key : Str) :
    PE X (.Subscript (.Name x p) (.Constant (.str key) j p2) pos) (fun σ H Q => ∃ S G, RInv Ω F ρ S G σ H ∧ ∃ v, valV (stKeys Ω S) (.inr key) = some v ∧ Q v H) :=
  PEi (pe_dget hu (pe_var hN hv hd hcd) pe_str nosl) fun σ H Q ⟨S, G, I, v, hv, q⟩ => ⟨.ref Ω.as, st_of (d := .st) i hc I, Ω.as, v, rfl, .inl ⟨stKeys Ω S, .inr key, .inl I.f.w.st.dict, rfl, hv.symm⟩, q⟩
theorem pdTurn (hu : X.A.units + 64 < cLine) (hc : ρ[i]? = some (.dat .st) := by rfl) (hN : X.N[i]? = some x := by rfl) (hv : Vis X.env.scope x := by first | exact Or.inl rfl | exact Or.inr (Or.inl rfl) | exact Or.inr (Or.inr rfl)) (hd : (x == ("__debug__" : Str)) = false := by decide) (hcd : (x == ("__classdict__" : Str)) = false := by decide) :
    PE X (.Subscript (.Name x p) (.Constant (.str "turn") j p2) pos) (tD Ω F ρ getTurn) :=
  PEi (st_get (by omega) hc hN hv hd hcd "turn") fun σ H Q ⟨S, G, I, w⟩ => ⟨S, G, I, .int S.turn, rfl, w G H _ I.f.w (GX.refl _ _) (HX.refl _ _) (.int _)⟩
theorem pdRest (hu : X.A.units + 64 < cLine) (hc : ρ[i]? = some (.dat .st) := by rfl) (hN : X.N[i]? = some x := by rfl) (hv : Vis X.env.scope x := by first | exact Or.inl rfl | exact Or.inr (Or.inl rfl) | exact Or.inr (Or.inr rfl)) (hd : (x == ("__debug__" : Str)) = false := by decide) (hcd : (x == ("__classdict__" : Str)) = false := by decide) :
    PE X (.Subscript (.Name x p) (.Constant (.str "rest") j p2) pos) (tD Ω F ρ getRest) :=
  PEi (st_get (by omega) hc hN hv hd hcd "rest") fun σ H Q ⟨S, G, I, w⟩ => ⟨S, G, I, .int S.rest, rfl, w G H _ I.f.w (GX.refl _ _) (HX.refl _ _) (.int _)⟩
theorem pdCells (hu : X.A.units + 64 < cLine) (hc : ρ[i]? = some (.dat .st) := by rfl) (hN : X.N[i]? = some x := by rfl) (hv : Vis X.env.scope x := by first | exact Or.inl rfl | exact Or.inr (Or.inl rfl) | exact Or.inr (Or.inr rfl)) (hd : (x == ("__debug__" : Str)) = false := by decide) (hcd : (x == ("__classdict__" : Str)) = false := by decide) :
    PE X (.Subscript (.Name x p) (.Constant (.str "cells") j p2) pos) (tD Ω F ρ (pure (.lst (Ω.cells.map .int)))) :=
  PEi (st_get (by omega) hc hN hv hd hcd "cells") fun σ H Q ⟨S, G, I, w⟩ => ⟨S, G, I, .ref Ω.ac, rfl, w G H _ I.f.w (GX.refl _ _) (HX.refl _ _) (.lst I.f.w.gc (reps_ints _))⟩
/-! its great numbers -/
theorem dp_ints {K : PySem.W.Frag} {H : Hp} : ∀ gs : List Int, DpAll K H (gs.map V.int) (gs.map PyData.int)
  | [] => .nil
  | g :: gs => .cons (.int g) (dp_ints gs)
theorem ptGreat (hu : X.A.units + 64 < cLine) (hK : X.K = Ω.K) (hc : ρ[i]? = some (.dat .st) := by rfl) (hN : X.N[i]? = some x := by rfl) (hv : Vis X.env.scope x := by first | exact Or.inl rfl | exact Or.inr (Or.inl rfl) | exact Or.inr (Or.inr rfl)) (hd : (x == ("__debug__" : Str)) = false := by decide) (hcd : (x == ("__classdict__" : Str)) = false := by decide) {p4 p5 : Pos}
    (hm : behindInMarks .NotEq (.List [] p4) = false := by rfl) : PT X (.Compare (.Subscript (.Name x p) (.Constant (.str "great") j p2) p3) [.NotEq] [.List [] p4] p5) (tT Ω F ρ anyGreat) := by
  refine PTi (pt_cmpR (r := fun v y H Q => ∃ S, StOk Ω S H ∧ v = .ref Ω.ag ∧ ∃ q, y = .ref q ∧ H q = some (.lst []) ∧ Q (.bl (!S.great.isEmpty)) H) ?_ (st_get (Ω := Ω) (F := F) (by omega) hc hN hv hd hcd "great") (pe_lst pa_nil) hm) fun σ H Q ⟨S, G, I, w⟩ => ?_
  · intro pins s σ H v y u u' Q I rv ry ⟨S, st, ev, q, ey, hq, h⟩
    subst ev ey
    obtain ⟨as, r1⟩ := Dp.reads I (.list (S.great.map .int)) _ u (.lst (.inl (.inl st.great)) (dp_ints S.great)) rv
    obtain ⟨bs, r2⟩ := Dp.reads I (.list []) _ u' (.lst (.inl (.inl hq)) .nil) ry
    have pl : (PyData.list (S.great.map .int)).plain = true := by
      simp only [PyData.plain]
      generalize S.great = gs
      induction gs with
      | nil => rfl
      | cons g gs ih => simpa [PyData.plainAll, PyData.plain] using ih
    have dep : (PyData.list (S.great.map .int)).depth ≤ 2 := by
      simp only [PyData.depth]
      have : PyData.depthAll (S.great.map .int) ≤ 1 := by
        generalize S.great = gs
        induction gs with
        | nil => exact Nat.zero_le _
        | cons g gs ih => simp only [List.map_cons, PyData.depthAll, PyData.depth]; omega
      omega
    have e : PyData.eqv (.list (S.great.map .int)) (.list []) = S.great.isEmpty := by
      cases S.great with
      | nil => decide +kernel
      | cons g gs => rw [List.map_cons]; unfold PyData.eqv; rfl
    refine PySem.SeqAt.ne_plain r1 r2 pl rfl (by omega) ?_
    rw [e]
    exact ⟨.bl _, H, I, rfl, h⟩
  · exact ⟨S, G, I, .ref Ω.ag, rfl, Nat.zero_le _, fun q hq => ⟨S, I.f.w.st.same (same_upd hq), rfl, q, rfl, upd_same, ⟨_, rfl, w G _ _ (I.f.w.grow (same_upd hq)) (GX.refl _ _) (HX.of (same_upd hq)) rfl⟩⟩⟩
theorem StOk.ne (st : StOk Ω S H) : Ω.as ≠ Ω.ag ∧ Ω.as ≠ Ω.ac ∧ Ω.ag ≠ Ω.as := by
  have h1 : Ω.as ≠ Ω.ag := fun e => by have := st.dict; rw [e, st.great] at this; cases this
  exact ⟨h1, fun e => (by have := st.dict; rw [e, st.cells] at this; cases this), Ne.symm h1⟩
/-- the draws' objects are written -/
theorem Wd.great {g : Int} {gs : List Int} (w : Wd Ω S G H) (e : S.great = g :: gs) (hne : Ω.ac ≠ Ω.ag) : Wd Ω { S with great := gs } G (upd H Ω.ag (.lst (gs.map V.int))) := by
  obtain ⟨n1, n2, n3⟩ := w.st.ne
  refine ⟨fun a o q => ?_, w.ga, w.gg, w.gc, w.gt, w.nt, ⟨?_, upd_same, ?_, tabs_upd w.st.tabs (fun q hq e => by
    obtain ⟨ps, e2, _⟩ := w.st.tabs q hq
    rw [← e, w.st.great] at e2; cases e2) fun φ z => by rw [w.st.great] at z; cases z⟩⟩
  · rw [upd_ne fun h => by subst h; rw [w.gg] at q; cases q]
    exact w.same a o q
  · rw [upd_ne n1]; exact w.st.dict
  · rw [upd_ne hne]; exact w.st.cells
theorem Wd.acg (w : Wd Ω S G H) : Ω.ac ≠ Ω.ag := fun e => by have := w.gc; rw [e, w.gg] at this; cases this
theorem Wd.dict (w : Wd Ω S G H) (S' : DS) (e : S'.great = S.great) : Wd Ω S' G (upd H Ω.as (.dK (stKeys Ω S'))) := by
  obtain ⟨n1, n2, n3⟩ := w.st.ne
  refine ⟨fun a o q => ?_, w.ga, w.gg, w.gc, w.gt, w.nt, ⟨upd_same, ?_, ?_, tabs_upd w.st.tabs (fun q hq e => by
    obtain ⟨ps, e2, _⟩ := w.st.tabs q hq
    rw [← e, w.st.dict] at e2; cases e2) fun φ z => by rw [w.st.dict] at z; cases z⟩⟩
  · rw [upd_ne fun h => by subst h; rw [w.ga] at q; cases q]
    exact w.same a o q
  · rw [upd_ne n3, e]; exact w.st.great
  · rw [upd_ne (Ne.symm n2)]; exact w.st.cells
theorem HX.as {o : HO} : HX Ω H (upd H Ω.as o) := fun a o q h _ _ => by rw [upd_ne h]; exact q
theorem HX.ag {o : HO} : HX Ω H (upd H Ω.ag o) := fun a o q _ h _ => by rw [upd_ne h]; exact q
/-- state["great"].pop(0) -/
theorem pdPop {ap cp p4 : Pos} {j2 : Nat} (hu : X.A.units + 64 < cLine) (hc : ρ[i]? = some (.dat .st) := by rfl) (hN : X.N[i]? = some x := by rfl) (hv : Vis X.env.scope x := by first | exact Or.inl rfl | exact Or.inr (Or.inl rfl) | exact Or.inr (Or.inr rfl)) (hd : (x == ("__debug__" : Str)) = false := by decide) (hcd : (x == ("__classdict__" : Str)) = false := by decide)
    (hbase : attributeBase (.Subscript (.Name x p) (.Constant (.str "great") j p2) p3) "pop" X.env (eval (.Subscript (.Name x p) (.Constant (.str "great") j p2) p3) X.env) = eval (.Subscript (.Name x p) (.Constant (.str "great") j p2) p3) X.env := by rfl)
    (hfew : ((backTo cp (starEach [.Constant (.int 0) j2 p4] X.env)).all (fun x => !x.1) && (backToKw cp (keywordEach [] X.env)).all (fun x => x.1.isSome) && decide ([Expr.Constant (.int 0) j2 p4].length + ([] : List Keyword).length + (if ([] : List Keyword).isEmpty then 0 else 1) < 30)) = true := by rfl)
    (hline : (ap.endLine == cp.line) = true := by rfl) (hs : starEach [.Constant (.int 0) j2 p4] X.env = (false, eval (.Constant (.int 0) j2 p4) X.env) :: starEach [] X.env := by rfl) (hplain : (backTo cp (starEach [] X.env)).any (·.1) = false := by rfl) :
    PE X (.Call (.Attribute (.Subscript (.Name x p) (.Constant (.str "great") j p2) p3) "pop" ap) [.Constant (.int 0) j2 p4] [] cp) (tD Ω F ρ popGreat) :=
  PEi (pe_bm PySem.F.plainAttrs_list PySem.F.slot_list_pop PySem.F.type_list_pop mt_popAt (st_get (Ω := Ω) (F := F) (by omega) hc hN hv hd hcd "great") (pa_cons pe_int pa_nil hs) hbase hfew hline hs hplain) fun σ H Q ⟨S, G, I, w⟩ => by
    unfold M.wp popGreat at w
    cases e : S.great with
    | nil => rw [e] at w; exact w.elim
    | cons g gs =>
      rw [e] at w
      have st := I.f.w.st.great
      rw [e] at st
      exact ⟨S, G, I, .ref Ω.ag, rfl, .inl ⟨rfl, _, .inl (.inl st)⟩, Ω.ag, _, 0, 0, .int g, rfl, rfl, st, by decide, by decide, by simp [seqIndex?], rfl, w G _ _ (I.f.w.great e I.f.w.acg) (GX.refl _ _) HX.ag (.int g)⟩
variable {β γ : Type} {en : β → Env'} {el : γ → Env'} {e : Expr} {me : M D} {rest : List Stmt} {km : M (Fl β γ)}
theorem RInv.state {σ : L2.St} (I : RInv Ω F ρ S G σ H) (S' : DS) (e : S'.great = S.great) : RInv Ω F ρ S' G σ (upd H Ω.as (.dK (stKeys Ω S'))) := I.step (I.f.w.dict S' e) (GX.refl _ _) HX.as
theorem pssTurn (hu : X.A.units + 64 < cLine) (h : PE X e (tD Ω F ρ me)) (hr : PSs X rest (tS Ω F ρ km en el)) (hc : ρ[i]? = some (.dat .st) := by rfl) (hN : X.N[i]? = some x := by rfl) (hv : Vis X.env.scope x := by first | exact Or.inl rfl | exact Or.inr (Or.inl rfl) | exact Or.inr (Or.inr rfl)) (hd : (x == ("__debug__" : Str)) = false := by decide) (hcd : (x == ("__classdict__" : Str)) = false := by decide)
    (hs : swapsWith e (some (.Subscript (.Name x p) (.Constant (.str "turn") j p2) p3)) pos.line X.env = pure false := by rfl) :
    PSs X (.Assign [.Subscript (.Name x p) (.Constant (.str "turn") j p2) p3] e pos :: rest) (tS Ω F ρ (me >>= fun d => putTurn d >>= fun _ => km) en el) :=
  PSsi (pss_cons (ps_dput (by omega) (pe_var hN hv hd hcd) pe_str h hs) hr) fun E σ H ⟨S, G, I, w⟩ => by
    rw [wp_bind] at w
    refine ⟨S, G, I, w.imp fun d S1 w G1 H1 v w1 g1 h1 r1 => ?_⟩
    have I1 := I.step w1 g1 h1
    have s1 := g1.same I.f.w.same
    cases d with
    | int n =>
      cases r1
      refine ⟨.ref Ω.as, st_of (d := .st) i hc I1, Ω.as, _, rfl, .inl ⟨stKeys Ω S1, .inr "turn", I1.f.w.st.dict, rfl, (by show 4 < sizeLine; decide), rfl⟩, ?_⟩
      have e : putK (stKeys Ω S1) (.inr "turn") (.int n) = stKeys Ω { S1 with turn := n } := rfl
      rw [e]
      have w : km.wp (PSt Ω F en el G E) (Er Ω F) { S1 with turn := n } := w
      exact ⟨_, G1, I1.state _ rfl, w.imp fun fl S2 p => p.le s1⟩
    | _ => exact w.elim
theorem pssRest (hu : X.A.units + 64 < cLine) (h : PE X e (tD Ω F ρ me)) (hr : PSs X rest (tS Ω F ρ km en el)) (hc : ρ[i]? = some (.dat .st) := by rfl) (hN : X.N[i]? = some x := by rfl) (hv : Vis X.env.scope x := by first | exact Or.inl rfl | exact Or.inr (Or.inl rfl) | exact Or.inr (Or.inr rfl)) (hd : (x == ("__debug__" : Str)) = false := by decide) (hcd : (x == ("__classdict__" : Str)) = false := by decide)
    (hs : swapsWith e (some (.Subscript (.Name x p) (.Constant (.str "rest") j p2) p3)) pos.line X.env = pure false := by rfl) :
    PSs X (.Assign [.Subscript (.Name x p) (.Constant (.str "rest") j p2) p3] e pos :: rest) (tS Ω F ρ (me >>= fun d => putRest d >>= fun _ => km) en el) :=
  PSsi (pss_cons (ps_dput (by omega) (pe_var hN hv hd hcd) pe_str h hs) hr) fun E σ H ⟨S, G, I, w⟩ => by
    rw [wp_bind] at w
    refine ⟨S, G, I, w.imp fun d S1 w G1 H1 v w1 g1 h1 r1 => ?_⟩
    have I1 := I.step w1 g1 h1
    have s1 := g1.same I.f.w.same
    cases d with
    | int n =>
      cases r1
      refine ⟨.ref Ω.as, st_of (d := .st) i hc I1, Ω.as, _, rfl, .inl ⟨stKeys Ω S1, .inr "rest", I1.f.w.st.dict, rfl, (by show 4 < sizeLine; decide), rfl⟩, ?_⟩
      have e : putK (stKeys Ω S1) (.inr "rest") (.int n) = stKeys Ω { S1 with rest := n } := rfl
      rw [e]
      have w : km.wp (PSt Ω F en el G E) (Er Ω F) { S1 with rest := n } := w
      exact ⟨_, G1, I1.state _ rfl, w.imp fun fl S2 p => p.le s1⟩
    | _ => exact w.elim
end
end DL
set_option Elab.async false
set_option linter.all false
set_option maxRecDepth 100000
set_option autoImplicit false
/-! DLj: stores of more than one name; what is forgotten; callees told by their names. -/
namespace DL
open PySem PySem.Spec PyProof.Rows L2

/-! ### slots forgotten -/
inductive Wk : Env' → Env' → Prop
  | n : Wk [] []
  | k {a b : Env'} {c : Cell} (h : Wk a b) : Wk (c :: a) (c :: b)
  | d {a b : Env'} {c : Cell} (h : Wk a b) : Wk (c :: a) (.no :: b)
theorem Wk.len {a b : Env'} (h : Wk a b) : a.length = b.length := by
  induction h with
  | n => rfl
  | k _ ih => simp [ih]
  | d _ ih => simp [ih]
theorem Wk.at {a b : Env'} (h : Wk a b) : ∀ (i : Nat) (c : Cell), b[i]? = some c → c = .no ∨ a[i]? = some c := by
  induction h with
  | n => intro i c e; simp at e
  | k _ ih =>
    intro i c e
    cases i with
    | zero => exact .inr e
    | succ i => exact ih i c (by simpa using e)
  | d _ ih =>
    intro i c e
    cases i with
    | zero => simp at e; exact .inl e.symm
    | succ i => exact ih i c (by simpa using e)
theorem Wk.conv {Ω : Om} {F : Fr} {ρ ρ' : Env'} (h : Wk ρ ρ') : Conv Ω F ρ ρ' := fun S G σ H I => by
  refine ⟨G, ⟨I.f, by rw [← h.len]; exact I.len, fun i c e => ?_, fun i j c d p e1 e2 o1 o2 => ?_⟩, Same.refl G⟩
  · rcases h.at i c e with rfl | e
    · exact True.intro
    · exact I.cell i c e
  · rcases h.at i c e1 with rfl | e1
    · cases o1
    · rcases h.at j d e2 with rfl | e2
      · cases o2
      · exact I.inj i j c d p e1 e2 o1 o2

section
variable {X : Cx} {Ω : Om} {F : Fr} {ρ : Env'} {β γ : Type} {en : β → Env'} {el : γ → Env'} {i j l : Nat} {x y z : Str} {px py pz pt p2 pos : Pos} {kt k2 : Nat} {e e1 e2 : Expr} {me m1 m2 : M D} {ms : M (List D)} {rest : List Stmt}
/-! ### x, y = e -/
theorem pssAsg2 {kk : D → D → M (Fl β γ)} (hN : X.N.Nodup) (hc : X.calm = true) (h : PE X e (tD Ω F ρ me)) (hr : ∀ d d', PSs X rest (tS Ω F ((ρ.set i (.dat d)).set j (.dat d')) (kk d d') en el))
    (hix : X.N[i]? = some x := by rfl) (hx : Loc X.env.scope x := by first | exact Or.inl rfl | exact Or.inr rfl) (hf : X.fn x = true ∨ X.env.scope.names.lookup x = some .local := by first | exact Or.inl rfl | exact Or.inr rfl)
    (hjy : X.N[j]? = some y := by rfl) (hy : Loc X.env.scope y := by first | exact Or.inl rfl | exact Or.inr rfl) (hf2 : X.fn y = true ∨ X.env.scope.names.lookup y = some .local := by first | exact Or.inl rfl | exact Or.inr rfl)
    (hn : (assignEach [.Name x px, .Name y py] X.env).length = 2 := by rfl) (hst : (assignEach [.Name x px, .Name y py] X.env).findIdx? (·.1) = none := by rfl)
    (hs1 : (assignEach [.Name x px, .Name y py] X.env).map (·.2) = assign (.Name x px) X.env :: (assignEach [.Name y py] X.env).map (·.2) := by rfl) (hs2 : (assignEach [.Name y py] X.env).map (·.2) = assign (.Name y py) X.env :: (assignEach [] X.env).map (·.2) := by rfl)
    (hs : swapsWithSole [.Tuple [.Name x px, .Name y py] kt pt] e pos.line X.env = pure false := by rfl) (hw : swappedStores [.Tuple [.Name x px, .Name y py] kt pt] e X.env = pure none := by rfl) :
    PSs X (.Assign [.Tuple [.Name x px, .Name y py] kt pt] e pos :: rest) (tS Ω F ρ (me >>= un2 kk) en el) :=
  PSsi (pss_cons (ps_asg h (pg_tup hc (pgs_cons (pgN hN hix hx hf) (pgs_cons (pgN hN hjy hy hf2) pgs_nil hs2) hs1) hn hst) hs hw) (PSsx (α := D × D) fun q => hr q.1 q.2)) fun E σ H h => by
    refine tD_then (t := tNext) h fun S G S1 G1 d v H1 I I1 s1 r1 w => ?_
    unfold un2 at w
    split at w
    · rename_i t a b
      cases r1 with
      | @tup ad _ us _ q rs =>
        cases rs with
        | cons ra rs =>
          cases rs with
          | cons rb rs =>
            cases rs
            exact ⟨_, _, rfl, I1.f.w.tup q, rfl, _, _, rfl, _, _, rfl, rfl, (a, b), S1, G1, (I1.set ra).set rb, w⟩
    · exact w.elim
/-! ### x, y = (e1, e2): the two are exchanged in place -/
theorem ps_swap2 {t : TA} (hN : X.N.Nodup) (hc : X.calm = true) (ha : PA X [e1, e2] t) (hix : X.N[i]? = some x) (hx : Loc X.env.scope x) (hf : X.fn x = true ∨ X.env.scope.names.lookup x = some .local) (hjy : X.N[j]? = some y) (hy : Loc X.env.scope y) (hf2 : X.fn y = true ∨ X.env.scope.names.lookup y = some .local)
    (hs : swapsWithSole [.Tuple [.Name x px, .Name y py] kt pt] (.Tuple [e1, e2] k2 p2) pos.line X.env = pure false) (hw : swappedStores [.Tuple [.Name x px, .Name y py] kt pt] (.Tuple [e1, e2] k2 p2) X.env = pure (some [x, y])) :
    PS X (.Assign [.Tuple [.Name x px, .Name y py] kt pt] (.Tuple [e1, e2] k2 p2) pos) (fun D σ H => tTup t σ H fun v H1 => ∃ a u u', v = .ref a ∧ SqT X.K H1 a [u, u'] ∧ D.nx ((σ.set j (some u')).set i (some u)) H1) := ⟨fun pins s σ H D I h => by
  rw [exec_Assign_arm]
  refine wpAny_bind (wpAny_standAt ?_)
  rw [hs]
  refine wpAny_bind (wpAny_pure ?_)
  rw [if_neg (by decide)]
  refine wpAny_bind (thn ((pe_tup ha).run pins s σ H _ I h) fun v s1 ⟨vv, H1, I1, r1, a, u, u', ev, hq, q⟩ => ?_)
  subst ev
  cases r1
  rw [hw]
  refine wpAny_bind (wpAny_pure ?_)
  obtain ⟨its, rv, ht, hz⟩ := I1.tuple hq
  obtain ⟨w, w', rfl, rw1, rw2⟩ := vals2 rv
  show wpAny _ _ (do rule "assign.swapped-stores"; let items ← unpackItems (.ref a) 2 none; assignInOrder [fun v => bindName X.env y v, fun v => bindName X.env x v] items.reverse; pure Flow.next) _ _ s1
  refine wpAny_bind (wpAny_rule (wpAny_bind (wpAny_unpackItems_tuple (items := #[w, w']) (I1.ok.hd hc) ht fun h' hx' => ?_)))
  have I2 : Inv X pins σ H1 { s1 with heap := h' } := I1.kept (t' := s1.toks) fun b o e => hx' b o (Nat.ne_of_lt (Heap.lt_size e)) e
  show wpAny _ _ (assignInOrder [fun v => bindName X.env y v, fun v => bindName X.env x v] [w', w] >>= fun _ => pure Flow.next) _ _ _
  refine wpAny_bind (assignInOrder_cons (wpAny_bindName (store_ok I2 hN hjy hy rw2 (fun s' I3 => ?_) hf2)))
  refine assignInOrder_cons (wpAny_bindName (store_ok I3 hN hix hx rw1 (fun s'' I4 => ?_) hf))
  exact assignInOrder_nil (wpAny_pure ⟨_, H1, I4, q⟩)⟩
theorem pssSwap2 {kk : D → D → M (Fl β γ)} (hN : X.N.Nodup) (hc : X.calm = true) (ha : PE X e1 (tD Ω F ρ m1)) (hb : PE X e2 (tD Ω F ρ m2)) (hr : ∀ d d', PSs X rest (tS Ω F ((ρ.set j (.dat d')).set i (.dat d)) (kk d d') en el))
    (hix : X.N[i]? = some x := by rfl) (hx : Loc X.env.scope x := by first | exact Or.inl rfl | exact Or.inr rfl) (hf : X.fn x = true ∨ X.env.scope.names.lookup x = some .local := by first | exact Or.inl rfl | exact Or.inr rfl)
    (hjy : X.N[j]? = some y := by rfl) (hy : Loc X.env.scope y := by first | exact Or.inl rfl | exact Or.inr rfl) (hf2 : X.fn y = true ∨ X.env.scope.names.lookup y = some .local := by first | exact Or.inl rfl | exact Or.inr rfl)
    (he1 : starEach [e1, e2] X.env = (false, eval e1 X.env) :: starEach [e2] X.env := by rfl) (he2 : starEach [e2] X.env = (false, eval e2 X.env) :: starEach [] X.env := by rfl)
    (hs : swapsWithSole [.Tuple [.Name x px, .Name y py] kt pt] (.Tuple [e1, e2] k2 p2) pos.line X.env = pure false := by rfl) (hw : swappedStores [.Tuple [.Name x px, .Name y py] kt pt] (.Tuple [e1, e2] k2 p2) X.env = pure (some [x, y]) := by rfl) :
    PSs X (.Assign [.Tuple [.Name x px, .Name y py] kt pt] (.Tuple [e1, e2] k2 p2) pos :: rest) (tS Ω F ρ (m1 >>= fun d => m2 >>= fun d' => kk d d') en el) :=
  PSsi (pss_cons (ps_swap2 hN hc (pa_cons ha (pa_cons hb pa_nil he2) he1) hix hx hf hjy hy hf2 hs hw) (PSsx (α := D × D) fun q => hr q.1 q.2)) fun E σ H ⟨S, G, I, w⟩ => by
    rw [wp_bind] at w
    refine ⟨S, G, I, w.imp fun d S1 w G1 H1 v w1 g1 h1 r1 => ?_⟩
    have I1 := I.step w1 g1 h1
    have s1 := g1.same I.f.w.same
    rw [wp_bind] at w
    refine ⟨S1, G1, I1, w.imp fun d' S2 w G2 H2 v' w2 g2 h2 r2 => ?_⟩
    have I2 := I1.step w2 g2 h2
    have s2 := g2.same I1.f.w.same
    refine ⟨by show 2 ≤ sizeLine; decide, fun q hq => ⟨q, v, v', rfl, .inl (.inl upd_same), ?_⟩⟩
    have I3 : RInv Ω F ρ S2 G2 σ (upd H2 q (.tup [v, v'])) := I2.step (I2.f.w.grow (same_upd hq)) (GX.refl _ _) (HX.of (same_upd hq))
    exact ⟨(d, d'), S2, G2, (I3.set r2).set (r1.same s2), w.imp fun fl S3 p3 => p3.le (s1.trans s2)⟩
end

/-! ### callees -/
/-- a def of the module: what it computes -/
structure Cd (P : Program) (w : World) (mg : Str → Option Value) (base : Heap) (Ω : Om) (k : Nat) (x : Str) (ps : List Str) (m : List D → M D) : Prop where
  ex : ∃ f fd, FnOk P w Ω.K mg base CX0 k f fd ps (spN Ω ps.length m) ∧ mg x = some (.ref f) ∧ PySem.W.keepIn Ω.K (.ref f) = true ∧ Binds Ω.K fd ps [] ∧ ∃ oc od osl, Ω.K.lookup f = some ⟨oc, od, .func fd, osl⟩
  ar : ArOk ps.length m
structure CdG (P : Program) (w : World) (mg : Str → Option Value) (base : Heap) (Ω : Om) (k : Nat) (x : Str) (ps : List Str) (m : List D → M D) : Prop where
  ex : ∃ f fd, FnG P w Ω.K mg base k f fd ps (spN Ω ps.length m) ∧ mg x = some (.ref f) ∧ PySem.W.keepIn Ω.K (.ref f) = true ∧ Binds Ω.K fd ps [] ∧ ∃ oc od osl, Ω.K.lookup f = some ⟨oc, od, .func fd, osl⟩
  ar : ArOk ps.length m
section
variable {X : Cx} {Ω : Om} {F : Fr} {ρ : Env'} {pos : Pos} {k k' : Nat} {ps : List Str} {m : List D → M D} {x : Str} {p : Pos} {a : Expr} {es : List Expr} {ms : M (List D)}
theorem pdC (hK : X.K = Ω.K) (c : Cd X.prog X.w X.mg X.base Ω k x ps m) (hr : Room k' X.A) (hk : k ≤ k') (ha : PA X (a :: es) (tA Ω F ρ ms)) (hg : Gl X x := by rfl) (hdb : (x == ("__debug__" : Str)) = false := by decide)
    (he : starEach (a :: es) X.env = (false, eval a X.env) :: starEach es X.env := by rfl) (hpl : (backTo pos (starEach es X.env)).any (·.1) = false := by rfl) :
    PE X (.Call (.Name x p) (a :: es) [] pos) (tD Ω F ρ (ms >>= fun ds => noErr (m ds))) := by
  obtain ⟨f, fd, G, hm, hkp, hb, _⟩ := c.ex
  rw [← hK] at G hkp hb
  exact pdCall G c.ar (hr.mono hk) hm hkp hb ha hg hdb he hpl
theorem pdCG (hK : X.K = Ω.K) (hA : X.A.guards = some []) (c : CdG X.prog X.w X.mg X.base Ω k x ps m) (hr : Room k' X.A) (hk : k ≤ k') (ha : PA X (a :: es) (tA Ω F ρ ms)) (hg : Gl X x := by rfl) (hdb : (x == ("__debug__" : Str)) = false := by decide)
    (he : starEach (a :: es) X.env = (false, eval a X.env) :: starEach es X.env := by rfl) (hpl : (backTo pos (starEach es X.env)).any (·.1) = false := by rfl) :
    PE X (.Call (.Name x p) (a :: es) [] pos) (tD Ω F ρ (ms >>= fun ds => noErr (m ds))) := by
  obtain ⟨f, fd, G, hm, hkp, hb, _⟩ := c.ex
  rw [← hK] at G hkp hb
  exact pdCallG hA G c.ar (hr.mono hk) hm hkp hb ha hg hdb he hpl
/-! e in NAME as a test -/
theorem ptInK {nm : Str} {a : Addr} {ds : List D} {e : Expr} {me : M D} {p pos : Pos} {neg : Bool} (hK : X.K = Ω.K) (hu : X.A.units + 65 < cLine) (he : PE X e (tD Ω F ρ me)) (hg : Gl X nm) (hm : X.mg nm = some (.ref a)) (hd : Dp Ω.K (fun _ => none) (.ref a) (D.tup false ds).py) (hdb : (nm == ("__debug__" : Str)) = false := by decide)
    (hmk : behindInMarks (if neg then .NotIn else .In) (.Name nm p) = false := by rfl) : PT X (.Compare e [if neg then .NotIn else .In] [.Name nm p] pos) (tT Ω F ρ ((me >>= fun d => if neg then dNotIn d (.tup false ds) else dIn d (.tup false ds)) >>= asB)) := by
  refine PTi (pt_cmpR (opInK (F := F) hK hu hd) he (pe_glob hg hm (show RelV (.ref a) (.ref a) from rfl) hdb) hmk) fun σ H Q h => tTest_of (m := me >>= fun d => if neg then dNotIn d (.tup false ds) else dIn d (.tup false ds)) (fun Q' ⟨S, G, I, w⟩ => ?_) h
  exact (tG.bindI (R := RD Ω) I w).mono fun x H1 ⟨S1, G1, d, I1, s1, r, w⟩ => ⟨rfl, S1, G1, d, I1.f, r, w⟩
end

/-! ### calls by keywords alone -/
def kp {α : Type} (d : α) (n : Nat) (π : List Nat) (us ws : List α) : List α := if us.length = 0 ∧ ws.length = n then π.map fun j => ws.getD j d else []
theorem kp_vals {n : Nat} {π : List Nat} (h : ∀ j ∈ π, j < n) {vs zs : List V} {us ws : List Value} (r : Vals vs us) (rz : Vals zs ws) : Vals (kp .non n π vs zs) (kp .none n π us ws) := by
  unfold kp
  rw [r.length, rz.length]
  split
  · rename_i hh
    have go : ∀ π : List Nat, (∀ j ∈ π, j < n) → Vals (π.map fun j => zs.getD j .non) (π.map fun j => ws.getD j .none) := fun π => by
      induction π with
      | nil => intro _; exact .nil
      | cons j π ih =>
        intro h
        refine .cons ?_ (ih fun k hk => h k (List.mem_cons_of_mem _ hk))
        have hj : j < zs.length := by rw [rz.length, hh.2]; exact h j (List.mem_cons_self ..)
        obtain ⟨u, hu, ru⟩ := rz.get (List.getElem?_eq_getElem hj)
        dsimp only
        rw [List.getD_eq_getElem?_getD, List.getD_eq_getElem?_getD, hu, List.getElem?_eq_getElem hj]
        exact ru
    exact go π h
  · exact .nil
theorem kp_reps {Ω : Om} {G : Hp} {n : Nat} {π : List Nat} (h : ∀ j ∈ π, j < n) {vs : List V} {ds : List D} (r : Reps Ω G vs ds) : Reps Ω G (kp .non n π [] vs) (kp .non n π [] ds) := by
  unfold kp
  rw [r.length]
  by_cases hh : ([] : List V).length = 0 ∧ ds.length = n
  · rw [if_pos hh, if_pos ⟨rfl, hh.2⟩]
    have go : ∀ π : List Nat, (∀ j ∈ π, j < n) → Reps Ω G (π.map fun j => vs.getD j .non) (π.map fun j => ds.getD j .non) := fun π => by
      induction π with
      | nil => intro _; exact .nil
      | cons j π ih =>
        intro h
        refine .cons ?_ (ih fun k hk => h k (List.mem_cons_of_mem _ hk))
        have hj : j < vs.length := by rw [r.length, hh.2]; exact h j (List.mem_cons_self ..)
        obtain ⟨u, hu, ru⟩ := r.get (List.getElem?_eq_getElem hj)
        dsimp only
        rw [List.getD_eq_getElem?_getD, List.getD_eq_getElem?_getD, hu, List.getElem?_eq_getElem hj]
        exact ru
    exact go π h
  · rw [if_neg hh, if_neg fun z => hh ⟨rfl, z.2⟩]
    exact .nil
structure CdK (P : Program) (w : World) (mg : Str → Option Value) (base : Heap) (Ω : Om) (k : Nat) (x : Str) (ps ks : List Str) (π : List Nat) (m : List D → M D) : Prop where
  ex : ∃ f fd, FnOk P w Ω.K mg base CX0 k f fd ps (spN Ω ps.length m) ∧ mg x = some (.ref f) ∧ PySem.W.keepIn Ω.K (.ref f) = true ∧ KBinds Ω.K fd ps ks (kp .none ks.length π) (kp .non ks.length π)
  ar : ArOk ps.length m
  lt : ∀ j ∈ π, j < ks.length
section
variable {X : Cx} {Ω : Om} {F : Fr} {ρ : Env'} {pos : Pos} {k k' : Nat} {ps ks : List Str} {π : List Nat} {m : List D → M D} {x : Str} {p : Pos} {ms : M (List D)} {kws : List Keyword}
theorem pdCK (hK : X.K = Ω.K) (c : CdK X.prog X.w X.mg X.base Ω k x ps ks π m) (hr : Room k' X.A) (hk : k ≤ k') (ha : PKd X Ω F ρ kws ms) (hall : (backToKw pos (keywordEach kws X.env)).all (·.1.isSome) = true := by rfl) (hks : (backToKw pos (keywordEach kws X.env)).filterMap (·.1) = ks := by rfl)
    (hpl : ((backTo pos (starEach [] X.env)).any (·.1) || (backToKw pos (keywordEach kws X.env)).any (·.1.isNone)) = false := by rfl) (hg : Gl X x := by rfl) (hdb : (x == ("__debug__" : Str)) = false := by decide) :
    PE X (.Call (.Name x p) [] kws pos) (tD Ω F ρ (ms >>= fun ds => noErr (m (kp .non ks.length π [] ds)))) := by
  obtain ⟨f, fd, G, hm, hkp, hb⟩ := c.ex
  rw [← hK] at G hkp hb
  exact pdCallK G c.ar (hr.mono hk) hm hkp hb (fun _ _ _ r => kp_reps c.lt r) ha hall hks hpl hg hdb
/-- nothing is asked where nothing is computed -/
theorem pssStuck {β γ : Type} {en : β → Env'} {el : γ → Env'} {ss : List Stmt} : PSs X ss (tS Ω F ρ (M.stuck : M (Fl β γ)) en el) := ⟨fun pins s σ H D I ⟨S, G, _, w⟩ => w.elim⟩
theorem stArg {N : List Str} {ss : List Stmt} {r : List D} {m : List D → M D} {en : Unit → Env'} {el : Unit → Env'} (h : ∃ mb : M (Fl Unit Unit), PSs X ss (tS Ω F (envOf N (.st :: r)) mb en el) ∧ Fl.fin mb = m (.st :: r)) (hn : ∀ d, d ≠ .st → m (d :: r) = M.stuck) :
    ∀ d, ∃ mb : M (Fl Unit Unit), PSs X ss (tS Ω F (envOf N (d :: r)) mb en el) ∧ Fl.fin mb = m (d :: r) := fun d => by
  have key : d ≠ .st → ∃ mb : M (Fl Unit Unit), PSs X ss (tS Ω F (envOf N (d :: r)) mb en el) ∧ Fl.fin mb = m (d :: r) := fun e => ⟨M.stuck, pssStuck, (hn d e).symm⟩
  cases d with
  | st => exact h
  | _ => exact key (fun e => nomatch e)
end
/-- arguments, the state ahead -/
def sr0 (g : M D) : List D → M D
  | [.st] => g
  | _ => M.stuck
def sr1 (g : D → M D) : List D → M D
  | [.st, a] => g a
  | _ => M.stuck
def sr2 (g : D → D → M D) : List D → M D
  | [.st, a, b] => g a b
  | _ => M.stuck
def sr3 (g : D → D → D → M D) : List D → M D
  | [.st, a, b, c] => g a b c
  | _ => M.stuck
def sr4 (g : D → D → D → D → M D) : List D → M D
  | [.st, a, b, c, d] => g a b c d
  | _ => M.stuck
def sr5 (g : D → D → D → D → D → M D) : List D → M D
  | [.st, a, b, c, d, e] => g a b c d e
  | _ => M.stuck
theorem srOk0 {g : M D} : ArOk 1 (sr0 g) := fun ds h => by unfold sr0; split <;> first | rfl | exact absurd rfl h
theorem srOk1 {g : D → M D} : ArOk 2 (sr1 g) := fun ds h => by unfold sr1; split <;> first | rfl | exact absurd rfl h
theorem srOk2 {g : D → D → M D} : ArOk 3 (sr2 g) := fun ds h => by unfold sr2; split <;> first | rfl | exact absurd rfl h
theorem srOk3 {g : D → D → D → M D} : ArOk 4 (sr3 g) := fun ds h => by unfold sr3; split <;> first | rfl | exact absurd rfl h
theorem srOk4 {g : D → D → D → D → M D} : ArOk 5 (sr4 g) := fun ds h => by unfold sr4; split <;> first | rfl | exact absurd rfl h
theorem srOk5 {g : D → D → D → D → D → M D} : ArOk 6 (sr5 g) := fun ds h => by unfold sr5; split <;> first | rfl | exact absurd rfl h
theorem hu65 {k : Nat} {A : Around} (r : Room k A) : A.units + 65 < cLine := by have := r.un; omega
section
variable {X : Cx} {Ω : Om} {F : Fr} {ρ : Env'} {pos : Pos} {x : Str}
theorem pdgi {i : Int} (hm : ∃ t, X.mg x = some (.int i t)) (hg : Gl X x := by rfl) (hd : (x == ("__debug__" : Str)) = false := by decide) : PE X (.Name x pos) (tD Ω F ρ (pure (.int i))) := by
  obtain ⟨t, hm⟩ := hm
  exact pdg (v := .int i) hg hm ⟨t, rfl⟩ (fun _ => .int i) hd
theorem pdgs {z : Str} (hm : ∃ t, X.mg x = some (.str z t)) (hg : Gl X x := by rfl) (hd : (x == ("__debug__" : Str)) = false := by decide) : PE X (.Name x pos) (tD Ω F ρ (pure (.str z))) := by
  obtain ⟨t, hm⟩ := hm
  exact pdg (v := .str z) hg hm ⟨t, rfl⟩ (fun _ => .str z) hd
end
theorem fun_lk {K : PySem.W.Frag} {x qual : Str} {st : Stmt} {f : Addr} {fd : FuncData} (Fn : Fun K x qual st f fd) : ∃ oc od osl, K.lookup f = some ⟨oc, od, .func fd, osl⟩ := by
  obtain ⟨oc, od, kV, doc, pm, an, cdv, ct, osl, e, lk, _⟩ := Fn.ex
  exact ⟨oc, od, osl, lk⟩
theorem lk_one {K : PySem.W.Frag} {f : Addr} {fd fd' : FuncData} (h : ∃ oc od osl, K.lookup f = some ⟨oc, od, .func fd, osl⟩) (h' : ∃ oc od osl, K.lookup f = some ⟨oc, od, .func fd', osl⟩) : fd' = fd := by
  obtain ⟨_, _, _, h⟩ := h
  obtain ⟨_, _, _, h'⟩ := h'
  rw [h] at h'
  cases h'
  rfl
theorem fnZero {P : Program} {w : World} {mg : Str → Option Value} {base : Heap} {Ω : Om} {k n : Nat} {f : Addr} {fd : FuncData} {ps : List Str} {m : List D → M D} (hn : ps.length = n) (h : ∀ ds, m ds = M.stuck) : FnOk P w Ω.K mg base CX0 k f fd ps (spN Ω n m) :=
  ⟨fun vs H Q E q => q.1.trans hn.symm, fun A outer s H ar us vs Q E hr he hb hv ⟨_, S, G, ds, wd, r, q⟩ => by rw [h ds] at q; exact q.elim⟩
theorem pdStuck {X : Cx} {Ω : Om} {F : Fr} {ρ : Env'} {e : Expr} : PE X e (tD Ω F ρ M.stuck) := ⟨fun pins s σ H Q I ⟨S, G, _, w⟩ => w.elim⟩
end DL
set_option Elab.async false
set_option linter.all false
set_option maxRecDepth 100000
set_option autoImplicit false
/-! DLk: the script; the end of a row whose law runs where no repr is under way. -/
namespace DL
open PySem PySem.Spec PyProof.Rows L2
/-- the world of a run: the state at sa, its great numbers at ga, the cells at ca; 0 tells the script -/
def om (K : PySem.W.Frag) (sa ga ca : Addr) (cells : List Int) : Om where
  K := K
  as := sa
  ag := ga
  ac := ca
  cells := cells
  tb := []
  xc := fun _ => .none
  xf := fun _ => []
  op := fun n G v => ∃ a xs, v = .ref a ∧ SqL K G a xs ∧ xs.length = cells.length
  opm := fun n G G' v hh ⟨a, xs, e, q, l⟩ => ⟨a, xs, e, q.elim (fun r => .inl (hh _ _ r)) .inr, l⟩
  opn := fun n G v ⟨a, xs, e, _⟩ h => by rw [h] at e; cases e
section
variable {X : Cx} {K : PySem.W.Frag} {sa ga ca : Addr} {cells : List Int} {F : Fr} {ρ : Env'} {i : Nat} {x : Str} {p p2 pos : Pos}
def scLen (Ω : Om) : Prop := ∀ G v, Ω.op 0 G v → ∃ a xs, v = .ref a ∧ SqL Ω.K G a xs ∧ xs.length = Ω.cells.length
theorem pdLenS {Ω : Om} (hop : scLen Ω) (hK : X.K = Ω.K) (hm : X.mg "len" = none) (hc : ρ[i]? = some (.dat (.opq 0)) := by rfl) (hN : X.N[i]? = some x := by rfl) (hg : Gl X "len" := by rfl) (hv : Vis X.env.scope x := by first | exact Or.inl rfl | exact Or.inr (Or.inl rfl) | exact Or.inr (Or.inr rfl)) (hd : (x == ("__debug__" : Str)) = false := by decide) (hcd : (x == ("__classdict__" : Str)) = false := by decide)
    (he : starEach [.Name x p2] X.env = (false, eval (.Name x p2) X.env) :: starEach [] X.env := by rfl) (hpl : (backTo pos (starEach [] X.env)).any (·.1) = false := by rfl) : PE X (.Call (.Name "len" p) [.Name x p2] [] pos) (tD Ω F ρ (pure (.int (Ω.cells.length : Nat)))) :=
  PEi (pe_callB call_len_seq hg hm (by decide +kernel) (pa_cons (pdv (Ω := Ω) (F := F) i hc hN hv hd hcd) pa_nil he) (by decide) (by decide) he hpl) fun σ H Q h => by
    obtain ⟨S, G, I, h⟩ := h
    refine ⟨S, G, I, fun G' H' v w' g' h' r' => ?_⟩
    cases r' with
    | opq q =>
      obtain ⟨a, xs, e, hs, hl⟩ := hop _ _ q
      refine ⟨a, xs, by rw [e], .inl (hK ▸ (RdLe.of w'.same).sqL hs), ?_⟩
      rw [hl]
      exact h G' H' _ w' g' h' (.int _)
end

/-! ### the end -/
section
variable {P : Program} {w : World} {K : PySem.W.Frag} {mg : Str → Option Value}
/-- the promise at the heap behind the top, where nothing is being shown -/
theorem law_runG {mb : Str → Option Value} {k : Nat} {fa a : Addr} {fd : FuncData} {x : Str} {sp : Sp} {t₁ : Shared} {us : List Value} {zs : List Int} (kin : K.In t₁.heap) (gl : t₁.heap.Ns mainGlobals mg) (bl : t₁.heap.Ns builtinsNs mb)
    (bb : ∀ x : Str, x ≠ "__name__" → mb x = bootBuiltins x) (nol : t₁.heap.NoLimit) (ge : t₁.gens = #[]) (oa : t₁.heap.get? a = some { cls := .type "list", data := .seq us.toArray }) (iu : IntsAre us zs) (lz : zs.length ≤ sizeLine) (rm : Room k callerA)
    (Fp : ∀ base : Heap, K.In base → base.Ns mainGlobals mg → FnG P w K mg base k fa fd [x] sp) (bi : ∀ (s : Shared) (u : Value), BindsTo s fd ⟨[u], []⟩ [(x, u)]) (ask : ∀ H : Hp, Only H → SqL K H a (zs.map V.int) → sp [.ref a] H (fun v _ => v = .bl true) fun _ _ _ => False) :
    codeAny (model P w) callerA (.call (.ref fa) ⟨[.ref a], []⟩) (fun r t' => r = .ok (.ret (.bool true)) ∧ OldK t₁.heap t'.heap ∧ t'.os = t₁.os ∧ AllBare t'.gens) t₁ := by
  have rv : Vals (zs.map V.int) us := vals_ints iu
  have lu := iu.length
  have main : ∀ M : Hp, Only M → SqL K M a (zs.map V.int) → HOk P w M t₁.heap → (∀ b, M b ≠ none → b = a) → (M a ≠ none → K.lookup a = none) →
      codeAny (model P w) callerA (.call (.ref fa) ⟨[.ref a], []⟩) (fun r t' => r = .ok (.ret (.bool true)) ∧ OldK t₁.heap t'.heap ∧ t'.os = t₁.os ∧ AllBare t'.gens) t₁ := by
    intro M on sq ok one nk
    have hid : ∀ {b : Addr} {o : Obj}, t₁.heap.get? b = some o → M b = none → (hidT t₁.heap M).get? b = some o := fun e n => hidT_get e n
    have isA : ∀ {b : Addr}, M b ≠ none → b = a := fun {b} n => one b n
    have dictN : ∀ {b : Addr} {o : Obj} {es : Array DictEntry} {ep : Nat}, t₁.heap.get? b = some o → o.data = .dict es ep → M b = none := by
      intro b o es ep e d
      by_cases n : M b = none
      · exact n
      · have z := isA n
        subst z
        rw [oa] at e
        cases e
        exact nomatch d
    have nsH : ∀ {b : Addr} {m : Str → Option Value}, t₁.heap.Ns b m → (hidT t₁.heap M).Ns b m := fun ⟨o, es, ep, e, d, r⟩ => ⟨o, es, ep, hid e (dictN e d), d, r⟩
    have kH : K.In (hidT t₁.heap M) := by
      intro b o e
      refine hid (kin b o e) ?_
      by_cases n : M b = none
      · exact n
      · have z := isA n
        subst z
        rw [nk n] at e
        cases e
    have md : Mod K mg (hidT t₁.heap M) := ⟨kH, nsH gl, ⟨mb, nsH bl, bb⟩, let ⟨mc, h1, h2⟩ := nol; ⟨mc, nsH h1, h2⟩⟩
    have en : Env0 P w K mg (hidT t₁.heap M) callerA [] t₁ M := ⟨rfl, md, fun b o e => of_hidT e, Nat.le_of_eq (hidT_size _ _), trivial, (fun b hb => nomatch hb), ok, .of_eq ge⟩
    refine codeAny_mono ((Fp _ kH (nsH gl)).go callerA [] t₁ M ⟨[.ref a], []⟩ [.ref a] [.ref a] _ _ rfl rm en (bi t₁ (.ref a)) (.cons rfl .nil) (ask M on sq)) fun r t' h => ?_
    cases r with
    | error e => exact h.elim
    | ok fl =>
      cases fl with
      | next => exact h.elim
      | brk => exact h.elim
      | cont => exact h.elim
      | ret u =>
        obtain ⟨v, M', os, bare, un, ok', ru, q⟩ := h
        cases (show v = .bl true from q)
        cases (show u = Value.bool true from ru)
        refine ⟨rfl, OldK.of_keep fun b o e => ?_, os, bare⟩
        rcases on b with n | ⟨ob, xs, z⟩
        · exact un.keep b o e n (fun z => nomatch (show b ∈ ([] : List Addr) from z)) (fun z => nomatch z)
        · obtain ⟨e1, _⟩ := ok b _ z
          obtain ⟨e2, _⟩ := ok' b _ (un.frzs b ob _ z)
          rw [e] at e1
          cases e1
          exact e2
  cases hk : K.lookup a with
  | some o =>
    have e := kin a o hk
    rw [oa] at e
    cases e
    exact main (fun _ => none) (fun _ => .inl rfl) (.inr ⟨_, us.toArray, _, hk, rfl, rfl, rfl, by rw [List.size_toArray, lu]; exact lz, by simpa using rv⟩) (fun b u z => nomatch z) (fun b z => absurd rfl z) fun z => absurd rfl z
  | none =>
    let M0 : Hp := fun b => if b = a then some (.frz { cls := .type "list", data := .seq us.toArray } (.lst (zs.map V.int))) else none
    have at0 : M0 a = some (.frz { cls := .type "list", data := .seq us.toArray } (.lst (zs.map V.int))) := if_pos rfl
    have off0 : ∀ {b : Addr}, b ≠ a → M0 b = none := fun h => if_neg h
    refine main M0 (fun b => ?_) (.inl (.inr ⟨_, at0⟩)) (fun b u z => ?_) (fun b z => ?_) fun _ => hk
    · by_cases e : b = a
      · subst e; exact .inr ⟨_, _, at0⟩
      · exact .inl (off0 e)
    · by_cases e : b = a
      · subst e
        rw [at0] at z
        cases z
        exact ⟨oa, by rw [List.length_map]; exact lz, us, _, rv, oa⟩
      · rw [off0 e] at z; cases z
    · by_cases e : b = a
      · exact e
      · exact absurd (off0 e) z
end
/-- a row of a law whose def is walked where nothing is being shown -/
theorem walk_G {l : PySem.W.OpenLaw} {n k : Nat} {q : Program} {loose : List Str} {XP : (Str → Option Value) → Heap → Prop} {YP : World → Heap → Prop} {d : DefRec} {Kf : Params → PySem.W.Frag} {sp : World → Sp} {x : Str} (hn : l.most = some n) (hn2 : n ≤ sizeLine) (hdf : d.params.defaults = [])
    (hr : Room k callerA) (hY : ∀ (w : World) (h : Heap), YP w h → (Kf w.params).In h)
    (Fp : ∀ (w : World) (mg : Str → Option Value) (fa : Addr) (h : Heap), (Kf w.params).In h → h.Ns mainGlobals mg → mg d.name = some (.ref fa) → ∃ fd : FuncData, (∀ (s : Shared) (u : Value), BindsTo s fd ⟨[u], []⟩ [(x, u)]) ∧ ∀ base : Heap, (Kf w.params).In base → base.Ns mainGlobals mg → FnG l.prog w (Kf w.params) mg base k fa fd [x] (sp w))
    (ask : ∀ (w : World) (H : Hp) (a : Addr) (ns : List Int), ns.length ≤ n → Only H → SqL (Kf w.params) H a (ns.map V.int) → sp w [.ref a] H (fun v _ => v = .bl true) fun _ _ _ => False) : PySem.W.WalkO q loose XP YP l.row.toRowW d [] (fun f vs => PySem.call f vs) := by
  refine Att.attach_callB hn hdf fun w s₀ s₁ mg mb fa o pm cd doc a vs ns G Y ho hd hcd hmg hobj hints hlen _ hgn => ?_
  obtain ⟨fd, hb, hF⟩ := Fp w mg fa _ (hY w _ Y) G.T.g hmg
  exact law_runG (hY w _ Y) G.T.g G.T.b G.T.builtins G.T.nolimit hgn hobj hints (Nat.le_trans hlen hn2) hr hF hb fun H hO hS => ask w H a ns hlen hO hS
theorem walk_GK {l : PySem.W.OpenLaw} {n k : Nat} {q : Program} {loose : List Str} {XP : (Str → Option Value) → Heap → Prop} {YP : World → Heap → Prop} {d : DefRec} {Kf : Params → PySem.W.Frag} {sp : PySem.W.Frag → Sp} {x : Str} (hn : l.most = some n) (hn2 : n ≤ sizeLine) (hdf : d.params.defaults = [])
    (hr : Room k callerA) (hY : ∀ (w : World) (h : Heap), YP w h → (Kf w.params).In h)
    (Fp : ∀ (w : World) (mg : Str → Option Value) (fa : Addr) (h : Heap), (Kf w.params).In h → h.Ns mainGlobals mg → mg d.name = some (.ref fa) → ∃ fd : FuncData, (∀ (s : Shared) (u : Value), BindsTo s fd ⟨[u], []⟩ [(x, u)]) ∧ ∀ base : Heap, (Kf w.params).In base → base.Ns mainGlobals mg → FnG l.prog w (Kf w.params) mg base k fa fd [x] (sp (Kf w.params)))
    (ask : ∀ (K : PySem.W.Frag) (H : Hp) (a : Addr) (ns : List Int), ns.length ≤ n → Only H → SqL K H a (ns.map V.int) → sp K [.ref a] H (fun v _ => v = .bl true) fun _ _ _ => False) : PySem.W.WalkO q loose XP YP l.row.toRowW d [] (fun f vs => PySem.call f vs) :=
  walk_G (Kf := Kf) (sp := fun w => sp (Kf w.params)) hn hn2 hdf hr hY Fp fun w H a ns h1 h2 h3 => ask _ H a ns h1 h2 h3
end DL
set_option Elab.async false
set_option linter.all false
set_option maxRecDepth 100000
set_option autoImplicit false
/-! DLl: own lists, one popped into the other. -/
namespace DL
open PySem PySem.Spec PyProof.Rows L2
def popD {α : Type} (es : List D) (f : D → List D → M α) : D → M α
  | .int i => gd (0 ≤ i ∧ i < 2 ^ 63) (match es[i.toNat]? with
    | some d => f d (es.eraseIdx i.toNat)
    | none => M.stuck)
  | _ => M.stuck
section
variable {X : Cx} {Ω : Om} {F : Fr} {ρ : Env'} {β γ : Type} {en : β → Env'} {el : γ → Env'} {i j : Nat} {x y : Str} {p p2 ap cp ap2 cp2 pos : Pos} {e : Expr} {me : M D} {rest : List Stmt} {k : D → List D → M (Fl β γ)}
theorem Reps.erase {Ω : Om} {G : Hp} : ∀ {vs : List V} {ds : List D} (k : Nat), Reps Ω G vs ds → Reps Ω G (vs.eraseIdx k) (ds.eraseIdx k)
  | _, _, _, .nil => .nil
  | _, _, 0, .cons _ r => r
  | _, _, k + 1, .cons h r => .cons h (Reps.erase k r)
/-- x.append(y.pop(e)) -/
theorem pssAppPop {ds es : List D} (hc : ρ[i]? = some (.own ds)) (hc2 : ρ[j]? = some (.own es)) (hij : i ≠ j) (h : PE X e (tD Ω F ρ me))
    (hr : ∀ d es', PSs X rest (tS Ω F ((ρ.set j (.own es')).set i (.own (ds ++ [d]))) (k d es') en el)) (hN : X.N[i]? = some x := by rfl) (hN2 : X.N[j]? = some y := by rfl)
    (hv : Vis X.env.scope x := by first | exact Or.inl rfl | exact Or.inr (Or.inl rfl) | exact Or.inr (Or.inr rfl)) (hv2 : Vis X.env.scope y := by first | exact Or.inl rfl | exact Or.inr (Or.inl rfl) | exact Or.inr (Or.inr rfl))
    (hd : (x == ("__debug__" : Str)) = false := by decide) (hcd : (x == ("__classdict__" : Str)) = false := by decide) (hd2 : (y == ("__debug__" : Str)) = false := by decide) (hcd2 : (y == ("__classdict__" : Str)) = false := by decide)
    (he : starEach [.Call (.Attribute (.Name y p2) "pop" ap2) [e] [] cp2] X.env = (false, eval (.Call (.Attribute (.Name y p2) "pop" ap2) [e] [] cp2) X.env) :: starEach [] X.env := by rfl)
    (he2 : starEach [e] X.env = (false, eval e X.env) :: starEach [] X.env := by rfl)
    (hline : (ap.endLine == cp.line) = true := by rfl) (hline2 : (ap2.endLine == cp2.line) = true := by rfl)
    (hbase : attributeBase (.Name x p) "append" X.env (eval (.Name x p) X.env) = eval (.Name x p) X.env := by rfl) (hbase2 : attributeBase (.Name y p2) "pop" X.env (eval (.Name y p2) X.env) = eval (.Name y p2) X.env := by rfl)
    (hfew : ((backTo cp (starEach [.Call (.Attribute (.Name y p2) "pop" ap2) [e] [] cp2] X.env)).all (fun x => !x.1) && (backToKw cp (keywordEach [] X.env)).all (fun x => x.1.isSome)
      && decide ([Expr.Call (.Attribute (.Name y p2) "pop" ap2) [e] [] cp2].length + ([] : List Keyword).length + (if ([] : List Keyword).isEmpty then 0 else 1) < 30)) = true := by rfl)
    (hfew2 : ((backTo cp2 (starEach [e] X.env)).all (fun x => !x.1) && (backToKw cp2 (keywordEach [] X.env)).all (fun x => x.1.isSome)
      && decide ([e].length + ([] : List Keyword).length + (if ([] : List Keyword).isEmpty then 0 else 1) < 30)) = true := by rfl)
    (hs : swapsWith (.Call (.Attribute (.Name x p) "append" ap) [.Call (.Attribute (.Name y p2) "pop" ap2) [e] [] cp2] [] cp) none pos.line X.env = pure false := by rfl)
    (hp2 : (backTo cp2 (starEach [] X.env)).any (·.1) = false := by rfl) :
    PSs X (.Expr (.Call (.Attribute (.Name x p) "append" ap) [.Call (.Attribute (.Name y p2) "pop" ap2) [e] [] cp2] [] cp) pos :: rest) (tS Ω F ρ (me >>= popD es fun d es' => gd (ds.length < lim) (k d es')) en el) :=
  PSsi (pss_cons (ps_expr (pe_bm (T := "list") (id := "list.append") PySem.F.plainAttrs_list PySem.F.slot_list_append PySem.F.type_list_append mt_append (pe_var hN hv hd hcd)
    (pa_cons (pe_bm (T := "list") (id := "list.pop") PySem.F.plainAttrs_list PySem.F.slot_list_pop PySem.F.type_list_pop mt_popAt (pe_var hN2 hv2 hd2 hcd2) (pa_cons h pa_nil he2) hbase2 hfew2 hline2 he2 hp2) pa_nil he) hbase hfew hline he) hs) (PSsx fun (z : D × List D) => hr z.1 z.2)) fun E σ H ⟨S, G, I, w⟩ => by
    obtain ⟨q, vs, e1, m, hq, rs⟩ := I.ownL hc
    obtain ⟨q2, vs2, e2, m2, hq2, rs2⟩ := I.ownL hc2
    have nq : q ≠ q2 := fun z => hij (I.inj i j _ _ q hc hc2 rfl rfl e1 (by rw [e2, z]))
    refine ⟨.ref q, e1, .inl ⟨rfl, vs, .inl (.inl hq)⟩, ?_⟩
    refine ⟨.ref q2, e2, .inl ⟨rfl, vs2, .inl (.inl hq2)⟩, ?_⟩
    rw [wp_bind] at w
    refine ⟨S, G, I, w.imp fun d S1 w G1 H1 v w1 g1 h1 r1 => ?_⟩
    cases d with
    | int n =>
      cases r1
      unfold popD at w
      rw [wp_gd] at w
      obtain ⟨⟨n0, n1⟩, w⟩ := w
      have I1 := I.step w1 g1 h1
      have s1 := g1.same I.f.w.same
      obtain ⟨q', vs', e1', m', hq', rs'⟩ := I1.ownL hc
      rw [e1] at e1'
      cases e1'
      obtain ⟨q2', vs2', e2', m2', hq2', rs2'⟩ := I1.ownL hc2
      rw [e2] at e2'
      cases e2'
      cases hg : es[n.toNat]? with
      | none => rw [hg] at w; exact w.elim
      | some dd =>
        rw [hg] at w
        rw [wp_gd, lim_eq] at w
        obtain ⟨vv, hvv, rv⟩ := rs2'.getD hg
        have lt : n.toNat < vs2'.length := by
          rw [List.getElem?_eq_some_iff] at hvv
          exact hvv.1
        refine ⟨q2, vs2', n, n.toNat, vv, rfl, rfl, hq2', by omega, n1, ?_, hvv, ?_⟩
        · have h0 : ¬ n < 0 := by omega
          have h2 : (decide (0 ≤ n) && decide (n < ((vs2'.length : Nat) : Int))) = true := by
            rw [Bool.and_eq_true, decide_eq_true_eq, decide_eq_true_eq]
            omega
          unfold seqIndex?
          simp only [if_neg h0]
          rw [if_pos h2]
        · have I2 := I1.write hc2 rfl e2 m2' (.lst (vs2'.eraseIdx n.toNat)) (c' := .own (es.eraseIdx n.toNat)) ⟨q2, _, rfl, m2', upd_same, rs2'.erase _⟩
          refine ⟨q, vs', vv, rfl, rfl, by rw [upd_ne nq]; exact hq', by rw [rs'.length]; exact w.1, ?_⟩
          have hc' : (ρ.set j (.own (es.eraseIdx n.toNat)))[i]? = some (.own ds) := by rw [List.getElem?_set_ne (Ne.symm hij)]; exact hc
          exact ⟨(dd, es.eraseIdx n.toNat), S1, G1, I2.write hc' rfl e1 m' _ ⟨q, _, rfl, m', upd_same, rs'.append (.cons rv .nil)⟩, w.2.imp fun fl S2 p2 => p2.le s1⟩
    | _ => exact w.elim
/-- len(y), y an own list -/
theorem pdLenO {es : List D} {p pos : Pos} (hc : ρ[j]? = some (.own es)) (hm : X.mg "len" = none) (hN : X.N[j]? = some y := by rfl) (hg : Gl X "len" := by rfl) (hv : Vis X.env.scope y := by first | exact Or.inl rfl | exact Or.inr (Or.inl rfl) | exact Or.inr (Or.inr rfl)) (hd : (y == ("__debug__" : Str)) = false := by decide) (hcd : (y == ("__classdict__" : Str)) = false := by decide)
    (he : starEach [.Name y p2] X.env = (false, eval (.Name y p2) X.env) :: starEach [] X.env := by rfl) (hpl : (backTo pos (starEach [] X.env)).any (·.1) = false := by rfl) : PE X (.Call (.Name "len" p) [.Name y p2] [] pos) (tD Ω F ρ (pure (.int (es.length : Nat)))) :=
  PEi (pe_callB call_len_seq hg hm (by decide +kernel) (pa_cons (pe_var hN hv hd hcd) pa_nil he) (by decide) (by decide) he hpl) fun σ H Q h => by
    obtain ⟨S, G, I, h⟩ := h
    obtain ⟨q, vs, e1, m, hq, rs⟩ := I.ownL hc
    refine ⟨.ref q, e1, q, vs, rfl, .inl (.inl (.inl hq)), ?_⟩
    rw [rs.length]
    exact h G H _ I.f.w (GX.refl _ _) (HX.refl _ _) (.int _)
end
end DL
namespace DL
open PySem PySem.Spec PyProof.Rows L2
section
variable {X : Cx} {Ω : Om} {F : Fr} {ρ : Env'} {j : Nat} {y : Str} {p1 p2 pos : Pos}
theorem op_neR (hu : X.A.units + 64 < cLine) : OpR X (compareOp .NotEq) (fun x y H Q => ∃ dx dy, Dp X.K H x dx ∧ Dp X.K H y dy ∧ dx.plain = true ∧ dy.plain = true ∧ dx.depth ≤ 64 ∧ Q (.bl (!PyData.eqv dx dy)) H) := by
  intro pins s σ H x y v u Q I rx ry ⟨dx, dy, p1, p2, h1, h2, hd, h⟩
  obtain ⟨as, r1⟩ := Dp.reads I _ x v p1 rx
  obtain ⟨bs, r2⟩ := Dp.reads I _ y u p2 ry
  exact PySem.SeqAt.ne_plain r1 r2 h1 h2 (by omega) ⟨.bl _, H, I, rfl, h⟩
theorem DpAll_same {K : PySem.W.Frag} {H H' : Hp} (s : Same H H') : ∀ (ds : List PyData) (vs : List V), DpAll K H vs ds → DpAll K H' vs ds
  | [], _, h => by cases h; exact .nil
  | d :: ds, _, h => by
    cases h with
    | cons a b => exact .cons (Dp.same s _ _ a) (DpAll_same s ds _ b)
/-- y != [], y an own list -/
theorem ptNeO {es : List D} (hK : X.K = Ω.K) (hu : X.A.units + 64 < cLine) (hc : ρ[j]? = some (.own es)) (hN : X.N[j]? = some y := by rfl) (hv : Vis X.env.scope y := by first | exact Or.inl rfl | exact Or.inr (Or.inl rfl) | exact Or.inr (Or.inr rfl)) (hd : (y == ("__debug__" : Str)) = false := by decide) (hcd : (y == ("__classdict__" : Str)) = false := by decide) :
    PT X (.Compare (.Name y p2) [.NotEq] [.List [] p1] pos) (tT Ω F ρ (gd ((D.lst es).sh = true) (pure (!es.isEmpty)))) :=
  PTi (pt_cmpR (op_neR hu) (pe_var hN hv hd hcd) (pe_lst pa_nil) (by rfl)) fun σ H Q ⟨S, G, I, w⟩ => by
    rw [wp_gd] at w
    obtain ⟨hs, w⟩ := w
    obtain ⟨q, vs, e1, m, hq, rs⟩ := I.ownL hc
    refine ⟨.ref q, e1, ?_⟩
    refine ⟨Nat.zero_le _, fun a ha => ?_⟩
    have ne : q ≠ a := fun e => by rw [e, ha] at hq; cases hq
    have hq' : upd H a (.lst []) q = some (.lst vs) := by rw [upd_ne ne]; exact hq
    have w2 : Wd Ω S G (upd H a (.lst [])) := I.f.w.grow (same_upd ha)
    have pl : PyData.plainAll (D.pys es) = true := by
      have := sh_pl hs
      simpa [D.py, PyData.plain] using this
    have all : DpAll X.K (upd H a (.lst [])) vs (D.pys es) := hK ▸ DpAll_same w2.same _ _ (Reps.dp es vs pl rs)
    refine ⟨.list (D.pys es), .list [], .lst (.inl (.inl hq')) all, .lst (.inl (.inl upd_same)) .nil, sh_pl hs, rfl, sh_dp hs, ?_⟩
    have ev : PyData.eqv (.list (D.pys es)) (.list []) = es.isEmpty := by cases es <;> rfl
    rw [ev]
    exact ⟨_, rfl, w G _ _ w2 (GX.refl _ _) (HX.new ha _) rfl⟩
end
end DL
namespace DL
open PySem PySem.Spec PyProof.Rows L2
def onSeq {α : Type} (d : D) (f : List D → M α) : M α := match d with
  | .lst ds => f ds
  | .tup _ ds => f ds
  | _ => M.stuck
section
variable {X : Cx} {Ω : Om} {F : Fr} {ρ : Env'} {β γ : Type} {en : β → Env'} {el : γ → Env'} {i j : Nat} {x y : Str} {pos px py pt p2 pc pl pn : Pos} {kt k2 : Nat} {e : Expr} {me : M D} {rest : List Stmt} {kk : List D → M (Fl β γ)}
/-- x, y = list(e), [] : both the def's own -/
theorem pssOwn2 (hN : X.N.Nodup) (hc : X.calm = true) (hij : i ≠ j) (hm : X.mg "list" = none) (hb : bootBuiltins "list" = some (.type "list")) (h : PE X e (tD Ω F ρ me)) (hK : X.K = Ω.K) (hr : ∀ ds, PSs X rest (tS Ω F ((ρ.set i (.own ds)).set j (.own [])) (kk ds) en el))
    (hg : Gl X "list" := by rfl) (hix : X.N[i]? = some x := by rfl) (hx : Loc X.env.scope x := by first | exact Or.inl rfl | exact Or.inr rfl) (hf : X.fn x = true ∨ X.env.scope.names.lookup x = some .local := by first | exact Or.inl rfl | exact Or.inr rfl)
    (hjy : X.N[j]? = some y := by rfl) (hy : Loc X.env.scope y := by first | exact Or.inl rfl | exact Or.inr rfl) (hf2 : X.fn y = true ∨ X.env.scope.names.lookup y = some .local := by first | exact Or.inl rfl | exact Or.inr rfl)
    (he : starEach [e] X.env = (false, eval e X.env) :: starEach [] X.env := by rfl) (hpl : (backTo pc (starEach [] X.env)).any (·.1) = false := by rfl)
    (he1 : starEach [.Call (.Name "list" pn) [e] [] pc, .List [] pl] X.env = (false, eval (.Call (.Name "list" pn) [e] [] pc) X.env) :: starEach [.List [] pl] X.env := by rfl) (he2 : starEach [.List [] pl] X.env = (false, eval (.List [] pl) X.env) :: starEach [] X.env := by rfl)
    (hs : swapsWithSole [.Tuple [.Name x px, .Name y py] kt pt] (.Tuple [.Call (.Name "list" pn) [e] [] pc, .List [] pl] k2 p2) pos.line X.env = pure false := by rfl) (hw : swappedStores [.Tuple [.Name x px, .Name y py] kt pt] (.Tuple [.Call (.Name "list" pn) [e] [] pc, .List [] pl] k2 p2) X.env = pure (some [x, y]) := by rfl) :
    PSs X (.Assign [.Tuple [.Name x px, .Name y py] kt pt] (.Tuple [.Call (.Name "list" pn) [e] [] pc, .List [] pl] k2 p2) pos :: rest) (tS Ω F ρ (me >>= fun d => onSeq d kk) en el) :=
  PSsi (pss_cons (ps_swap2 hN hc (pa_cons (pe_callTy call_list_of hg hm hb (pa_cons h pa_nil he) (by decide) (by decide) he hpl) (pa_cons (pe_lst pa_nil) pa_nil he2) he1) hix hx hf hjy hy hf2 hs hw) (PSsx hr)) fun E σ H ⟨S, G, I, w⟩ => by
    rw [wp_bind] at w
    refine ⟨S, G, I, w.imp fun d S1 w G1 H1 v w1 g1 h1 r1 => ?_⟩
    have I1 := I.step w1 g1 h1
    have s1 := g1.same I.f.w.same
    cases d with
    | lst ds =>
      cases r1 with
      | @lst _ ys _ q rs =>
        have w : (kk ds).wp (PSt Ω F en el G E) (Er Ω F) S1 := w
        refine ⟨_, ys, rfl, .inl (I1.f.w.lst q), fun l hl => ?_⟩
        have I2 := I1.newOwn (i := i) (c' := .own ds) hl (.lst ys) ⟨l, ys, rfl, I1.f.mine hl, upd_same, rs⟩
        refine ⟨Nat.zero_le _, fun l2 hl2 => ?_⟩
        have I3 := I2.newOwn (i := j) (c' := .own []) hl2 (.lst []) ⟨l2, [], rfl, I2.f.mine hl2, upd_same, .nil⟩
        refine ⟨by show 2 ≤ sizeLine; decide, fun q hq => ⟨q, .ref l, .ref l2, rfl, .inl (.inl upd_same), ?_⟩⟩
        have I4 := I3.step (I3.f.w.grow (same_upd (o := .tup [.ref l, .ref l2]) hq)) (GX.refl _ _) (HX.of (same_upd hq))
        rw [List.set_comm _ _ hij (l := σ)] at I4
        exact ⟨ds, S1, G1, I4, w.imp fun fl S3 p3 => p3.le s1⟩
    | tup t ds =>
      cases r1 with
      | @tup _ _ ys _ q rs =>
        have w : (kk ds).wp (PSt Ω F en el G E) (Er Ω F) S1 := w
        refine ⟨_, ys, rfl, .inr (I1.f.w.tup q), fun l hl => ?_⟩
        have I2 := I1.newOwn (i := i) (c' := .own ds) hl (.lst ys) ⟨l, ys, rfl, I1.f.mine hl, upd_same, rs⟩
        refine ⟨Nat.zero_le _, fun l2 hl2 => ?_⟩
        have I3 := I2.newOwn (i := j) (c' := .own []) hl2 (.lst []) ⟨l2, [], rfl, I2.f.mine hl2, upd_same, .nil⟩
        refine ⟨by show 2 ≤ sizeLine; decide, fun q hq => ⟨q, .ref l, .ref l2, rfl, .inl (.inl upd_same), ?_⟩⟩
        have I4 := I3.step (I3.f.w.grow (same_upd (o := .tup [.ref l, .ref l2]) hq)) (GX.refl _ _) (HX.of (same_upd hq))
        rw [List.set_comm _ _ hij (l := σ)] at I4
        exact ⟨ds, S1, G1, I4, w.imp fun fl S3 p3 => p3.le s1⟩
    | _ => exact w.elim
end
end DL
set_option Elab.async false
set_option linter.all false
set_option maxRecDepth 100000
set_option autoImplicit false
/-! DLm: sorted of lists and tuples of any data, zip. -/
namespace DL
open PySem PySem.Spec PyProof.Rows L2

/-! ### sorted(xs), a tuple -/
section
variable {prog : Program} {w : World} {A : Around} {E : Value → Shared → Prop} {s : Shared}
theorem collect_tuple {l : Addr} {vs : List Value} {Q : List Value → Shared → Prop} (hl : s.heap.IsTuple l vs.toArray)
    (h : Q vs { s with heap := (s.heap.push (seqObj "list" #[] 0)).update s.heap.objs.size (Obj.mapSeq (· ++ vs.toArray)) }) (hsz : vs.length ≤ sizeLine) :
    wpAny (model prog w) A (collect (.ref l)) Q E s := by
  obtain ⟨o, ho, hc, n, hd⟩ := id hl
  unfold collect
  refine wpAny_bind (wpAny_runValue (codeAny_builtin entry_proto_collect' ?_))
  show wpAny _ _ (do again (.builtin "list.__iadd__" ⟨[← newList [], .ref l], []⟩)) _ _ s
  refine wpAny_bind (wpAny_newList (wpAny_pure ⟨Code.quiet_builtin _ (by decide +kernel), codeAny_builtin entry_list_iadd' ?_⟩))
  show wpAny _ _ (Builtin.List.listExtendWith (.ref s.heap.objs.size) (.ref l) (.ref s.heap.objs.size)) _ _ { s with heap := s.heap.push (seqObj "list" #[] 0) }
  unfold Builtin.List.listExtendWith
  have ho' : (s.heap.push (seqObj "list" #[] 0)).get? l = some o := Heap.get?_push_of_some _ ho
  refine wpAny_bind (wpAny_typeOf (T := "tuple") ⟨o, ho', hc⟩ ?_)
  have ht : (Value.type "tuple" == Value.type "tuple") = true := by rfl
  rw [if_pos (by rw [ht]; simp)]
  refine wpAny_bind (listItems_at ho' hd ?_)
  refine wpAny_bind (listItems_at (xs := #[]) (n := 0) (Heap.get?_push_size _ rfl) rfl ?_)
  rw [if_neg (by simp)]
  refine wpAny_bind (listUpdate_at (xs := #[]) (n := 0) (Heap.get?_push_size _ rfl) rfl ?_ (Nat.zero_le _) (by show (#[] ++ vs.toArray).size ≤ sizeLine + 1; simp only [Array.size_append, List.size_toArray, List.length_nil]; omega))
  refine wpAny_pure ?_
  show wpAny (model prog w) A (do
      let o ← load s.heap.objs.size
      match o.data with
      | .seq xs _ => pure xs.toList
      | _ => unsupported "internal:collect") Q E { s with heap := (s.heap.push (seqObj "list" #[] 0)).update s.heap.objs.size (Obj.mapSeq (· ++ vs.toArray)) }
  refine wpAny_bind (wpAny_load (get?_update_seq (Heap.get?_push_size _ rfl) _) ?_)
  show wpAny _ _ (pure ((#[] : Array Value) ++ vs.toArray).toList) Q E _
  rw [show ((#[] : Array Value) ++ vs.toArray).toList = vs by simp]
  exact wpAny_pure h
open PySem.W PySem.Calls in
theorem sorted_of_sortT {l : Addr} {vs : List Value} {kw : List (Str × Value)} {Q : Value → Shared → Prop} (hl : s.heap.IsTuple l vs.toArray) (hL : vs.length ≤ sizeLine) (ha1 : argsOk "sorted" ⟨[.ref l], kw⟩) (ha2 : ∀ x, argsOk "list.sort" ⟨[.ref x], kw⟩)
    (body : ∀ E' : Value → Shared → Prop, wpAny (model prog w) A.in1.in1 (Builtin.«list.sort» ⟨[.ref (s.heap.objs.size + 1)], kw⟩) (fun f s' => f = .done (.ret .none) ∧ Q (.ref (s.heap.objs.size + 1)) s') E' { s with heap := copyHeap s.heap vs }) :
    wpAny (model prog w) A (call (.builtin "sorted") [.ref l] kw) Q E s := by
  refine call_function_entry_kw kind_sorted plain_sorted entry_sorted ha1 ?_
  unfold Builtin.«sorted»
  refine wpAny_bind (m := checkCount "sorted" 1 1 _) (wpAny_pure ?_)
  refine wpAny_bind (collect_tuple hl ?_ hL)
  refine wpAny_bind (wpAny_newList ?_ hL)
  have hsz : ((s.heap.push (seqObj "list" #[] 0)).update s.heap.objs.size (Obj.mapSeq (· ++ vs.toArray))).objs.size = s.heap.objs.size + 1 := by
    rw [Heap.size_update, size_push']
  show wpAny _ _ _ _ _ { s with heap := copyHeap s.heap vs }
  rw [hsz]
  refine wpAny_bind (wpAny_holding (wpAny_call_entry_kw slot_list_sort ⟨_, copyHeap_at s.heap vs, rfl⟩ entry_list_sort ?body (ha2 _)))
  case body =>
    show wpAny (model prog w) A.in1.in1 (Builtin.«list.sort» ⟨[.ref (s.heap.objs.size + 1)], kw⟩) _ _ _
    refine wpAny_mono (body _) (fun f s' hf => ?_) fun _ _ e => e
    obtain ⟨rfl, hq⟩ := hf
    exact ⟨_, rfl, wpAny_pure ⟨_, rfl, hq⟩⟩
/-- a list or a tuple -/
def SeqAtV (s : Shared) (l : Addr) (vs : List Value) : Prop := s.heap.IsList l vs.toArray ∨ s.heap.IsTuple l vs.toArray
open PySem.W PySem.Calls in
theorem sorted_of_sort2 {l : Addr} {vs : List Value} {Q : Value → Shared → Prop} (hl : SeqAtV s l vs) (hL : vs.length ≤ sizeLine)
    (body : ∀ E' : Value → Shared → Prop, wpAny (model prog w) A.in1.in1 (Builtin.«list.sort» ⟨[.ref (s.heap.objs.size + 1)], []⟩) (fun f s' => f = .done (.ret .none) ∧ Q (.ref (s.heap.objs.size + 1)) s') E' { s with heap := copyHeap s.heap vs }) :
    wpAny (model prog w) A (call (.builtin "sorted") [.ref l]) Q E s :=
  hl.elim (fun hl => sorted_of_sort hl hL (args_sorted1 _) (fun _ => args_list_sort _) body) fun hl => sorted_of_sortT hl hL (args_sorted1 _) (fun _ => args_list_sort _) body
open PySem.W in
theorem sorted_data2 {β : Type} {R : Value → β → Prop} {enc : β → PyData} {bs : List β} {vs : List Value} {l : Addr} {Q : Value → Shared → Prop} (hl : SeqAtV s l vs) (e : EachIs R vs bs) (er : EachIs (fun v b => ∃ as, Reads s.heap v (enc b) as) vs bs) (hal : AllAlike (bs.map enc)) (hk : Sortable (bs.map enc)) (hL : bs.length ≤ sizeLine)
    (hu : ∀ b, b ∈ bs → A.units + 2 + (enc b).depth < cLine) (h : ∀ out, out.length = bs.length → EachIs R out (bs.mergeSort (dataLe false enc)) → Q (.ref (s.heap.objs.size + 1)) { s with heap := sortedAll s.heap vs (List.toArray out) }) :
    wpAny (model prog w) A (call (.builtin "sorted") [.ref l]) Q E s := by
  have er' : EachIs (fun v b => ∃ as, Reads (sortingHeap (copyHeap s.heap vs) (s.heap.objs.size + 1) vs) v (enc b) as) vs bs := er.mono fun _ _ ⟨as, r⟩ => ⟨as, PyProof.Rows.Reads.keeps (fun _ _ => sorting_copy_old) r⟩
  have S := SortsAt.data (prog := prog) (w := w) (A := A.in1.in1) (s := { s with heap := sortingHeap (copyHeap s.heap vs) (s.heap.objs.size + 1) vs }) (each_map (R := fun v d => ∃ as, Reads (sortingHeap (copyHeap s.heap vs) (s.heap.objs.size + 1) vs) v d as) enc er') hal hk (bound_map hu)
  exact sorted_of_sort2 hl (by rw [e.length]; exact hL) fun _ => list_sort_vals (s := { s with heap := copyHeap s.heap vs }) (copyHeap_at s.heap vs) S (by rw [e.length]; exact hL)
    ⟨rfl, h _ (by rw [sortVals_length false rfl]; exact e.length) (sortVals_data false e er' hal)⟩
end
end DL
namespace DL
open PySem PySem.Spec PyProof.Rows L2
/-! ### sorted as a rule -/
/-- every two alike, shallow, not None; all tuples with an item, or none a tuple -/
def sortable (xs : List D) : Bool :=
  xs.all (fun x => xs.all fun y => D.alk x y) && xs.all (fun x => x.py.plain && decide (x.py.depth ≤ 8)) &&
    (xs.all (fun x => match x with | .tup _ (_ :: _) => true | _ => false) || xs.all (fun x => match x with | .non => false | .tup _ _ => false | .dct _ _ _ => false | .st => false | .opq _ => false | _ => true))
def leD : D → D → Bool := PySem.W.dataLe false D.py
def dSortL (xs : List D) : M D := gd (xs.length ≤ lim ∧ (xs.length ≤ 1 ∨ sortable xs = true)) (pure (.lst (xs.mergeSort leD)))
def dSorted : D → M D
  | .lst xs => dSortL xs
  | .tup _ xs => dSortL xs
  | d => dSortedK d
section
variable {X : Cx} {Ω : Om} {F : Fr} {ρ : Env'} {S : DS} {G H : Hp}
theorem Reps.zipR {vs : List V} {ds : List D} (r : Reps Ω G vs ds) : ∀ p ∈ vs.zip ds, Rep Ω G p.1 p.2 := by
  induction vs generalizing ds with
  | nil => intro p hp; simp at hp
  | cons v vs ih =>
    cases r with
    | cons h t =>
      intro p hp
      rw [List.zip_cons_cons] at hp
      rcases List.mem_cons.mp hp with rfl | hp
      · exact h
      · exact ih t p hp
theorem Reps.ofAll : ∀ (ps : List (V × D)), (∀ p ∈ ps, Rep Ω G p.1 p.2) → Reps Ω G (ps.map (·.1)) (ps.map (·.2))
  | [], _ => .nil
  | p :: ps, h => .cons (h p (List.mem_cons_self ..)) (Reps.ofAll ps fun q hq => h q (List.mem_cons_of_mem _ hq))
theorem vals_each : ∀ {vs : List V} {us : List Value} {ds : List D}, Vals vs us → vs.length = ds.length → PySem.W.EachIs (fun (u : Value) (p : V × D) => RelV p.1 u) us (vs.zip ds)
  | [], _, ds, h, _ => by cases h; cases ds <;> exact .nil
  | v :: vs, _, [], _, h => by simp at h
  | v :: vs, _, d :: ds, h, l => by
    cases h with
    | cons a b => exact .cons a (vals_each b (by simpa using l))
theorem each_vals : ∀ {us : List Value} {ps : List (V × D)}, PySem.W.EachIs (fun (u : Value) (p : V × D) => RelV p.1 u) us ps → Vals (ps.map (·.1)) us
  | _, _, .nil => .nil
  | _, _, .cons a b => .cons a (each_vals b)
theorem each_reads {pins : List (Addr × Obj)} {σ : L2.St} {s : Shared} (I : Inv X pins σ H s) : ∀ {us : List Value} {ps : List (V × D)}, PySem.W.EachIs (fun (u : Value) (p : V × D) => RelV p.1 u) us ps → (∀ p ∈ ps, Dp X.K H p.1 p.2.py) →
    PySem.W.EachIs (fun (u : Value) (p : V × D) => ∃ as, Reads s.heap u p.2.py as) us ps
  | _, _, .nil, _ => .nil
  | _, _, .cons a b, h => .cons (Dp.reads I _ _ _ (h _ (List.mem_cons_self ..)) a) (each_reads I b fun p hp => h p (List.mem_cons_of_mem _ hp))
theorem swo_none : SrtO.Swo (fun (_ _ : Value) => false) := ⟨fun _ _ _ => rfl, fun _ _ _ _ _ => rfl⟩
theorem perm_short {α : Type} {l m : List α} (p : l.Perm m) (h : m.length ≤ 1) : l = m := by
  have e := p.length_eq
  match m, h with
  | [], _ => exact p.eq_nil
  | [x], _ => exact List.perm_singleton.mp p
theorem mergeSort_short {α : Type} {le : α → α → Bool} {l : List α} (h : l.length ≤ 1) : l.mergeSort le = l := perm_short (List.mergeSort_perm l le) h
theorem zip_snd {α β : Type} : ∀ {l : List α} {m : List β}, l.length = m.length → (l.zip m).map (·.2) = m
  | [], [], _ => rfl
  | a :: l, b :: m, h => by simp [zip_snd (l := l) (m := m) (by simpa using h)]
  | [], _ :: _, h => by simp at h
  | _ :: _, [], h => by simp at h
/-- a new list laid behind a sort -/
theorem sort_core {pins : List (Addr × Obj)} {σ : L2.St} {s : Shared} {a : Addr} {its : List Value} {vs : List V} {ds : List D} {Q : VK} (hK : X.K = Ω.K) (hu : X.A.units + 64 < cLine) (I : Inv X pins σ H s) (f : Fx Ω F S G H) (rv : Vals vs its) (hl : SeqAtV s a its) (hz : vs.length ≤ sizeLine) (r : Reps Ω G vs ds)
    (h : (dSortL ds).wp (Pg Ω (RD Ω) G H Q) (Er Ω F) S) : wpAny (model X.prog X.w) X.A (call (.builtin "sorted") [.ref a]) (EP X pins σ Q) X.xe s := by
  unfold dSortL at h
  rw [wp_gd] at h
  obtain ⟨⟨h1, h2⟩, h⟩ := h
  have lvd := r.length
  have fin : ∀ (out : List Value) (vs' : List V), Vals vs' out → Reps Ω G vs' (ds.mergeSort leD) → vs'.length ≤ sizeLine → EP X pins σ Q (.ref (s.heap.objs.size + 1)) { s with heap := sortedAll s.heap its (List.toArray out) } := fun out vs' k1 k2 k3 => by
    obtain ⟨ep, he'⟩ := PyProof.Rows.sortedAll_at s.heap its out.toArray
    have fr := I.hok.fresh (Nat.le_succ s.heap.objs.size)
    exact ⟨.ref _, upd H (s.heap.objs.size + 1) (.lst vs'), I.laid (t' := s.toks) (fun _ _ => PyProof.Rows.sortedAll_old) (Nat.le_succ _) ⟨k3, out, ep, k1, he'⟩, rfl, Pg.newO f h fr (.newL f.w fr k2)⟩
  rcases h2 with h2 | h2
  · refine sorted_of_sort2 hl (by rw [← rv.length]; exact hz) fun E' => SrtO.list_sort_ord swo_none (PySem.W.copyHeap_at s.heap its) (by rw [← rv.length]; exact hz) (fun h3 => by rw [← rv.length, lvd] at h3; omega) fun out _ st => ⟨rfl, ?_⟩
    have e : out = its := perm_short st.perm (by rw [← rv.length, lvd]; exact h2)
    subst e
    refine fin out vs rv ?_ hz
    rw [mergeSort_short h2]
    exact r
  · unfold sortable at h2
    simp only [Bool.and_eq_true, Bool.or_eq_true, List.all_eq_true, decide_eq_true_eq] at h2
    obtain ⟨⟨ha, hp⟩, hs⟩ := h2
    have mem : ∀ p ∈ vs.zip ds, p.2 ∈ ds := fun p hp => (List.of_mem_zip (a := p.1) (b := p.2) hp).2
    have E := vals_each rv lvd
    have hd : ∀ p ∈ vs.zip ds, Dp X.K H p.1 p.2.py := fun p hpm => hK ▸ Rep.dpH (r.zipR p hpm) (hp _ (mem p hpm)).1 f.w
    refine sorted_data2 (enc := fun p : V × D => p.2.py) hl E (each_reads I E hd) ?_ ?_ ?_ ?_ fun out lo eo => ?_
    · intro d hd d' hd'
      obtain ⟨p, hpm, rfl⟩ := List.mem_map.mp hd
      obtain ⟨q, hqm, rfl⟩ := List.mem_map.mp hd'
      exact ha _ (mem p hpm) _ (mem q hqm)
    · rcases hs with hs | hs
      · refine .inl fun d hd => ?_
        obtain ⟨p, hpm, rfl⟩ := List.mem_map.mp hd
        have := hs _ (mem p hpm)
        split at this
        · rename_i e
          exact ⟨_, _, by rw [e, D.py, D.pys]⟩
        · exact nomatch this
      · refine .inr fun d hd => ?_
        obtain ⟨p, hpm, rfl⟩ := List.mem_map.mp hd
        have := hs _ (mem p hpm)
        split at this
        · exact nomatch this
        · exact nomatch this
        · exact nomatch this
        · exact nomatch this
        · exact nomatch this
        · rename_i x n1 n2 n3 n4 n5
          cases e : p.2 with
          | non => exact absurd e n1
          | tup t xs => exact absurd e (n2 _ _)
          | dct t ks ws => exact absurd e (n3 _ _ _)
          | st => exact absurd e n4
          | opq n => exact absurd e (n5 _)
          | bl b => simp [D.py]
          | int b => simp [D.py]
          | str b => simp [D.py]
          | lst b => simp [D.py]
    · rw [List.length_zip]; omega
    · intro p hpm
      have := (hp _ (mem p hpm)).2
      show X.A.units + 2 + p.2.py.depth < cLine
      omega
    · have k1 := each_vals eo
      have e1 : ((vs.zip ds).mergeSort (PySem.W.dataLe false fun p : V × D => p.2.py)).map (·.2) = ds.mergeSort leD := by
        rw [List.map_mergeSort (r := PySem.W.dataLe false fun p : V × D => p.2.py) (s := leD) (f := fun p : V × D => p.2) fun a _ b _ => rfl, zip_snd lvd]
      refine fin out _ k1 ?_ ?_
      · rw [← e1]
        exact Reps.ofAll _ fun p hpm => r.zipR p ((List.mergeSort_perm _ _).mem_iff.mp hpm)
      · rw [List.length_map, List.length_mergeSort, List.length_zip]; omega
theorem dc_sorted (hK : X.K = Ω.K) (hu : X.A.units + 64 < cLine) (hc : X.calm = true) : CallR X (.builtin "sorted") (rDl Ω F (ar1 dSorted)) := by
  intro pins s σ H vs us Q I rr h0
  obtain ⟨x, S, G, d, rfl, f, r, h⟩ := rDl1 h0
  cases d with
  | lst xs =>
    cases r with
    | @lst a ys _ q qs =>
      obtain ⟨its, rv, hl, hz⟩ := I.list (f.w.lst (K := X.K) q)
      rw [Vals.ref1 rr]
      exact sort_core hK hu I f rv (.inl hl.isList) hz qs h
  | tup t xs =>
    cases r with
    | @tup a _ ys _ q qs =>
      obtain ⟨its, rv, hl, hz⟩ := I.tuple (f.w.tup (K := X.K) q)
      rw [Vals.ref1 rr]
      exact sort_core hK hu I f rv (.inr hl) hz qs h
  | dct t ks ws => exact dc_sortedK hc pins s σ H _ us Q I rr ⟨S, G, [_], f, .cons r .nil, h⟩
  | _ => exact dc_sortedK hc pins s σ H _ us Q I rr ⟨S, G, [_], f, .cons r .nil, h⟩
end
/-! ### zip -/
def zipD (xs ys : List D) : List D := (xs.zip ys).map fun p => .tup false [p.1, p.2]
def dZip : List D → M (List D)
  | [.lst xs, .lst ys] => pure (zipD xs ys)
  | [.tup _ xs, .tup _ ys] => pure (zipD xs ys)
  | _ => M.stuck
section
variable {X : Cx} {Ω : Om} {F : Fr} {ρ : Env'} {S : DS} {G H : Hp} {e e2 : Expr}
theorem zipD_get {xs ys : List D} {i : Nat} {d d' : D} (h : xs[i]? = some d) (h' : ys[i]? = some d') : (zipD xs ys)[i]? = some (.tup false [d, d']) := by
  simp only [zipD, List.getElem?_map]
  have : (xs.zip ys)[i]? = some (d, d') := by rw [List.getElem?_zip_eq_some]; exact ⟨h, h'⟩
  rw [this]; rfl
theorem dw_zip {J : It} {vs ws : List V} {xs ys : List D} (r : Reps Ω G vs xs) (r' : Reps Ω G ws ys) (go : ∀ i H, Same G H → i < vs.length → i < ws.length → J.go i H) (stop : ∀ i H, Same G H → (vs.length ≤ i ∨ ws.length ≤ i) → J.stop i H)
    (yl : ∀ i H v H', Same G H → J.yld i H v H' → ∃ T x y, v = .ref T ∧ H T = none ∧ H' = upd H T (.tup [x, y]) ∧ vs[i]? = some x ∧ ws[i]? = some y) : DW Ω J (zipD xs ys) G := by
  have hl : (zipD xs ys).length = min vs.length ws.length := by simp [zipD, r.length, r'.length]
  refine ⟨fun i H s hi => ?_, fun H s => ?_, fun i H v H' s hi y => ?_⟩
  · rw [hl] at hi
    exact go i H s (by omega) (by omega)
  · rw [hl]
    exact stop _ H s (by omega)
  · obtain ⟨T, x, z, rfl, hT, rfl, hx, hz⟩ := yl i H v H' s y
    obtain ⟨d, hd, rd⟩ := r.get hx
    obtain ⟨d', hd', rd'⟩ := r'.get hz
    refine ⟨_, zipD_get hd hd', fun S G1 w1 s1 => ⟨upd G1 T (.tup [x, z]), w1.new hT _, GX.new hT _, HX.new hT _, ?_⟩⟩
    exact .tup (x := false) upd_same ((Reps.cons (rd.same s1) (.cons (rd'.same s1) .nil)).same (same_upd (w1.free hT)))
theorem piZip {elts : List Expr} {kk : Nat} {ms : M (List D)} {p pos tpos : Pos} (hm : X.mg "zip" = none) (ha : PA X [e, e2] (tA Ω F ρ ms)) (hg : Gl X "zip" := by rfl)
    (hs : starEach [e, e2] X.env = (false, eval e X.env) :: starEach [e2] X.env := by rfl) (hpl : (backTo pos (starEach [e2] X.env)).any (·.1) = false := by rfl) :
    PI X (.Tuple elts kk tpos) (.Call (.Name "zip" p) [e, e2] [] pos) (tI Ω F ρ (ms >>= dZip)) :=
  PIi (RZ.pi_zipA hg hm ha hs hpl) fun σ H R ⟨S, G, I, w⟩ => by
    rw [wp_bind] at w
    refine ⟨S, G, I, w.imp fun ds S1 w G1 H1 vs w1 g1 h1 r1 => ?_⟩
    unfold dZip at w
    split at w
    · cases r1 with
      | cons ra rb =>
        cases rb with
        | cons rb rc =>
          cases rc
          cases ra with
          | @lst a us _ q r =>
            cases rb with
            | @lst a2 us2 _ q2 r2 =>
              refine ⟨a, a2, us, us2, rfl, .inl ⟨w1.lst q, w1.lst q2, w G1 H1 _ w1 g1 h1 (dw_zip r r2 (fun i H s hi hi2 => ?_) (fun i H s hi => ⟨us, us2, .inl (.inl (s _ _ q)), .inl (.inl (s _ _ q2)), hi⟩) fun i H v H' s ⟨T, x, y, e1, e2, e3, e4, e5⟩ => ⟨T, x, y, e1, e2, e3, e4 us (.inl (.inl (s _ _ q))), e5 us2 (.inl (.inl (s _ _ q2)))⟩)⟩⟩
              exact ⟨us, us2, us[i], us2[i], .inl (.inl (s _ _ q)), .inl (.inl (s _ _ q2)), by simp [hi], by simp [hi2]⟩
    · cases r1 with
      | cons ra rb =>
        cases rb with
        | cons rb rc =>
          cases rc
          cases ra with
          | @tup a x us _ q r =>
            cases rb with
            | @tup a2 x2 us2 _ q2 r2 =>
              have sq : ∀ H, Same G1 H → SqT X.K H a us := fun H s => .inl ((RdLe.of s).rd _ _ q.rd)
              have sq2 : ∀ H, Same G1 H → SqT X.K H a2 us2 := fun H s => .inl ((RdLe.of s).rd _ _ q2.rd)
              refine ⟨a, a2, us, us2, rfl, .inr ⟨w1.tup q, w1.tup q2, w G1 H1 _ w1 g1 h1 (dw_zip r r2 (fun i H s hi hi2 => ?_) (fun i H s hi => ⟨us, us2, sq H s, sq2 H s, hi⟩) fun i H v H' s ⟨T, x, y, e1, e2, e3, e4, e5⟩ => ⟨T, x, y, e1, e2, e3, e4 us (sq H s), e5 us2 (sq2 H s)⟩)⟩⟩
              exact ⟨us, us2, us[i], us2[i], sq H s, sq2 H s, by simp [hi], by simp [hi2]⟩
    · exact w.elim
end
end DL
namespace DL
open PySem PySem.Spec PyProof.Rows L2
/-! ### len, of dicts too -/
def dLenA : D → M D
  | .dct _ ks _ => pure (.int (ks.length : Nat))
  | d => dLen d
section
variable {X : Cx} {Ω : Om} {F : Fr}
theorem dc_lenA (hK : X.K = Ω.K) : CallR X (.builtin "len") (rDl Ω F (ar1 dLenA)) := by
  intro pins s σ H vs us Q I rr h0
  obtain ⟨x, S, G, d, rfl, f, r, h⟩ := rDl1 h0
  cases d with
  | dct t ks ws =>
    cases r with
    | @dK a kvs _ q qs =>
      obtain ⟨u, rfl, ru⟩ := vals1 rr
      cases ru
      have h : (pure (D.int ((kvs.map fun kv => keyD kv.1).length : Nat)) : M D).wp _ _ S := h
      rw [List.length_map] at h
      exact d_len I ((RdLe.of f.w.same).rd _ _ q.rd) fun t s' I' => ⟨.int kvs.length, H, I', ⟨t, rfl⟩, Pg.here f h (.int _)⟩
    | @dT a kvs _ q qs =>
      obtain ⟨u, rfl, ru⟩ := vals1 rr
      obtain rfl : u = .ref a := ru
      have h : (pure (D.int ((kvs.map fun kv => D.tup false (kv.1.map keyD)).length : Nat)) : M D).wp _ _ S := h
      rw [List.length_map] at h
      obtain ⟨z, hd, ys, rel, dd⟩ := dt_rd I.hok ((RdLe.of f.w.same).rd _ _ q.rd)
      have hl : kvs.length = ys.length := Paired.length rel
      refine call_len_dictH hd dd (by rw [← hl]; rw [sizeLine_eq] at z; omega) ?_
      rw [← hl]
      exact ⟨.int ((kvs.length : Nat) : Int), H, I.tok _, ⟨_, rfl⟩, Pg.here f h (.int _)⟩
  | _ => exact dc_len hK pins s σ H _ us Q I rr ⟨S, G, [_], f, .cons r .nil, h⟩
end
end DL
set_option Elab.async false
set_option linter.all false
set_option maxRecDepth 100000
set_option autoImplicit false
/-! DLn: t[::-1] of tuples too. -/
namespace HT
open PySem PySem.Spec PyProof.Rows
section
variable {prog : Program} {w : World} {A : Around} {E : Value → Shared → Prop} {s : Shared}
theorem places_rev (n : Nat) : Builtin.Slice.slicePlaces ((n : Int) - 1) (-1) (-1) = n := by
  unfold Builtin.Slice.slicePlaces
  have h1 : ¬ ((-1 : Int) > 0) := by decide
  rw [if_neg h1]
  have e : ((n : Int) - 1 - -1 - 1) / (- -1) + 1 = (n : Int) := by
    rw [show (- -1 : Int) = 1 by decide, Int.ediv_one]; omega
  rw [e]
  split <;> omega
theorem sliceApplied_rev {sl : Addr} {vl vu vs : Value} {n : Nat} {Q : Int × Int × Nat → Shared → Prop} (hs : s.heap.IsSliceOf sl vl vu vs) (pl : IsPart vl none) (pu : IsPart vu none) (ps : IsPart vs (some (-1)))
    (h : Q ((n : Int) - 1, -1, n) s) : wpAny (model prog w) A (Builtin.Slice.sliceApplied (.ref sl) (pure (n : Int))) Q E s := by
  obtain ⟨os, hos, hcs, hds⟩ := id hs
  unfold Builtin.Slice.sliceApplied Builtin.Slice.sliceFields
  refine wpAny_bind (wpAny_bind (wpAny_field hos hds (x := vl) rfl (wpAny_bind (wpAny_field hos hds (x := vu) rfl (wpAny_bind (wpAny_field hos hds (x := vs) rfl (wpAny_pure ?_)))))))
  refine wpAny_bind (slicePart_ ps ?_)
  show wpAny _ _ (if ((-1 : Int) == 0) = true then _ else _) _ _ s
  rw [if_neg (by decide)]
  refine wpAny_bind (slicePart_ pl (wpAny_bind (slicePart_ pu (wpAny_bind (wpAny_pure ?_)))))
  show wpAny _ _ (pure ((n : Int) - 1, (-1 : Int), Builtin.Slice.slicePlaces ((n : Int) - 1) (-1) (-1))) _ _ s
  rw [places_rev]
  exact wpAny_pure h
theorem pick_rev (xs : Array Value) : ((List.range xs.size).filterMap fun (m : Nat) => xs[((xs.size : Int) - 1 + (m : Int) * (-1)).toNat]?) = xs.toList.reverse := by
  refine List.ext_getElem? fun i => ?_
  have e : (List.range xs.size).filterMap (fun (m : Nat) => xs[((xs.size : Int) - 1 + (m : Int) * (-1)).toNat]?) = (List.range xs.size).map fun m => xs.getD (xs.size - 1 - m) .none := by
    have cg : ∀ (l : List Nat) (f : Nat → Option Value) (g : Nat → Value), (∀ m ∈ l, f m = some (g m)) → l.filterMap f = l.map g := fun l f g h => by
      induction l with
      | nil => rfl
      | cons x l ih =>
        rw [List.filterMap_cons, h x (List.mem_cons_self ..), ih fun m hm => h m (List.mem_cons_of_mem _ hm)]
        rfl
    refine cg _ _ _ fun m hm => ?_
    have hm := List.mem_range.mp hm
    have q : ((xs.size : Int) - 1 + (m : Int) * (-1)).toNat = xs.size - 1 - m := by omega
    rw [q]
    have hl : xs.size - 1 - m < xs.size := by omega
    simp [Array.getD, hl]
  rw [e, List.getElem?_map]
  by_cases hi : i < xs.size
  · rw [List.getElem?_range hi, List.getElem?_reverse (by simpa using hi)]
    have hl : xs.size - 1 - i < xs.size := by omega
    simp [Array.getD, hl]
  · rw [List.getElem?_eq_none (by simpa using hi), List.getElem?_eq_none (by simpa using hi)]
    rfl
theorem getItem_tuple_rev {t sl : Addr} {items : Array Value} {vl vu vs : Value} {Q : Value → Shared → Prop} (ht : IsTup s.heap t items) (hs : s.heap.IsSliceOf sl vl vu vs) (pl : IsPart vl none) (pu : IsPart vu none) (ps : IsPart vs (some (-1)))
    (h : Q (.ref s.heap.objs.size) { s with heap := s.heap.push { cls := .type "tuple", data := .seq items.toList.reverse.toArray } })
    (hsz : items.size ≤ sizeLine) : wpAny (model prog w) A (getItem (.ref t) (.ref sl)) Q E s := by
  have htake : sizeOk (.seq items.toList.reverse.toArray) := by
    show items.toList.reverse.toArray.size ≤ sizeLine
    rw [List.size_toArray, List.length_reverse, Array.length_toList]
    exact hsz
  obtain ⟨os, hos, hcs, hds⟩ := id hs
  have hTs : s.TypeIs (.ref sl) "slice" := ⟨os, hos, hcs⟩
  unfold getItem
  try with_reducible refine wpAny_holding ?_
  first | refine wpAny_bind (wpAny_pure ?_) | skip
  refine wpAny_bind (wpAny_sequenceKey ht.typeIs (by decide) ?_)
  refine wpAny_bind (wpAny_callSpecial?_slot (name := Str.ofString "__getitem__") ht.typeIs PyProof.Rows.slot_tuple_getitem
    (wpAny_call_entry PyProof.Rows.slot_tuple_getitem ht.typeIs entry_tuple_getitem ?_ (args_tuple_getitem _ _)))
  show wpAny _ _ (Builtin.Tuple.tupleItemsOf (.ref t) >>= _) _ _ s
  refine wpAny_bind (tupleItemsOf_ ht ?_)
  refine wpAny_bind (wpAny_typeOf hTs ?_)
  rw [if_pos (by decide)]
  refine wpAny_bind (sliceApplied_rev hs pl pu ps ?_)
  have hno : ¬ ((((items.size : Int) - 1) == 0 && (-1 : Int) == 1 && items.size == items.size) = true) := by
    intro q
    rw [Bool.and_eq_true, Bool.and_eq_true] at q
    exact absurd q.1.2 (by decide)
  show wpAny _ _ (if (((items.size : Int) - 1) == 0 && (-1 : Int) == 1 && items.size == items.size) = true then _ else _) _ _ s
  rw [if_neg hno, pick_rev]
  first
    | exact wpAny_bind (m := Builtin.Tuple.tupleExact _) (wpAny_newObj_type (wpAny_pure ⟨_, rfl, wpAny_pure h⟩) htake)
    | exact wpAny_bind (m := Builtin.Tuple.tupleExact _) (wpAny_newObj_type (wpAny_bind (wpAny_pure (wpAny_pure ⟨_, rfl, wpAny_pure h⟩))) htake)
    | exact wpAny_bind (wpAny_bind (m := Builtin.Tuple.tupleExact _) (wpAny_newObj_type (wpAny_pure (wpAny_pure ⟨_, rfl, wpAny_pure h⟩)) htake))
    | exact wpAny_bind (wpAny_bind (m := Builtin.Tuple.tupleExact _) (wpAny_newObj_type (wpAny_pure ⟨_, rfl, wpAny_pure h⟩) htake))
end
end HT
namespace L2
open PySem PySem.Spec PyProof.Rows
section
variable {X : Cx}
def tRevT (K : PySem.W.Frag) (te : TE) : TE := fun σ H Q => te σ H fun x H1 => ∃ a xs, x = .ref a ∧ SqT K H1 a xs ∧ ∀ p, H1 p = none → Q (.ref p) (upd H1 p (.tup xs.reverse))
theorem pe_revT {e : Expr} {te : TE} {k : Nat} {p1 p2 p3 pos : Pos} (he : PE X e te) : PE X (.Subscript e (.Slice none none (some (.UnaryOp .USub (.Constant (.int 1) k p1) p2)) p3) pos) (tRevT X.K te) := by
  refine ⟨fun pins s σ H Q I h => ?_⟩
  refine Subscript_ (thn (he.run pins s σ H _ I h) fun v s1 ⟨x, H1, I1, r1, q1⟩ => ?_)
  obtain ⟨a, xs, ex, hx, q⟩ := q1
  subst ex
  cases r1
  have hst : PO X (some (.UnaryOp .USub (.Constant (.int 1) k p1) p2)) (tPart (tUn (rU fun i => .int (-i)) (tC (.int 1)))) := po_some (pe_un un_neg pe_int)
  refine wpAny_Slice (thn (po_none.run pins s1 σ H1 (fun o H2 => o = none ∧ H2 = H1) I1 ⟨rfl, rfl⟩) fun vl s2 ⟨l, H2, I2, pl, el, e2⟩ => ?_)
  subst el e2
  refine thn (po_none.run pins s2 σ H2 (fun o H3 => o = none ∧ H3 = H2) I2 ⟨rfl, rfl⟩) fun vu s3 ⟨u, H3, I3, pu, eu, e3⟩ => ?_
  subst eu e3
  refine thn (hst.run pins s3 σ H3 (fun o H4 => o = some (-1) ∧ H4 = H3) I3 ⟨1, rfl, -1, rfl, rfl, rfl⟩) fun vs s4 ⟨o, H4, I4, ps, eo, e4⟩ => ?_
  subst eo e4
  have I5 : Inv X pins σ H4 { s4 with heap := s4.heap.push { cls := .type "slice", data := .fields #[vl, vu, vs] } } := I4.kept (t' := s4.toks) fun b ob q => Heap.get?_push_of_some _ q
  obtain ⟨its, r, ht, hz⟩ := I5.tuple hx
  have hlen := r.length
  show wpAny (model X.prog X.w) X.A (subscriptTail e (.Slice none none (some (.UnaryOp .USub (.Constant (.int 1) k p1) p2)) p3) (.ref a) (.ref s4.heap.objs.size)) (EP X pins σ Q) X.xe { s4 with heap := s4.heap.push { cls := .type "slice", data := .fields #[vl, vu, vs] } }
  refine tail_any (ops := [.ref a, .ref s4.heap.objs.size]) ht.typeIs PyProof.Rows.slot_tuple_getitem.lookup ?_ (by with_unfolding_all rfl)
  refine HT.getItem_tuple_rev ht (Heap.IsSliceOf.new _ vl vu vs) pl pu ps ?_ (by rw [List.size_toArray]; omega)
  refine ⟨.ref _, _, I5.laid (t' := s4.toks) (o := .tup xs.reverse) (fun b ob q => Heap.get?_push_of_some _ q) (Nat.le_refl _) ?_, rfl, q _ (I5.hok.fresh (Nat.le_refl _))⟩
  exact ⟨by rw [List.length_reverse]; exact hz, _, r.reverse, IsTup.new _ _⟩
end
end L2
namespace DL
open PySem PySem.Spec PyProof.Rows L2
def dRev : D → M D
  | .lst xs => pure (.lst xs.reverse)
  | .tup _ xs => pure (.tup false xs.reverse)
  | _ => M.stuck
section
variable {X : Cx} {Ω : Om} {F : Fr} {ρ : Env'} {a : Expr} {ma : M D} {pos : Pos}
theorem PEor {e : Expr} {t t' : TE} (h : PE X e t) (h' : PE X e t') : PE X e (fun σ H R => t σ H R ∨ t' σ H R) := ⟨fun pins s σ H R I q => q.elim (h.run pins s σ H R I) (h'.run pins s σ H R I)⟩
theorem pdRev {k : Nat} {p1 p2 p3 : Pos} (ha : PE X a (tD Ω F ρ ma)) : PE X (.Subscript a (.Slice none none (some (.UnaryOp .USub (.Constant (.int 1) k p1) p2)) p3) pos) (tD Ω F ρ (op1 dRev ma)) :=
  PEi (PEor (pe_revL ha) (pe_revT ha)) fun σ H Q ⟨S, G, I, h⟩ => by
    have h : (ma >>= fun x => dRev x).wp (Pg Ω (RD Ω) G H Q) (Er Ω F) S := h
    rw [wp_bind] at h
    cases hms : ma S with
    | stuck => unfold M.wp at h; rw [hms] at h; exact h.elim
    | err x S' =>
      refine .inl ⟨S, G, I, ?_⟩
      unfold M.wp at h ⊢
      rw [hms] at h ⊢
      exact h
    | ok d S' =>
      unfold M.wp at h
      rw [hms] at h
      have h : (dRev d).wp (Pg Ω (RD Ω) G H Q) (Er Ω F) S' := h
      have go : ∀ {R : V → Hp → Prop}, (∀ v G' H', RInv Ω F ρ S' G' σ H' → Wd Ω S' G' H' → GX G H G' → HX Ω H H' → Rep Ω G' v d → R v H') → tD Ω F ρ ma σ H R := fun {R} q => ⟨S, G, I, by
        unfold M.wp
        rw [hms]
        exact fun G' H' v w' g' h' r' => q v G' H' (I.step w' g' h') w' g' h' r'⟩
      cases d with
      | lst xs =>
        refine .inl (go fun v G' H' I' w' g' h' r' => ?_)
        cases r' with
        | lst qx rx => exact ⟨_, _, rfl, w'.lst qx, fun p hp => (Pg.step w' g' h' h : Pg Ω (RD Ω) G' H' Q _ S') _ _ _ (w'.new hp _) (GX.new hp _) (HX.new hp _) (.newL w' hp rx.rev)⟩
      | tup t xs =>
        refine .inr (go fun v G' H' I' w' g' h' r' => ?_)
        cases r' with
        | tup qx rx => exact ⟨_, _, rfl, w'.tup qx, fun p hp => (Pg.step w' g' h' h : Pg Ω (RD Ω) G' H' Q _ S') _ _ _ (w'.new hp _) (GX.new hp _) (HX.new hp _) (.newT w' hp rx.rev)⟩
      | _ => exact h.elim
end
end DL
set_option Elab.async false
set_option linter.all false
set_option maxRecDepth 100000
set_option autoImplicit false
/-! DLo: exceptions that are caught and kept; defs that raise. -/
namespace DL
open PySem PySem.Spec PyProof.Rows L2

/-! ### an exception that is kept -/
/-- the object at a is an exception of a class, its dict at d -/
def ExT (cls : Value) (d : Option Addr) (a : Addr) : HO := .ext fun h => ∃ (oe : Obj) (vs : Array Value), h.get? a = some oe ∧ Zc cls d oe ∧ oe.data = .fields vs
section
variable {X : Cx} {pins : List (Addr × Obj)} {σ : L2.St} {H : Hp} {s : Shared}
theorem exT_ok {P : Program} {w : World} {h : Heap} {a : Addr} {cls : Value} {d : Option Addr} {oe : Obj} {vs : Array Value} (e : h.get? a = some oe) (z : Zc cls d oe) (f : oe.data = .fields vs) : ObjOk P w H h a (ExT cls d a) :=
  ⟨⟨oe, vs, e, z, f⟩, ⟨oe, e⟩, fun h1 h2 ⟨oe1, vs1, e1, z1, f1⟩ k => ⟨oe1, vs1, k _ e1, z1, f1⟩⟩
/-- an object that came behind the def's entry, in no one's hand, is known from now on -/
theorem Inv.trackE {a : Addr} {oe : Obj} {o : HO} (J : Inv X ((a, oe) :: pins) σ H s) (h0 : X.s_0.heap.get? a = none) (np : ∀ p ∈ X.pn ++ pins, p.1 ≠ a) (ok : ObjOk X.prog X.w (upd H a o) s.heap a o) : Inv X pins σ (upd H a o) s := by
  obtain ⟨hget, na, nL, nF, nC⟩ := J.pin (a, oe) (List.mem_append.mpr (.inr (List.mem_cons_self ..)))
  have old : ∀ b u, X.s_0.heap.get? b = some u → b ≠ a := fun b u e z => by rw [z, h0] at e; cases e
  refine ⟨J.ok, J.os, J.bare, ⟨J.base.keep, J.base.slot, fun b u e n hx => ?_, J.base.there, fun b xs e => ?_, fun b u xs e => ?_, fun b ps e => ?_⟩, J.loc, J.cell, ?_, fun y c e => ?_, fun p hp => ?_, fun b u e => ?_, J.len⟩
  · rw [upd_ne (old b u e)]; exact J.base.free b u e n hx
  · have := J.base.tups b xs e
    rw [upd_ne (ne_of_none this na)]; exact this
  · have := J.base.frzs b u xs e
    rw [upd_ne (ne_of_none this na)]; exact this
  · obtain ⟨more, this⟩ := J.base.tbls b ps e
    exact ⟨more, by rw [upd_ne (ne_of_none this na)]; exact this⟩
  · rw [upd_ne (Ne.symm nL)]; exact J.free
  · have ca : c ≠ a := fun z => by
      obtain ⟨v, q⟩ := J.cell y c e
      obtain ⟨oc, hoc, hd⟩ : ∃ oc, s.heap.get? c = some oc ∧ oc.data = .cell v := by
        obtain ⟨oc, h1, h2⟩ := q
        first | exact ⟨oc, h1, h2⟩ | exact ⟨oc, h1, h2.2⟩
      rw [z] at hoc
      rw [hget] at hoc
      cases hoc
      exact nC v hd
    rw [upd_ne ca]; exact J.freeC y c e
  · have hp' : p ∈ X.pn ++ (a, oe) :: pins := by
      rcases List.mem_append.mp hp with h | h
      · exact List.mem_append.mpr (.inl h)
      · exact List.mem_append.mpr (.inr (List.mem_cons_of_mem _ h))
    obtain ⟨e1, e2, e3, e4, e5⟩ := J.pin p hp'
    exact ⟨e1, by rw [upd_ne (np p hp)]; exact e2, e3, e4, e5⟩
  · by_cases hb : b = a
    · subst hb
      rw [upd_same] at e
      cases e
      exact ok
    · rw [upd_ne hb] at e
      exact (J.hok b u e).stay (fun _ _ _ q => q) (fun c q => by rw [upd_ne (ne_of_none q na)]; exact q) fun c xs q => by rw [upd_ne (ne_of_none q na)]; exact q
end
end DL
namespace DL
open PySem PySem.Spec PyProof.Rows L2
/-- what 'except x as n' wishes: its suite goes on behind, the exception is known by its object -/
def wAsK (K : PySem.W.Frag) (c : Value) (i L : Nat) (ts : Addr → Value → Option Addr → TS) (Wout : WX) (D : Ends) : WX := fun cls d σ H =>
  ∃ b, PySem.W.exmOne K cls c = some b ∧ (b = true → σ.length = L → ∀ a, H a = none → ts a cls d { nx := fun σ' H' => H' a = none → D.nx (σ'.set i none) (upd H' a (ExT cls d a)), rt := fun _ _ => False, bk := fun _ _ => False, ct := fun _ _ => False } (σ.set i (some (.ref a))) H) ∧
    (b = false → Wout cls d σ H)
section
variable {X : Cx} {x n : Str} {c : Value} {i : Nat} {body suite : List Stmt} {b₀ : Stmt} {np pos pos' : Pos} {tb : WX → TS} {ts : Addr → Value → Option Addr → TS} {Wout : WX}
theorem ps_try_asK (hex : X.ex = []) (hs : X.stack = X.env :: X.outer) (hf : X.env.frame = some X.env.locals) (hN : X.N.Nodup) (hi : X.N[i]? = some n) (hln : X.env.kindOf n = some .local) (hc : Names X x c) (tk : Takes X Wout)
    (hb : ∀ (W : WX) (pn : List (Addr × Obj)) (xe : Value → Shared → Prop), Takes (X.tr pn xe) W → PassesOwn (model X.prog X.w) X.A X.env xe → PSs (X.tr pn xe) body (tb W))
    (hsu : ∀ (a : Addr) (oe : Obj) (cls : Value) (d : Option Addr) (pn : List (Addr × Obj)), Zc cls d oe → (∃ vs, oe.data = .fields vs) → PSs (X.suite a ((a, oe) :: pn)) (b₀ :: suite) (ts a cls d)) :
    PS X (.Try body [.ExceptHandler (some (.Name x np)) (some n) (b₀ :: suite) pos'] [] [] pos) (fun D σ H => tb (wAsK X.K c i X.N.length ts Wout D) D σ H) := by
  refine ⟨fun pins s σ H D I h => ?_⟩
  have ok := I.ok
  have fr : X.A.frames = some (X.env :: X.outer) := by rw [ok.frames, hs]
  have run := (hb (wAsK X.K c i X.N.length ts Wout D) (X.pn ++ pins) (fun e s₁ => wpAny (model X.prog X.w) X.A (noteFrame e X.env) (fun _ s₂ => wpAny (model X.prog X.w) X.A (setFlight e none) (fun _ s₃ =>
    wpAny (model X.prog X.w) X.A (handleBy e X.env [.ExceptHandler (some (.Name x np)) (some n) (b₀ :: suite) pos']) (SP X pins D) X.xe s₃) X.xe s₂) X.xe s₁) (fun u s' xx => ?_) PassesOwn.looking).run [] s σ H D (I.toTry _) h
  · refine wpAny_Try_except (wpAny_mono run (fun f s1 hsp => ?_) fun _ _ he => he)
    cases f with
    | next => obtain ⟨σ', H', J', q⟩ := hsp; exact wpAny_execs_nil ⟨σ', H', J'.ofTry ok, q⟩
    | brk => obtain ⟨σ', H', J', q⟩ := hsp; exact ⟨σ', H', J'.ofTry ok, q⟩
    | cont => obtain ⟨σ', H', J', q⟩ := hsp; exact ⟨σ', H', J'.ofTry ok, q⟩
    | ret u => obtain ⟨v, σ', H', J', r, q⟩ := hsp; exact ⟨v, σ', H', J'.ofTry ok, r, q⟩
  obtain ⟨a, B, sI, pins', σ', H', cls, d, rfl, J', nb, up, sky, na, os, ag, b, hb1, hyes, hno⟩ := xx
  have J : Inv X pins σ' H' sI := J'.ofTry ok
  rw [hs] at sky
  show wpAny (model X.prog X.w) X.A (noteFrame (.ref a) X.env) _ _ _
  refine Sky.land Zc.steady fr hf sky fun h3 fl3 up3 => ?_
  have J3 : Inv X pins σ' H' { s' with heap := h3 } := J.landed nb fl3.1 (up.trans up3) os ag
  obtain ⟨oe3, vs3, he3, hz3, hd3⟩ := fl3.there
  have nfr : a ∉ frs (X.env :: X.outer) := fun hm => by
    obtain ⟨_, o', e', hnf⟩ := fl3.2.2.1.mem hm
    rw [he3] at e'
    cases e'
    exact hnf _ hd3
  have nL : a ≠ X.env.locals := fun z => nfr (List.mem_filterMap.mpr ⟨X.env, List.mem_cons_self, by rw [hf, z]⟩)
  have nF : a ∉ X.fs := fun hm => by
    obtain ⟨e, he, q⟩ := List.mem_filterMap.mp hm
    exact nfr (List.mem_filterMap.mpr ⟨e, List.mem_cons_of_mem _ he, q⟩)
  -- it is new
  have nI : sI.heap.get? a = none := by
    cases q : sI.heap.get? a with
    | none => rfl
    | some o =>
      have := nb a o q (by rw [hs]; exact nfr)
      rw [fl3.2.1] at this
      cases this
  have n0 : X.s_0.heap.get? a = none := by
    cases q : X.s_0.heap.get? a with
    | none => rfl
    | some o =>
      obtain ⟨o', q'⟩ := J.base.there a o q (by rw [hex]; simp)
      rw [nI] at q'
      cases q'
  have npin : ∀ p ∈ X.pn ++ pins, p.1 ≠ a := fun p hp z => by
    have := (J.pin p hp).1
    rw [z, nI] at this
    cases this
  have S3 := J3.suite he3 hd3 na nL nF
  refine wpAny_handleBy_cons (codeAny_handlers_test ?_) (by intro q; cases q)
  have LT : PySem.W.Looks (model X.prog X.w) h3 (typeOf (.ref a)) cls := fun A Q E s k q => wpAny_typeOf_ref (k _ _ he3) (by rw [hz3.1]; exact q)
  have LM := PySem.W.exm_one (M := model X.prog X.w) (J3.kIn) LT hb1
  have test : ∀ {Q : Value → Shared → Prop} {E : Value → Shared → Prop}, Q c { s' with heap := h3 } → wpAny (model X.prog X.w) (X.A.mark (some (.ref a))) (eval (.Name x np) X.env) Q E { s' with heap := h3 } := fun {Q E} q => by
    obtain ⟨hg, hdbg, hm | ⟨hm, hv, hnn⟩⟩ := hc
    · exact ld_glob (X := X.suite a ((a, oe3) :: (X.pn ++ pins))) S3 hg hm q hdbg
    · exact ld_blt (X := X.suite a ((a, oe3) :: (X.pn ++ pins))) S3 hg hm hv q hnn hdbg
  refine test (LM.here ?_)
  cases b with
  | true =>
    refine codeAny_handlers_suite_as (HandSPX.lands_againZ fl3 fun h4 fl4 up4 => ?_)
    have J4 : Inv X pins σ' H' { s' with heap := h4 } := J.landed nb fl4.1 ((up.trans up3).trans up4) os ag
    obtain ⟨oe4, vs4, he4, hz4, hd4⟩ := fl4.there
    refine store_ok (X := X.suite a ((a, oe4) :: (X.pn ++ pins))) (v := .ref a) (J4.suite he4 hd4 na nL nF) hN hi (.inl hln) rfl (fun s5 S5 => ?_) (.inr hln)
    refine wpAny_mono ((hsu a oe4 cls d (X.pn ++ pins) hz4 ⟨_, hd4⟩).run [] s5 _ H' _ S5 (hyes rfl J.len a na)) (fun f s6 hsp => ?_) (fun _ _ z => False.elim z)
    cases f with
    | brk => obtain ⟨_, _, _, q⟩ := hsp; exact q.elim
    | cont => obtain ⟨_, _, _, q⟩ := hsp; exact q.elim
    | ret u => obtain ⟨_, _, _, _, _, q⟩ := hsp; exact q.elim
    | next =>
      obtain ⟨σ6, H6, S6, q6⟩ := hsp
      have pa : s6.heap.get? a = some oe4 ∧ H6 a = none ∧ a ≠ X.env.locals ∧ a ∉ X.fs ∧ ∀ v, oe4.data ≠ .cell v := S6.pin (a, oe4) (by simp)
      have U6 : Inv X pins σ6 H6 s6 := S6.unsuite ok
      have P6 : Inv X ((a, oe4) :: pins) σ6 H6 s6 := ⟨U6.ok, U6.os, U6.bare, U6.base, U6.loc, U6.cell, U6.free, U6.freeC, fun p hp => by
        rcases List.mem_append.mp hp with h | h
        · exact U6.pin p (List.mem_append_left _ h)
        · rcases List.mem_cons.mp h with rfl | h
          · exact pa
          · exact U6.pin p (List.mem_append_right _ h), U6.hok, U6.len⟩
      refine gone_ok P6 hN hi hln fun s7 J7 => ?_
      have e7 := (J7.pin (a, oe4) (by simp)).1
      exact ⟨_, _, Inv.trackE J7 n0 npin (exT_ok e7 hz4 hd4), q6 pa.2.1⟩
  | false =>
    show wpAny _ X.A (handleBy (.ref a) X.env []) _ _ _
    refine wpAny_handleBy_nil ?_
    obtain ⟨k1, k2, k3, oe, vs, T, oT, ts', he, hz, hd, h1, hr⟩ := id fl3
    unfold PySem.passOn
    refine wpAny_bind (wpAny_field he hd h1 ?_)
    rw [if_neg (show ¬ ((Value.ref T == Value.none) = true) from by simp)]
    have fin : wpAny (model X.prog X.w) X.A (setFlight (.ref a) X.env.frame) (fun _ s4 => wpAny (model X.prog X.w) X.A (throw (.ref a) : Sem Flow) (SP X pins D) X.xe s4) X.xe { s' with heap := h3 } := by
      rw [hf]
      refine HandSPX.setFlight_upZ fl3 fun h4 hh4 up4 => wpAny_throw (tk _ _ ?_)
      exact ⟨a, B, sI, pins, σ', H', cls, d, rfl, J, nb, (up.trans up3).trans up4, .inr (.inr (by rw [hs]; exact hh4)), na, os, ag, hno rfl⟩
    first
      | exact wpAny_bind (wpAny_pure (wpAny_bind fin))
      | exact wpAny_bind fin
end
end DL
namespace DL
open PySem PySem.Spec PyProof.Rows L2
/-- caught: found = None / try: a() / except x as n: found = n / return found -/
def TCaught (K : PySem.W.Frag) (CS : Addr) : (XK → Hp → VK → Prop) → Hp → VK → Prop := fun tl H Q =>
  tl (fun cls d H' => PySem.W.exmOne K cls (.ref CS) = some true ∧ ∀ a, H' a = none → Q (.ref a) (upd H' a (ExT cls d a))) H (fun _ H' => ∃ v, (some (some V.non) : Option (Option V)) = some (some v) ∧ Q v H')
section
variable {X : Cx}
/-- as GivesTo, whatever is known of the lambda (Cd) -/
def GivesC (X : Cx) (Ng : List Str) (x : Str) (sg : Scope) (g : Addr) (cdg : Value) (bg : List Stmt) (a : Str) (Cd : Addr → Hp → Prop) (TT : (XK → Hp → VK → Prop) → Hp → VK → Prop) : Prop :=
  ∀ (f : Addr) (s : Shared) (H : Hp) (Q : VK) (tl : XK → Hp → VK → Prop),
    (∀ (W : WX) (pn : List (Addr × Obj)) (xe : Value → Shared → Prop) (E : XK) (p1 p2 : Pos), Takes ((cxOf C8.CX0 X.prog X.w X.K X.mg X.base Ng x sg g cdg X.A X.stack s H C8.E0).tr pn xe) W → (∀ cls d σ' H', E cls d H' → W cls d σ' H') →
      PE ((cxOf C8.CX0 X.prog X.w X.K X.mg X.base Ng x sg g cdg X.A X.stack s H C8.E0).tr pn xe) (.Call (.Name a p1) [] [] p2) (fun σZ HZ Q => σZ[0]? = some (some (.ref f)) ∧ Cd f HZ ∧ tl E HZ Q)) →
    Cd f H → TT tl H Q →
    ∃ t, PSs (cxOf C8.CX0 X.prog X.w X.K X.mg X.base Ng x sg g cdg X.A X.stack s H C8.E0).nox bg t ∧ t { nx := fun _ H' => Q .non H', rt := Q } (L2.start Ng [.ref f]) H
theorem caught_gives {Cd : Addr → Hp → Prop} {x a e n fo : Str} {sg : Scope} {g CS : Addr} {cdg : Value} {j : Nat} {p1 p2 p3 p4 p5 p6 p7 p8 p9 q1 q2 q3 q4 q5 : Pos} (nd : [a, fo, n].Nodup) (hge : sg.names.lookup e = some .globalImplicit) (hme : X.mg e = some (.ref CS)) (hde : (e == ("__debug__" : Str)) = false)
    (hfo : sg.names.lookup fo = some .local) (hn : sg.names.lookup n = some .local) (d1 : (fo == ("__debug__" : Str)) = false) (d2 : (fo == ("__classdict__" : Str)) = false) (d3 : (n == ("__debug__" : Str)) = false) (d4 : (n == ("__classdict__" : Str)) = false) :
    GivesC X [a, fo, n] x sg g cdg
      [.Assign [.Name fo q1] (.Constant .none j q2) q3,
       .Try [.Expr (.Call (.Name a p1) [] [] p2) p3] [.ExceptHandler (some (.Name e p4)) (some n) [.Assign [.Name fo p5] (.Name n p6) p9] p7] [] [] p8,
       .Return (some (.Name fo q4)) q5] a Cd (TCaught X.K CS) := by
  intro f s H Q tl act hc h
  let Y := (cxOf C8.CX0 X.prog X.w X.K X.mg X.base [a, fo, n] x sg g cdg X.A X.stack s H C8.E0).nox
  have hgl : Gl Y e := hge
  have n1 : Y.N[1]? = some fo := rfl
  have n2 : Y.N[2]? = some n := rfl
  refine ⟨_, pss_cons (ps_set (X := Y) (i := 1) nd n1 (.inl hfo) pe_non) (pss_cons (ps_try_asK (X := Y) (c := .ref CS) (i := 2)
      (tb := fun W D σ H => ∃ Ech : XK, (∀ cls d σ' H', Ech cls d H' → W cls d σ' H') ∧ σ[0]? = some (some (.ref f)) ∧ Cd f H ∧ tl Ech H (fun _ H' => D.nx σ H'))
      (ts := fun ax cls d D σ H => σ[2]? = some (some (.ref ax)) ∧ D.nx (σ.set 1 (some (.ref ax))) H)
      rfl rfl rfl nd n2 hn ⟨hgl, hde, .inl hme⟩ LamX.takes0 (fun W pn xe tk _ => ?_) (fun ax oe cls d pn _ _ => ?_)) (pss_one (ps_ret (pe_var (X := Y) n1 (.inl hfo) d1 d2)))), ?_⟩
  · refine ⟨fun pins s' σ H' D I h' => ?_⟩
    obtain ⟨Ech, hW, h1, h2, h3⟩ := h'
    exact (pss_one (ps_expr (pos := p3) (act W pn xe Ech p1 p2 tk hW))).run pins s' σ H' D I ⟨h1, h2, h3⟩
  · refine PSsi (pss_one (ps_set (i := 1) nd n1 (.inl hfo) (pe_var n2 (.inl hn) d3 d4))) fun D σ H ⟨h1, h2⟩ => ⟨_, h1, h2⟩
  · refine ⟨fun cls d H' => PySem.W.exmOne X.K cls (.ref CS) = some true ∧ ∀ a, H' a = none → Q (.ref a) (upd H' a (ExT cls d a)), fun cls d σ' H' ⟨e1, e2⟩ => ?_, rfl, hc, ?_⟩
    · refine ⟨true, e1, fun _ hl ax hax => ⟨?_, fun hax' => ?_⟩, fun z => nomatch z⟩
      · have hl' : σ'.length = 3 := hl
        rw [List.getElem?_set_self (by omega)]
      · have hl' : σ'.length = 3 := hl
        refine ⟨.ref ax, ?_, e2 ax hax'⟩
        rw [List.getElem?_set_ne (by decide), List.getElem?_set_self (by rw [List.length_set]; omega)]
    · exact h
end
end DL
set_option Elab.async false
set_option linter.all false
set_option maxRecDepth 100000
set_option autoImplicit false
/-! DLp: f(lambda: e), f a def that calls what it gets; all but the maker's own table stays. -/
namespace DL
open PySem PySem.Spec PyProof.Rows L2 LamX
/-- all but the table at P stays -/
def ExtP (P : Addr) (H H' : Hp) : Prop := ∀ b o, H b = some o → b ≠ P → H' b = some o
section
variable {X : Cx} {pins : List (Addr × Obj)} {σ : L2.St} {H : Hp} {s : Shared}
set_option maxHeartbeats 2000000 in
theorem lam_makeP {T : List (Addr × Str)} {c P : Addr} {params : Arguments} {body : Expr} {scope : Scope} {pos : Pos} {E : Value → Shared → Prop} {Q : Value → Shared → Prop} (I : Inv X pins σ H s) (TB : TabB X.base X.mg c P) (hcode : X.env.code = .ref c)
    (hm : (P, X.env.qual ++ "<lambda>") ∈ T) (hu : ∀ p ∈ T, p.1 = P → p.2 = X.env.qual ++ "<lambda>") (hT : Tabs T H) (hdef : defaultsOf params X.env = ([], [])) (hfree : ∀ y ∈ scope.names, y.2 = .free → ∃ c, X.env.cells.lookup y.1 = some c)
    (h : ∀ (f c' : Addr) (pm ctv : Value) (H1 : Hp) (s' : Shared), Inv X pins σ H1 s' → ExtP P H H1 → Tabs T H1 →
      s'.heap.get? f = some (PySem.W.kla_obj "<lambda>" (X.env.qual ++ "<lambda>") params body scope (cloFrom X.env.cells scope.names []) pm c' ctv) → H1 f = none → f ∉ frs X.stack → H1 c' = some (CodeO c' (X.env.qual ++ "<lambda>")) → s.heap.objs.size ≤ f → Q (.ref f) s') :
    wpAny (model X.prog X.w) X.A (eval (.Lambda params body scope pos) X.env) Q E s := by
  obtain ⟨ps, tP, t3, tA⟩ := hT _ hm
  have gP : s.heap.get? P = some { cls := .none, data := .fields ps } := I.hok P _ tP
  have above : ∀ f, s.heap.objs.size ≤ f → f ∉ frs X.stack := fun f hf z => by
    rcases List.mem_cons.mp (I.stkSub _ z) with e | e
    · exact absurd (e ▸ I.lt) (Nat.not_lt.mpr hf)
    · exact I.nofs hf e
  refine PySem.W.kla_eval hdef ?_
  cases hc : codeAmong pos ps.toList with
  | some cv =>
    obtain ⟨c', rfl, hco⟩ := tA pos cv hc
    refine PySem.W.kla_makeFunctionHit (mg := X.mg) (c := c) (P := P) (ps := ps) (closure_ok hfree) I.ok.glob (I.mod.glob.keeps I.bk) hcode (TB.code.keeps I.bk) gP t3 hc (TB.bm.keeps I.bk) fun ctv h' tk hx hsz => ?_
    exact h h'.objs.size c' ((X.mg "__name__").getD .none) ctv H _ (I.kept (t' := tk) fun b o e => Heap.get?_push_of_some _ (hx b o e)) (fun _ _ e _ => e) hT (Heap.get?_push_size _ rfl) (I.hok.fresh hsz) (above _ hsz) hco hsz
  | none =>
    refine PySem.W.kla_makeFunction (mg := X.mg) (c := c) (P := P) (ps := ps) (closure_ok hfree) I.ok.glob (I.mod.glob.keeps I.bk) hcode (TB.code.keeps I.bk) gP t3 hc TB.gP (TB.bm.keeps I.bk) fun c' ctv h' tk hx hge hlt hrec htb => ?_
    obtain ⟨_, oc, vs, t, e2, hoc, hd, hv⟩ := hrec
    cases e2
    have up : s.heap.objs.size ≤ h'.objs.size := Nat.le_trans hge (Nat.le_of_lt hlt)
    have nC : H c' = none := I.hok.fresh hge
    have J := inv_table (t' := tk) (more := #[rawInt pos.line, rawInt pos.col, .ref c']) (h' := h'.push (PySem.W.kla_obj "<lambda>" (X.env.qual ++ "<lambda>") params body scope (cloFrom X.env.cells scope.names []) ((X.mg "__name__").getD .none) c' ctv)) I tP
      (fun b o hb e => Heap.get?_push_of_some _ (hx b o hb e)) (Heap.get?_push_of_some _ htb) hge ⟨oc, vs, t, Heap.get?_push_of_some _ hoc, hd, hv⟩
    have keep : ExtP P H (upd (upd H P (.tbl (ps ++ #[rawInt pos.line, rawInt pos.col, .ref c']))) c' (CodeO c' (X.env.qual ++ "<lambda>"))) := fun b o e nb => by
      rw [upd_ne (ne_of_none e nC), upd_ne nb]; exact e
    have codes : ∀ {c0 : Addr} {q0 : Str}, H c0 = some (CodeO c0 q0) → upd (upd H P (.tbl (ps ++ #[rawInt pos.line, rawInt pos.col, .ref c']))) c' (CodeO c' (X.env.qual ++ "<lambda>")) c0 = some (CodeO c0 q0) := fun {c0 q0} e =>
      keep c0 _ e fun z => codeO_ne ps (Option.some.inj (e.symm.trans (by rw [z]; exact tP)))
    have app : (ps ++ #[rawInt pos.line, rawInt pos.col, .ref c']).toList = ps.toList ++ [rawInt pos.line, rawInt pos.col, .ref c'] := by simp
    refine h h'.objs.size c' ((X.mg "__name__").getD .none) ctv _ _ J keep (fun p hp => ?_) (Heap.get?_push_size _ rfl) ?_ (above _ up) upd_same up
    · by_cases hb : p.1 = P
      · rw [hu p hp hb, hb]
        refine ⟨_, by rw [upd_ne (ne_of_none tP nC), upd_same], by rw [app]; exact PySem.TriplesOk_snoc _ _ _ _ t3, fun p' cv hcv => ?_⟩
        rw [app] at hcv
        rcases among_app _ t3 hcv with z | z
        · obtain ⟨c0, e1, e2⟩ := tA p' cv z
          exact ⟨c0, e1, codes e2⟩
        · exact ⟨c', z, upd_same⟩
      · obtain ⟨ps', a1, a2, a3⟩ := hT p hp
        refine ⟨ps', keep _ _ a1 hb, a2, fun p' cv hcv => ?_⟩
        obtain ⟨c0, e1, e2⟩ := a3 p' cv hcv
        exact ⟨c0, e1, codes e2⟩
    · rw [upd_ne (Nat.ne_of_gt hlt), upd_ne (Nat.ne_of_gt (Nat.lt_of_lt_of_le (Heap.lt_size gP) up))]
      exact I.hok.fresh up
def tLamP (P : Addr) (T : List (Addr × Str)) (TT : (XK → Hp → VK → Prop) → Hp → VK → Prop) (t : XK → TE) : TE := fun σ H Q => Tabs T H ∧ ∀ H1, ExtP P H H1 → Tabs T H1 → TT (fun E H' Q' => t E σ H' Q') H1 Q
theorem pe_lamP {T : List (Addr × Str)} {TT : (XK → Hp → VK → Prop) → Hp → VK → Prop} {x a : Str} {g c P : Addr} {k : Nat} {pg : Arguments} {bg : List Stmt} {sg : Scope} {dV kV doc pm cdv ct oc : Value} {an od : Option Addr} {osl : Array (Option Value)} {Ng : List Str}
    {params : Arguments} {body : Expr} {scope : Scope} {t : XK → TE} {p lpos pos : Pos} (hg : Gl X x) (hm : X.mg x = some (.ref g)) (hk : PySem.W.keepIn X.K (.ref g) = true)
    (lk : X.K.lookup g = some ⟨oc, od, .func (PySem.W.fnOf x x pg bg sg dV kV doc pm an cdv ct), osl⟩) (hcg : PySem.W.codeIn X.K cdv x = true) (hb : L2.Binds X.K (PySem.W.fnOf x x pg bg sg dV kV doc pm an cdv ct) [a] []) (Sg : FnScope Ng [a] sg) (hNg : Ng[0]? = some a) (hva : Vis sg a)
    (hG : GivesTo X Ng x sg g cdv bg a (X.env.qual ++ "<lambda>") TT)
    (TB : TabB X.base X.mg c P) (hcode : X.env.code = .ref c) (hmT : (P, X.env.qual ++ "<lambda>") ∈ T) (hu : ∀ p ∈ T, p.1 = P → p.2 = X.env.qual ++ "<lambda>") (hr : Room (k + 2) X.A) (L : LamS X.env.scope scope) (hdef : defaultsOf params X.env = ([], []))
    (hbind : ∀ (q : Str) (cl : List (Str × Addr)) (pm cv ctv : Value), bindArgs (PySem.W.kla_fn "<lambda>" q params body scope cl pm cv ctv) ⟨[], []⟩ = pure [])
    (hbody : ∀ (A : Around) (outer : List Env) (s : Shared) (H : Hp) (E : XK) (f c' : Addr), Room k (A.deeper (lamEnv X scope s.heap.objs.size f c')) → PE (lamCx X A outer s H E scope f c') body (t E))
    (hdb : (x == ("__debug__" : Str)) = false := by decide) (hd : (a == ("__debug__" : Str)) = false := by decide) (hcd : (a == ("__classdict__" : Str)) = false := by decide) :
    PE X (.Call (.Name x p) [.Lambda params body scope lpos] [] pos) (tLamP P T TT t) := ⟨fun pins s σ H Q I ⟨hT, h⟩ => by
  refine wpAny_Call_Name_kw (ld_glob I hg hm (PySem.W.callWith_K (h₀ := X.base) I.ok.mod.kin hk ?_ (by rfl) (by rfl)) hdb)
  show wpAny _ _ (spliced ((false, eval (.Lambda params body scope lpos) X.env) :: backTo pos (starEach [] X.env))) _ _ s
  refine Calls.spliced_cons (lam_makeP I TB hcode hmT hu hT hdef (L.has I.ok) fun f c' pm' ctv H1 s' J eN T1 hf hfn hfr hco _ => Calls.spliced_nil ⟨J.kIn, ?_⟩)
  have go := run_ofS (CX := C8.CX0) (E := C8.E0) (Q := Q) (N := Ng) (ps := [a]) (us := [.ref f]) (vs := [.ref f]) lk hcg Sg hr J.env0 (hb s' [.ref f] J.kIn rfl) (.cons rfl .nil) rfl fun hr' => by
    obtain ⟨t', ht', hq'⟩ := hG f c' s' H1 Q (fun E H' Q' => t E σ H' Q') (fun W pn xe E p1 p2 tk hW => pe_act (i := 0) J L hf hfn hfr (hbind _ _ _ _ _) tk hW hr' (fun A outer s H hr2 => hbody A outer s H E f c' hr2) hNg hva hd hcd) hco (h H1 eN T1)
    exact ⟨t', ht'.nox, hq'⟩
  refine wpAny_call (codeAny_mono go fun r s2 hq => ?_)
  cases r with
  | error e => exact (show False from hq).elim
  | ok fl =>
    cases fl with
    | ret u => exact J.after hq
    | next => exact False.elim hq
    | brk => exact False.elim hq
    | cont => exact False.elim hq⟩
end
end DL
set_option Elab.async false
set_option linter.all false
set_option maxRecDepth 100000
set_option autoImplicit false
/-! DLq: caught(lambda: e); defs that raise; isinstance of what was caught. -/
namespace DL
open PySem PySem.Spec PyProof.Rows L2 LamX
/-- an exception's number, as data -/
def encX (x : Exn) : Option Nat := if x.cls < 32 then match x.args with
  | [] => some (x.cls + 1)
  | _ => none
  else none
def catchM (m : M D) : M D := fun s => match m s with
  | .ok _ s' => .ok .non s'
  | .err x s' => match encX x with
    | some n => .ok (.opq n) s'
    | none => .stuck
  | .stuck => .stuck
theorem wp_catch {m : M D} {Q : D → DS → Prop} {E : Exn → DS → Prop} {s : DS} (h : (catchM m).wp Q E s) : m.wp (fun _ s' => Q .non s') (fun x s' => ∃ n, encX x = some n ∧ Q (.opq n) s') s := by
  unfold M.wp catchM at *
  cases e : m s with
  | ok a s' => rw [e] at h; exact h
  | stuck => rw [e] at h; exact h
  | err x s' =>
    rw [e] at h
    cases e2 : encX x with
    | none => simp only [e2] at h
    | some n => simp only [e2] at h; exact ⟨n, e2, h⟩
/-- what is known of the classes of exceptions -/
structure ExOm (Ω : Om) (CS : Addr) : Prop where
  exm : ∀ c, c < 32 → PySem.W.exmOne Ω.K (Ω.xc c) (.ref CS) = some true
  op : ∀ (c : Nat) (G : Hp) (a : Addr), c < 32 → Rd G a (ExT (Ω.xc c) none a) → Ω.op (c + 1) G (.ref a)
/-- the def's own things are put aside -/
def noOwn (ρ : Env') : Env' := ρ.map fun c => if c.isOwn then .no else c
section
variable {X : Cx} {Ω : Om} {F : Fr} {ρ : Env'} {S : DS} {G H : Hp} {σ : L2.St}
theorem RInv.fresh (I : RInv Ω F ρ S G σ H) (E : XK) : RInv Ω ⟨G, H, E⟩ (noOwn ρ) S G σ H := by
  have get : ∀ {i : Nat} {c : Cell}, (noOwn ρ)[i]? = some c → c.isOwn = false ∧ (c = .no ∨ ρ[i]? = some c) := fun {i c} e => by
    unfold noOwn at e
    rw [List.getElem?_map, Option.map_eq_some_iff] at e
    obtain ⟨c0, e0, rfl⟩ := e
    cases h : c0.isOwn with
    | true => simp; rfl
    | false => simp [h, e0]
  have st := I.f.w.st
  refine ⟨⟨I.f.w, GX.refl _ _, HX.refl _ _, by show H _ ≠ none; rw [st.dict]; simp, by show H _ ≠ none; rw [st.great]; simp, by show H _ ≠ none; rw [st.cells]; simp, fun q hq => st.some (.inr (.inr ⟨q, hq, rfl⟩))⟩, by unfold noOwn; rw [List.length_map]; exact I.len, fun i c e => ?_, fun i j c d p e1 e2 o1 => ?_⟩
  · obtain ⟨o, h⟩ := get e
    rcases h with rfl | h
    · trivial
    · have k := I.cell i c h
      cases c with
      | no => trivial
      | dat d => exact k
      | own _ => cases o
      | ownK _ => cases o
      | ownT _ => cases o
  · rw [(get e1).1] at o1
    cases o1
end
end DL
set_option Elab.async false
set_option linter.all false
set_option maxRecDepth 100000
set_option autoImplicit false
/-! DLr: defs that raise; isinstance of what was caught. -/
namespace DL
open PySem PySem.Spec PyProof.Rows L2 LamX
/-- an exception's class, at C -/
structure Xn (mg : Str → Option Value) (K : PySem.W.Frag) (CS : Addr) (x : Str) (C : Addr) : Prop where
  m : mg x = some (.ref C)
  keep : PySem.W.keepIn K (.ref C) = true
  exc : PySem.W.excIn K C [.type "ValueError", .type "Exception", .type "BaseException", .type "object"] "ValueError.__new__" = true
  sub : PySem.W.subIn K (.ref C) (.type "BaseException") = some true
  ty : PySem.W.typeIn K (.ref C) = some (.type "type")
  exm : PySem.W.exmOne K (.ref C) (.ref CS) = some true
  is : ExcC K C
section
variable {X : Cx} {Ω : Om} {F : Fr} {ρ : Env'} {β γ : Type} {en : β → Env'} {el : γ → Env'} {pos : Pos} {rest : List Stmt}
theorem pss_none {st : Stmt} {rest : List Stmt} {t : L2.St → Hp → Prop} (h : PS X st (fun _ σ H => t σ H)) : PSs X (st :: rest) (fun _ σ H => t σ H) := ⟨fun pins s σ H D I q =>
  wpAny_execs_cons (wpAny_mono (h.run pins s σ H { nx := fun _ _ => False, rt := D.rt, bk := D.bk, ct := D.ct } I q) (fun f s1 hf => by
    cases f with
    | next => obtain ⟨_, _, _, z⟩ := hf; exact z.elim
    | ret u => exact hf
    | brk => exact hf
    | cont => exact hf) fun _ _ x => x)⟩
theorem pssRaise {n : Nat} {CS C : Addr} {x m : Str} {j : Nat} {p p2 pos2 : Pos} (hK : X.K = Ω.K) (xn : Xn X.mg Ω.K CS x C) (hx : Ω.xc n = .ref C) (tk : Takes X (fun cls d _ H => F.E cls d H)) (hc : X.calm = true := by rfl) (hg : Gl X x := by rfl) (hdb : (x == ("__debug__" : Str)) = false := by decide) :
    PSs X (.Raise (some (.Call (.Name x p) [.Constant (.str m) j p2] [] pos)) none pos2 :: rest) (tS Ω F ρ (M.raise ⟨n, []⟩) en el) :=
  PSsi (pss_none (ps_raise (W := fun cls d _ H => F.E cls d H) hc tk (pmk_own PySem.F.excBase_ValueError (hK ▸ xn.exc) xn.m (hK ▸ xn.keep) (raises_own (hK ▸ xn.sub) (hK ▸ xn.ty)) hg hdb))) fun E σ H ⟨S, G, I, h⟩ =>
    (show Er Ω F ⟨n, []⟩ S from h) G H (.ref C) none I.f ⟨hx.symm, rfl⟩
end

/-! ### defs -/
section
variable {Ω : Om} {P : Program} {w : World} {mg : Str → Option Value} {base : Heap}
/-- a def by its body, that may raise -/
theorem fnDE {x qual : Str} {st : Stmt} {f : Addr} {fd : FuncData} {N ps : List Str} {k n : Nat} {m : List D → M D} (Fn : Fun Ω.K x qual st f fd) (Sc : FnScope N ps (defScope st)) (hn : ps.length = n)
    (hbody : ∀ (cdv : Value) (A : Around) (outer : List Env) (s : Shared) (H : Hp) (E : XK) (G : Hp) (ds : List D), Room k (A.deeper (envOfC qual (defScope st) s.heap.objs.size f cdv)) → ds.length = n →
      ∃ mb : M (Fl Unit Unit), PSs (cxOf (L2.CX P w) P w Ω.K mg base N qual (defScope st) f cdv A outer s H E) (defBody st) (tS Ω ⟨G, H, E⟩ (envOf N ds) mb (fun _ => List.replicate N.length .no) (fun _ => [])) ∧ Fl.fin mb = m ds) :
    FnOk P w Ω.K mg base (L2.CX P w) (k + 1) f fd ps (spD Ω n m) := by
  refine Fn.okX Sc (fun vs H Q E h => h.1.trans hn.symm) fun cdv A outer s H vs Q E hr ⟨hl, S, G, ds, wd, r, h⟩ => ?_
  obtain ⟨mb, hp, e⟩ := hbody cdv A outer s H E G ds hr (r.length.symm.trans hl)
  refine ⟨_, hp, S, G, rinv_start wd r, ?_⟩
  rw [← e] at h
  unfold Fl.fin at h
  rw [wp_bind] at h
  refine h.mono (fun fl S' h => ?_) fun x S' h G' H' c d fx rx => h G' H' c d fx.w fx.g fx.h rx
  cases fl with
  | nx b => exact fun G' H' σ' I' s' => h G' H' .non I'.f.w I'.f.g I'.f.h .non
  | rt d => exact fun G' H' v f' r' => h G' H' v f'.w f'.g f'.h r'
  | bk c => exact h.elim
  | ct c => exact h.elim
structure CdE (P : Program) (w : World) (mg : Str → Option Value) (base : Heap) (Ω : Om) (k : Nat) (x : Str) (ps : List Str) (m : List D → M D) : Prop where
  ex : ∃ f fd, FnOk P w Ω.K mg base (L2.CX P w) k f fd ps (spD Ω ps.length m) ∧ mg x = some (.ref f) ∧ PySem.W.keepIn Ω.K (.ref f) = true ∧ Binds Ω.K fd ps [] ∧ ∃ oc od osl, Ω.K.lookup f = some ⟨oc, od, .func fd, osl⟩
  ar : ArOk ps.length m
end
section
variable {X : Cx} {Ω : Om} {F : Fr} {ρ : Env'} {pos : Pos} {k k' : Nat} {ps : List Str} {m : List D → M D} {x : Str} {p : Pos} {a : Expr} {es : List Expr} {ms : M (List D)}
theorem pdCE (hK : X.K = Ω.K) (tk : Takes X (fun cls d _ H => F.E cls d H)) (c : CdE X.prog X.w X.mg X.base Ω k x ps m) (hr : Room k' X.A) (hk : k ≤ k') (ha : PA X (a :: es) (tA Ω F ρ ms)) (hg : Gl X x := by rfl) (hdb : (x == ("__debug__" : Str)) = false := by decide)
    (he : starEach (a :: es) X.env = (false, eval a X.env) :: starEach es X.env := by rfl) (hpl : (backTo pos (starEach es X.env)).any (·.1) = false := by rfl) :
    PE X (.Call (.Name x p) (a :: es) [] pos) (tD Ω F ρ (ms >>= fun ds => m ds)) := by
  obtain ⟨f, fd, G, hm, hkp, hb, _⟩ := c.ex
  rw [← hK] at G hkp hb
  refine PEi (pe_callS G (hr.mono hk) hg hm hkp hb (passAt tk) ha hdb he hpl) fun σ H Q ⟨S, G, I, h⟩ => (tG.bindI (R := RA Ω) I h).mono fun vs H1 ⟨S1, G1, ds, I1, s1, r, h1⟩ => ?_
  refine ⟨r.length.trans (c.ar.len h1), S1, G1, ds, I1.f.w, r, h1.mono (fun _ _ q => q) fun x S' h G' H' c d w' g' h' rx => h G' H' c d (I1.f.step w' g' h') rx⟩
/-- in a lambda's context -/
theorem takes_lam {A : Around} {outer : List Env} {s : Shared} {H : Hp} {E : XK} {scope : Scope} {f c : Addr} : Takes (lamCx X A outer s H E scope f c) (fun cls d _ H => E cls d H) := takes_of rfl rfl rfl rfl
theorem takes_def {P : Program} {w : World} {K : PySem.W.Frag} {mg : Str → Option Value} {base : Heap} {N : List Str} {qual : Str} {sc : Scope} {f : Addr} {cdv : Value} {A : Around} {outer : List Env} {s : Shared} {H : Hp} {E : XK} : Takes (cxOf (L2.CX P w) P w K mg base N qual sc f cdv A outer s H E) (fun cls d _ H => E cls d H) := takes_of rfl rfl rfl rfl
end
/-! ### isinstance(e, C) -/
/-- classes n, t of exceptions -/
def dIsX (is : Nat → Option Bool) : D → M D
  | .non => pure (.bl false)
  | .opq (n + 1) => match is n with
    | some b => pure (.bl b)
    | none => M.stuck
  | _ => M.stuck
/-- what is known where isinstance(e, C) is asked, C at Ct -/
structure IsX (Ω : Om) (Ct : Addr) (is : Nat → Option Bool) : Prop where
  op : ∀ n b, is n = some b → ∀ G v, Ω.op (n + 1) G v → ∃ a C, v = .ref a ∧ Rd G a (ExT (.ref C) none a) ∧ ExcC Ω.K C ∧ PySem.W.kitOne Ω.K (.ref C) (.ref Ct) = some b
  non : PySem.W.kitOne Ω.K (.type "NoneType") (.ref Ct) = some false
section
variable {X : Cx} {Ω : Om} {F : Fr} {ρ : Env'} {Ct : Addr} {is : Nat → Option Bool} {a : Expr} {ma : M D} {pos : Pos}
theorem dcall_isX (hK : X.K = Ω.K) (ix : IsX Ω Ct is) : CallR X (.builtin "isinstance") (fun xs H Q => ∃ x S G d, xs = [x, .ref Ct] ∧ Fx Ω F S G H ∧ Rep Ω G x d ∧ (dIsX is d).wp (Pg Ω (RD Ω) G H Q) (Er Ω F) S) := by
  intro pins s σ H xs us Q I r ⟨x, S, G, d, e, f, q, h⟩
  subst e
  obtain ⟨u1, u2, rfl, r1, r2⟩ := vals2 r
  cases (show u2 = Value.ref Ct from r2)
  cases d with
  | non =>
    cases q
    cases (show u1 = Value.none from r1)
    exact PySem.W.kia_one (PySem.W.kitx_none) I.kIn True.intro (hK ▸ ix.non) (fun z => nomatch z) fun tk => ⟨.bl _, H, I.tok tk, rfl, Pg.here f h (.bl _)⟩
  | opq n =>
    cases n with
    | zero => exact h.elim
    | succ n =>
      unfold dIsX at h
      cases ei : is n with
      | none => simp only [ei] at h; exact h.elim
      | some b =>
        simp only [ei] at h
        cases q with
        | opq q =>
          obtain ⟨a, C, rfl, rd, cl, ko⟩ := ix.op n b ei G x q
          cases (show u1 = Value.ref a from r1)
          obtain ⟨⟨oe, vs, e1, ⟨z1, z2⟩, hv⟩, _⟩ := (show ObjOk X.prog X.w H s.heap a (ExT (.ref C) none a) from (RdLe.of f.w.same).rd _ _ rd |>.ok I.hok)
          have J : PySem.W.InstAt s.heap a oe C none := by
            obtain ⟨oc, od, oda, osl⟩ := oe
            dsimp only at z1 z2 hv
            subst z1 z2 hv
            exact ⟨e1, rfl, rfl, trivial⟩
          rw [← hK] at cl ko
          exact PySem.W.kia_one (PySem.W.handS_kitx_exc cl.hg cl.hk cl.hs cl.hd cl.ha cl.hn cl.ht cl.hm) I.kIn J ko (fun z => nomatch z) fun tk => ⟨.bl b, H, I.tok tk, rfl, Pg.here f h (.bl b)⟩
  | _ => exact h.elim
/-- isinstance(a, C) -/
theorem pdIsX (hK : X.K = Ω.K) {x : Str} {p p2 : Pos} (ix : IsX Ω Ct is) (ha : PE X a (tD Ω F ρ ma)) (hi : X.mg "isinstance" = none) (hm : X.mg x = some (.ref Ct)) (hg : Gl X "isinstance" := by rfl) (hg2 : Gl X x := by rfl) (hd : (x == ("__debug__" : Str)) = false := by decide)
    (he : starEach [a, .Name x p2] X.env = (false, eval a X.env) :: starEach [.Name x p2] X.env := by rfl) (he2 : starEach [.Name x p2] X.env = (false, eval (.Name x p2) X.env) :: starEach [] X.env := by rfl) (hpl : (backTo pos (starEach [.Name x p2] X.env)).any (·.1) = false := by rfl) :
    PE X (.Call (.Name "isinstance" p) [a, .Name x p2] [] pos) (tD Ω F ρ (ma >>= dIsX is)) :=
  PEi (pe_callB (dcall_isX (Ω := Ω) (F := F) hK ix) hg hi (by decide +kernel) (pa_cons ha (pa_cons (pe_glob hg2 hm (show RelV (.ref Ct) (.ref Ct) from rfl) hd) pa_nil he2) he) (by decide) (by decide) he hpl) fun σ H Q ⟨S, G, I, h⟩ =>
    (tG.bindI (R := RD Ω) I h).mono fun x H1 ⟨S1, G1, d, I1, s1, r, h1⟩ => ⟨x, S1, G1, d, rfl, I1.f, r, h1⟩
end
end DL
set_option Elab.async false
set_option linter.all false
set_option maxRecDepth 100000
set_option autoImplicit false
/-! DLs: lambdas as values, told by numbers; f(l), f a def that calls what it gets and catches. -/
namespace DL
open PySem PySem.Spec PyProof.Rows L2 LamX
/-- a lambda of the def at hand -/
structure LamR where
  params : Arguments
  body : Expr
  scope : Scope
/-- the function object at f -/
def FunO (q : Str) (L : LamR) (cl : List (Str × Addr)) (f c' : Addr) (pm ctv : Value) : HO := .ext fun h => h.get? f = some (PySem.W.kla_obj "<lambda>" q L.params L.body L.scope cl pm c' ctv)
theorem funO_ok {P : Program} {w : World} {H : Hp} {h : Heap} {q : Str} {L : LamR} {cl : List (Str × Addr)} {f c' : Addr} {pm ctv : Value} (e : h.get? f = some (PySem.W.kla_obj "<lambda>" q L.params L.body L.scope cl pm c' ctv)) : ObjOk P w H h f (FunO q L cl f c' pm ctv) :=
  ⟨e, ⟨_, e⟩, fun _ _ e1 k => k _ e1⟩
/-- the lambda L of X's def is at f -/
def CdF (X : Cx) (L : LamR) (f : Addr) (H : Hp) : Prop := ∃ (c' : Addr) (pm ctv : Value), Rd H f (FunO (X.env.qual ++ "<lambda>") L (cloFrom X.env.cells L.scope.names []) f c' pm ctv) ∧ Rd H c' (CodeO c' (X.env.qual ++ "<lambda>"))
section
variable {X : Cx} {pins : List (Addr × Obj)} {σ : L2.St} {H : Hp} {s : Shared}
/-- x(), in the def that got the lambda -/
theorem pe_actC {CXg : CXT} {Eg : XK} {Ng : List Str} {qg : Str} {sg : Scope} {g f : Addr} {cdg : Value} {L : LamR} {k i : Nat} {a : Str} {pn : List (Addr × Obj)} {xe : Value → Shared → Prop} {W : WX} {E : XK} {tb : TE} {p1 p2 : Pos}
    (I : Inv X pins σ H s) (LS : LamS X.env.scope L.scope)
    (hbind : ∀ (c' : Addr) (pm ctv : Value), bindArgs (PySem.W.kla_fn "<lambda>" (X.env.qual ++ "<lambda>") L.params L.body L.scope (cloFrom X.env.cells L.scope.names []) pm (.ref c') ctv) ⟨[], []⟩ = pure [])
    (tk : Takes ((cxOf CXg X.prog X.w X.K X.mg X.base Ng qg sg g cdg X.A X.stack s H Eg).tr pn xe) W) (hW : ∀ cls d σ' H', E cls d H' → W cls d σ' H') (hr : Room (k + 1) (X.A.deeper (envOfC qg sg s.heap.objs.size g cdg)))
    (hbody : ∀ (A : Around) (outer : List Env) (s : Shared) (H : Hp) (c' : Addr), Room k (A.deeper (lamEnv X L.scope s.heap.objs.size f c')) → PE (lamCx X A outer s H E L.scope f c') L.body tb)
    (hN : Ng[i]? = some a) (hv : Vis sg a) (hd : (a == ("__debug__" : Str)) = false := by decide) (hcd : (a == ("__classdict__" : Str)) = false := by decide) :
    PE ((cxOf CXg X.prog X.w X.K X.mg X.base Ng qg sg g cdg X.A X.stack s H Eg).tr pn xe) (.Call (.Name a p1) [] [] p2)
      (fun σZ HZ Q => σZ[i]? = some (some (.ref f)) ∧ CdF X L f HZ ∧ tb σ HZ Q) := by
  refine ⟨fun pinsZ sZ σZ HZ Q IZ h => ?_⟩
  obtain ⟨hs, ⟨c', pm, ctv, rf, rc⟩, ht⟩ := h
  refine wpAny_Call_Name_kw (thn ((pe_var (pos := p1) (i := i) hN hv hd hcd).run pinsZ sZ σZ HZ (fun v H1 => v = .ref f ∧ H1 = HZ) IZ ⟨.ref f, hs, rfl, rfl⟩) fun u s1 ⟨v, H1, I1, r1, q1⟩ => ?_)
  obtain ⟨ev, eH⟩ := q1
  subst ev
  rw [eH] at I1
  obtain rfl : u = Value.ref f := r1
  obtain ⟨of1, _, _⟩ := (show ObjOk X.prog X.w HZ s1.heap f (FunO (X.env.qual ++ "<lambda>") L (cloFrom X.env.cells L.scope.names []) f c' pm ctv) from rf.ok I1.hok)
  refine PySem.W.callWith_F0 ⟨_, _, _, _, of1⟩ ?_
  have un : Un (frs X.stack) [] H HZ s.heap s1.heap := I1.base
  obtain ⟨⟨oc, vs, t, hoc, hdc, hvc⟩, _, _⟩ := (show ObjOk X.prog X.w HZ s1.heap c' (CodeO c' (X.env.qual ++ "<lambda>")) from rc.ok I1.hok)
  have run : codeAny (model X.prog X.w) (X.A.deeper (envOfC qg sg s.heap.objs.size g cdg)) (.call (.ref f) ⟨[], []⟩) (CR (L2.CX X.prog X.w) (envOfC qg sg s.heap.objs.size g cdg :: X.stack) X.prog X.w HZ s1 Q E) s1 := by
    refine PySem.W.kla_callFunE hr.depth of1 rfl LS.co LS.gen rfl ⟨c', oc, vs, t, rfl, hoc, hdc, hvc⟩ ?_
    rw [hbind]
    refine wpAny_pure (wpAny_newFunctionEnv (fun y hy => (LS.own y hy).2) (fun y hy => absurd hy (by simp)) (fun h₁ hns hsb => ⟨I1.nolimit.fresh _ hsb, ?_⟩) LS.kind)
    show codeAny _ _ (.expr L.body (lamEnv X L.scope s1.heap.objs.size f c')) _ _
    have kp : ∀ b o, s1.heap.get? b = some o → h₁.get? b = some o := fun b o e => hsb.extBut b o (Nat.ne_of_lt (Heap.lt_size e)) (Heap.get?_push_of_some _ e)
    have J : Inv (lamCx X (X.A.deeper (envOfC qg sg s.heap.objs.size g cdg)) (envOfC qg sg s.heap.objs.size g cdg :: X.stack) s1 HZ E L.scope f c') [] σ HZ { s1 with heap := h₁, toks := s1.toks + ([] : List (Str × Value)).length } :=
      lam_start2 I LS I1.env0 hr.hd un hns kp
    refine PySem.W.kla_codeExpr (wpAny_mono ((hbody _ _ s1 HZ c' (hr.deeper _)).run [] _ _ HZ Q J ht) (fun v s' hq => ?_) fun e s' hq => hq)
    obtain ⟨w', H', J', rv, q⟩ := hq
    exact ⟨w', H', J'.os, J'.bare, J'.base, J'.hok, rv, q⟩
  have hx : Passes (L2.CX X.prog X.w) ((cxOf CXg X.prog X.w X.K X.mg X.base Ng qg sg g cdg X.A X.stack s H Eg).tr pn xe) E := passes_call tk hW
  refine wpAny_call (codeAny_mono run fun r s' hq => ?_)
  cases r with
  | error e => exact hx pinsZ σZ HZ s1 e s' I1 hq
  | ok fl =>
    cases fl with
    | ret u => exact I1.after hq
    | next => exact False.elim hq
    | brk => exact False.elim hq
    | cont => exact False.elim hq
/-- x(l), l a lambda that was made ahead -/
theorem pe_lamV {α : Type} {LA : α → LamR} {TT : (XK → Hp → VK → Prop) → Hp → VK → Prop} {x a : Str} {g : Addr} {k : Nat} {pg : Arguments} {bg : List Stmt} {sg : Scope} {dV kV doc pm cdv ct oc : Value} {an od : Option Addr} {osl : Array (Option Value)} {Ng : List Str}
    {ea : Expr} {ta : TA} {t : α → XK → TE} {p pos : Pos} (hg : Gl X x) (hm : X.mg x = some (.ref g)) (hk : PySem.W.keepIn X.K (.ref g) = true)
    (lk : X.K.lookup g = some ⟨oc, od, .func (PySem.W.fnOf x x pg bg sg dV kV doc pm an cdv ct), osl⟩) (hcg : PySem.W.codeIn X.K cdv x = true) (hb : L2.Binds X.K (PySem.W.fnOf x x pg bg sg dV kV doc pm an cdv ct) [a] []) (Sg : FnScope Ng [a] sg) (hNg : Ng[0]? = some a) (hva : Vis sg a)
    (hG : ∀ y : α, GivesC X Ng x sg g cdv bg a (CdF X (LA y)) TT) (hr : Room (k + 2) X.A) (LS : ∀ y, LamS X.env.scope (LA y).scope)
    (hbind : ∀ (y : α) (q : Str) (cl : List (Str × Addr)) (pm cv ctv : Value), bindArgs (PySem.W.kla_fn "<lambda>" q (LA y).params (LA y).body (LA y).scope cl pm cv ctv) ⟨[], []⟩ = pure [])
    (hbody : ∀ (y : α) (A : Around) (outer : List Env) (s : Shared) (H : Hp) (E : XK) (f c' : Addr), Room k (A.deeper (lamEnv X (LA y).scope s.heap.objs.size f c')) → PE (lamCx X A outer s H E (LA y).scope f c') (LA y).body (t y E))
    (ha : PA X [ea] ta) (hdb : (x == ("__debug__" : Str)) = false := by decide) (hd : (a == ("__debug__" : Str)) = false := by decide) (hcd : (a == ("__classdict__" : Str)) = false := by decide)
    (he : starEach [ea] X.env = (false, eval ea X.env) :: starEach [] X.env := by rfl) (hpl : (backTo pos (starEach [] X.env)).any (·.1) = false := by rfl) :
    PE X (.Call (.Name x p) [ea] [] pos) (fun σ H Q => ta σ H fun vs H1 => ∃ (y : α) (f : Addr), vs = [.ref f] ∧ CdF X (LA y) f H1 ∧ TT (fun E H' Q' => t y E σ H' Q') H1 Q) := ⟨fun pins s σ H Q I h => by
  refine wpAny_Call_Name_kw (ld_glob I hg hm ?_ hdb)
  refine PySem.W.callWith_K (h₀ := X.base) I.ok.mod.kin hk (thn (ha.run pos pins s σ H _ I h) fun us s1 ⟨vs, H1, J, r, y, f, ev, hc, q⟩ => ⟨J.kIn, ?_⟩) he hpl
  subst ev
  cases r with
  | cons ru rn =>
    cases rn
    cases (show _ = Value.ref f from ru)
    have go := run_ofS (CX := C8.CX0) (E := C8.E0) (Q := Q) (N := Ng) (ps := [a]) (us := [.ref f]) (vs := [.ref f]) lk hcg Sg hr J.env0 (hb s1 [.ref f] J.kIn rfl) (.cons rfl .nil) rfl fun hr' => by
      obtain ⟨t', ht', hq'⟩ := hG y f s1 H1 Q (fun E H' Q' => t y E σ H' Q') (fun W pn xe E p1 p2 tk hW => pe_actC (i := 0) J (LS y) (fun _ _ _ => hbind y _ _ _ _ _) tk hW hr' (fun A outer s H c' hr2 => hbody y A outer s H E f c' hr2) hNg hva hd hcd) hc q
      exact ⟨t', ht'.nox, hq'⟩
    refine wpAny_call (codeAny_mono go fun r s2 hq => ?_)
    cases r with
    | error e => exact (show False from hq).elim
    | ok fl =>
      cases fl with
      | ret u => exact J.after hq
      | next => exact False.elim hq
      | brk => exact False.elim hq
      | cont => exact False.elim hq⟩
end

/-! ### as data -/
/-- what a lambda's number means -/
structure LamOm (X : Cx) (Ω : Om) (n : Nat) (L : LamR) : Prop where
  mak : ∀ G f, CdF X L f G → Ω.op n G (.ref f)
  el : ∀ G v, Ω.op n G v → ∃ f, v = .ref f ∧ CdF X L f G
def dAct (ms : Nat → Option (M D)) : D → M D
  | .opq n => match ms n with
    | some m => catchM m
    | none => M.stuck
  | _ => M.stuck
section
variable {X : Cx} {Ω : Om} {F : Fr} {ρ : Env'} {pos : Pos}
theorem pdLam {n : Nat} {L : LamR} {c P : Addr} (lo : LamOm X Ω n L) (TB : TabB X.base X.mg c P) (hcode : X.env.code = .ref c) (hmT : (P, X.env.qual ++ "<lambda>") ∈ Ω.tb) (hu : ∀ p ∈ Ω.tb, p.1 = P → p.2 = X.env.qual ++ "<lambda>")
    (LS : LamS X.env.scope L.scope := by exact lamS_by (by decide +kernel)) (hdef : defaultsOf L.params X.env = ([], []) := by rfl) : PE X (.Lambda L.params L.body L.scope pos) (tD Ω F ρ (pure (.opq n))) := ⟨fun pins s σ H Q I ⟨S, G, R, w⟩ => by
  refine lam_makeP I TB hcode hmT hu R.f.w.st.tabs hdef (LS.has I.ok) fun f c' pm ctv H1 s' J eP T1 hf hn hfr hco hsz => ?_
  have gone : X.s_0.heap.get? f = none := Heap.get?_none_of_le (Nat.le_trans I.sz hsz)
  have J2 : Inv X pins σ (upd H1 f (FunO (X.env.qual ++ "<lambda>") L (cloFrom X.env.cells L.scope.names []) f c' pm ctv)) s' :=
    Inv.trackE (J.pins_of (pins' := (f, _) :: pins) fun p hp => by
      rcases List.mem_cons.mp hp with rfl | hp
      · exact ⟨hf, hn, fun e => absurd I.lt (Nat.not_lt.mpr (e ▸ hsz)), I.nofs hsz, fun v z => nomatch z⟩
      · exact J.pin p (List.mem_append_right _ hp)) gone (fun p hp e => by
      have h1 := (I.pin p hp).1
      exact absurd (Heap.lt_size h1) (Nat.not_lt.mpr (e ▸ hsz))) (funO_ok hf)
  have st := R.f.w.st
  obtain ⟨psT, hPT, _⟩ := T1 _ hmT
  have nP : ∀ {b : Addr} {o : HO}, H b = some o → (∀ ps, o ≠ .tbl ps) → b ≠ P := fun {b o} e n z => by
    obtain ⟨ps, e1, _⟩ := st.tabs _ hmT
    rw [z] at e
    exact n ps (Option.some.inj (e.symm.trans e1))
  have hx : HX Ω H H1 := fun a o e _ _ n3 => eP a o e (n3 _ hmT)
  have st1 : StOk Ω S H1 := ⟨eP _ _ st.dict (nP st.dict (by intro _ z; cases z)), eP _ _ st.great (nP st.great (by intro _ z; cases z)), eP _ _ st.cells (nP st.cells (by intro _ z; cases z)), T1⟩
  have nc : ∀ {b : Addr} {o : HO}, H1 b = some o → (∀ φ, o ≠ .ext φ) → b ≠ c' := fun {b o} e n z => by
    rw [z, hco] at e
    exact n _ (Option.some.inj e).symm
  have ncP : c' ≠ P := fun e => by rw [e, hPT] at hco; cases hco
  have w1 : Wd Ω S (upd G c' (CodeO c' (X.env.qual ++ "<lambda>"))) H1 := ⟨fun a o e => by
      by_cases h : a = c'
      · subst h; rw [upd_same] at e; rw [← e]; exact hco
      · rw [upd_ne h] at e; exact eP a o (R.f.w.same a o e) (fun z => by rw [z, R.f.w.gt _ hmT] at e; cases e),
    by rw [upd_ne (nc st1.dict (by intro _ z; cases z))]; exact R.f.w.ga, by rw [upd_ne (nc st1.great (by intro _ z; cases z))]; exact R.f.w.gg, by rw [upd_ne (nc st1.cells (by intro _ z; cases z))]; exact R.f.w.gc,
    fun q hq => by
      obtain ⟨ps, e1, _⟩ := T1 q hq
      rw [upd_ne (nc e1 (by intro _ z; cases z))]; exact R.f.w.gt q hq,
    fun a ps e => by
      by_cases h : a = c'
      · subst h; rw [upd_same] at e; cases e
      · rw [upd_ne h] at e; exact R.f.w.nt a ps e, st1⟩
  have g1 : GX G H (upd G c' (CodeO c' (X.env.qual ++ "<lambda>"))) := fun a ha => by
    by_cases h : a = c'
    · subst h
      cases h0 : H a with
      | none => exact absurd h0 ha
      | some o =>
        have h2 := (eP a o h0 ncP).symm.trans hco
        exact .inr ⟨_, h2, .inl ⟨_, rfl⟩, by rw [upd_same]; exact h2.symm⟩
    · exact .inl (upd_ne h)
  refine ⟨.ref f, _, J2, rfl, w _ _ _ (w1.new hn _ (by intro _ z; cases z)) (g1.trans hx st1 (GX.new hn _)) (hx.trans (HX.new hn _)) (.opq (lo.mak _ _ ⟨c', pm, ctv, .inl upd_same, .inl ?_⟩))⟩
  rw [upd_ne (fun e => by rw [← e, hco] at hn; cases hn), upd_same]⟩
/-- what is known of a lambda that may be called: its number, text, computation -/
structure LamT (X : Cx) (Ω : Om) (ρ : Env') (k n : Nat) (L : LamR) (m : M D) : Prop where
  om : LamOm X Ω n L
  ls : LamS X.env.scope L.scope
  bind : ∀ (q : Str) (cl : List (Str × Addr)) (pm cv ctv : Value), bindArgs (PySem.W.kla_fn "<lambda>" q L.params L.body L.scope cl pm cv ctv) ⟨[], []⟩ = pure []
  body : ∀ (A : Around) (outer : List Env) (s : Shared) (H G0 H0 : Hp) (E : XK) (f c' : Addr), Room k (A.deeper (lamEnv X L.scope s.heap.objs.size f c')) → PE (lamCx X A outer s H E L.scope f c') L.body (tD Ω ⟨G0, H0, E⟩ (noOwn ρ) m)
theorem pdAct {CS : Addr} {x a : Str} {g : Addr} {k : Nat} {pg : Arguments} {bg : List Stmt} {sg : Scope} {dV kV doc pm cdv ct oc : Value} {an od : Option Addr} {osl : Array (Option Value)} {Ng : List Str} {ea : Expr} {me : M D} {ms : Nat → Option (M D)} {p : Pos}
    (hK : X.K = Ω.K) (ex : ExOm Ω CS) (hm : X.mg x = some (.ref g)) (hk : PySem.W.keepIn X.K (.ref g) = true)
    (lk : X.K.lookup g = some ⟨oc, od, .func (PySem.W.fnOf x x pg bg sg dV kV doc pm an cdv ct), osl⟩) (hcg : PySem.W.codeIn X.K cdv x = true) (hb : L2.Binds X.K (PySem.W.fnOf x x pg bg sg dV kV doc pm an cdv ct) [a] []) (Sg : FnScope Ng [a] sg) (hNg : Ng[0]? = some a) (hva : Vis sg a)
    (hG : ∀ L : LamR, GivesC X Ng x sg g cdv bg a (CdF X L) (TCaught X.K CS)) (hr : Room (k + 2) X.A) (hl : ∀ n m, ms n = some m → ∃ L, LamT X Ω ρ k n L m)
    (ha : PE X ea (tD Ω F ρ me)) (hg : Gl X x := by rfl) (hdb : (x == ("__debug__" : Str)) = false := by decide) (hd : (a == ("__debug__" : Str)) = false := by decide) (hcd : (a == ("__classdict__" : Str)) = false := by decide)
    (he : starEach [ea] X.env = (false, eval ea X.env) :: starEach [] X.env := by rfl) (hpl : (backTo pos (starEach [] X.env)).any (·.1) = false := by rfl) :
    PE X (.Call (.Name x p) [ea] [] pos) (tD Ω F ρ (opC me (pure []) >>= ar1 (dAct ms))) := by
  refine PEi (pe_lamV (α := { y : Nat × LamR × M D // ms y.1 = some y.2.2 ∧ LamT X Ω ρ k y.1 y.2.1 y.2.2 }) (LA := fun y => y.1.2.1) (TT := TCaught X.K CS) (t := fun y E σ H' Q => ∃ GH : Hp × Hp, tD Ω ⟨GH.1, GH.2, E⟩ (noOwn ρ) y.1.2.2 σ H' Q) hg hm hk lk hcg hb Sg hNg hva (fun y => hG _) hr (fun y => y.2.2.ls) (fun y => y.2.2.bind)
    (fun y A outer s H E f c' hr' => PEx fun GH => y.2.2.body A outer s H GH.1 GH.2 E f c' hr') (paC ha paN he) hdb hd hcd he hpl) fun σ H Q ⟨S, G, I, w⟩ => (tG.bindI (R := RA Ω) I w).mono fun vs H1 ⟨S1, G1, ds, I1, s1, r, h1⟩ => ?_
  match ds, r, h1 with
  | [], _, h1 => exact h1.elim
  | _ :: _ :: _, _, h1 => exact h1.elim
  | [d], r, h1 =>
    have h1 : (dAct ms d).wp (Pg Ω (RD Ω) G1 H1 Q) (Er Ω F) S1 := h1
    cases d with
    | opq n =>
      unfold dAct at h1
      cases em : ms n with
      | none => simp only [em] at h1; exact h1.elim
      | some m =>
        simp only [em] at h1
        obtain ⟨L, lt⟩ := hl n m em
        cases r with
        | cons rv rn =>
          cases rn
          cases rv with
          | opq q =>
            obtain ⟨f, rfl, c', pm', ctv', rf, rc⟩ := lt.om.el _ _ q
            have le := RdLe.of I1.f.w.same
            refine ⟨⟨(n, L, m), em, lt⟩, f, rfl, ⟨c', pm', ctv', le.rd _ _ rf, le.rd _ _ rc⟩, (G1, H1), S1, G1, I1.fresh _, (wp_catch h1).mono (fun a S2 h G' H' b w' g' h' r' => ⟨.non, rfl, h G' H' .non w' g' h' .non⟩) fun x S2 ⟨n', en, h⟩ G' H' c d fx rx => ?_⟩
            obtain ⟨rfl, rd⟩ := rx
            unfold encX at en
            by_cases hc : x.cls < 32
            · rw [if_pos hc] at en
              cases ea : x.args with
              | cons _ _ => rw [ea] at en; cases en
              | nil =>
                rw [ea] at en
                cases Option.some.inj en
                cases d with
                | some a => exact absurd ea rd.1
                | none =>
                  refine ⟨hK ▸ ex.exm _ hc, fun a ha => ?_⟩
                  refine h _ _ (.ref a) (fx.w.new ha _ (by intro _ z; cases z)) (fx.g.trans fx.h fx.w.st (GX.new ha _)) (fx.h.trans (HX.new ha _)) (.opq (ex.op _ _ _ hc ?_))
                  exact .of upd_same
            · rw [if_neg hc] at en; cases en
    | _ => exact h1.elim
end
end DL
set_option Elab.async false
set_option linter.all false
set_option maxRecDepth 100000
set_option autoImplicit false
/-! DLt: sorted(xs, key=f), f a def of the module. -/
namespace DL
open PySem PySem.Spec PyProof.Rows L2
def keysD (m : List D → M D) : List D → M (List D)
  | [] => pure []
  | d :: ds => noErr (m [d]) >>= fun k => keysD m ds >>= fun ks => pure (k :: ks)
def sortBy (ds ks : List D) : List D := ((ds.zip ks).mergeSort fun p q => leD p.2 q.2).map (·.1)
def sortFin (ds ks : List D) : M D := gd (ds.length ≤ lim ∧ sortable ks = true) (pure (.lst (sortBy ds ks)))
def dSortK (m : List D → M D) (ds : List D) : M D := keysD m ds >>= sortFin ds
def dSortKey (m : List D → M D) : D → M D
  | .lst ds => dSortK m ds
  | .tup _ ds => dSortK m ds
  | _ => M.stuck
section
variable {X : Cx} {Ω : Om} {F : Fr} {S : DS} {G H : Hp}
/-- where a sort by keys stands behind i items -/
structure KSt (X : Cx) (Ω : Om) (F : Fr) (G H : Hp) (pins : List (Addr × Obj)) (σ : L2.St) (Q : VK) (m : List D → M D) (ds : List D) (a kS : Addr) (e1 i : Nat) (s : Shared) : Prop where
  ex : ∃ (H' : Hp) (S' : DS) (G' : Hp) (kvs : List V) (ks : List D) (kA : Array Value) (e : Nat), Inv X pins σ H' s ∧ Fx Ω F S' G' H' ∧ GX G H G' ∧ HX Ω H H' ∧ s.heap.get? kS = some (PyProof.Rows.seqObj "list" kA e) ∧ s.heap.get? a = some (PyProof.Rows.seqObj "list" #[] e1) ∧
    FpOk X pins H' kS ∧ FpOk X pins H' a ∧ Vals kvs kA.toList ∧ Reps Ω G' kvs ks ∧ ks.length = i ∧ (keysD m (ds.drop i) >>= fun ks' => sortFin ds (ks ++ ks')).wp (Pg Ω (RD Ω) G H Q) (Er Ω F) S'
theorem sortable_spec {ks : List D} (h : sortable ks = true) : PySem.W.AllAlike (ks.map D.py) ∧ PySem.W.Sortable (ks.map D.py) ∧ ∀ k ∈ ks, k.py.plain = true ∧ k.py.depth ≤ 8 := by
  unfold sortable at h
  simp only [Bool.and_eq_true, Bool.or_eq_true, List.all_eq_true, decide_eq_true_eq] at h
  obtain ⟨⟨ha, hp⟩, hs⟩ := h
  refine ⟨?_, ?_, hp⟩
  · intro d hd d' hd'
    obtain ⟨p, hpm, rfl⟩ := List.mem_map.mp hd
    obtain ⟨q, hqm, rfl⟩ := List.mem_map.mp hd'
    exact ha _ hpm _ hqm
  · rcases hs with hs | hs
    · refine .inl fun d hd => ?_
      obtain ⟨p, hpm, rfl⟩ := List.mem_map.mp hd
      have := hs _ hpm
      split at this
      · exact ⟨_, _, by rw [D.py, D.pys]⟩
      · exact nomatch this
    · refine .inr fun d hd => ?_
      obtain ⟨p, hpm, rfl⟩ := List.mem_map.mp hd
      have := hs _ hpm
      cases p with
      | non => exact nomatch this
      | tup t xs => exact nomatch this
      | dct t ks ws => exact nomatch this
      | st => exact nomatch this
      | opq n => exact nomatch this
      | bl b => simp [D.py]
      | int b => simp [D.py]
      | str b => simp [D.py]
      | lst b => simp [D.py]
theorem fpTo {pins : List (Addr × Obj)} {H' : Hp} {b : Addr} (f : FpOk X pins H b) (h : H' b = none) : FpOk X pins H' b := ⟨h, f.2⟩
theorem fpStk {pins : List (Addr × Obj)} {σ : L2.St} {s : Shared} {b : Addr} (f : FpOk X pins H b) (I : Inv X pins σ H s) : b ∉ frs X.stack := fun hb => by
  rcases List.mem_cons.mp (I.stkSub _ hb) with e | e
  · exact f.2.1 e
  · exact f.2.2.1 e
open PySem.W PySem.Calls in
theorem keyI_rest {pins : List (Addr × Obj)} {σ : L2.St} {s : Shared} {a kS : Addr} {e1 : Nat} {its : List Value} {vs : List V} {ds : List D} {Q : VK} {k : Nat} {f : Addr} {fd : FuncData} {ps : List Str} {m : List D → M D} {E : Value → Shared → Prop}
    (hK : X.K = Ω.K) (Fn : FnOk X.prog X.w X.K X.mg X.base CX0 k f fd ps (spN Ω 1 m)) (hr : Room (k + 2) X.A) (hb : Binds X.K fd ps []) (hka : kS ≠ a)
    (rv : Vals vs its) (hz : vs.length ≤ sizeLine) (r : Reps Ω G vs ds) (wG : Wd Ω S G H) (h0 : KSt X Ω F G H pins σ Q m ds a kS e1 0 s) :
    wpAny (model X.prog X.w) X.A.in1.in1 (ksk_rest a (.ref f) false its.toArray e1 (.ref kS)) (fun fl s' => fl = .done (.ret .none) ∧ EP X pins σ Q (.ref a) s') E s := by
  have lvd := r.length
  have lvi := rv.length
  unfold ksk_rest
  refine wpAny_bind (wpAny_rule ?_)
  first
    | rw [List.forIn_toArray]
    | (rw [← Array.forIn_toList]; simp only [List.toList_toArray])
    | rw [← Array.forIn_toList]
  refine wpAny_bind (ksk_fold (fun i s' => KSt X Ω F G H pins σ Q m ds a kS e1 i s') its 0 s h0 ?step ?done)
  case step =>
    rintro j x s' hx ⟨H', S', G', kvs, ks, kA, e, I, fx, gx, hxx, nk, na, fk, fa, kv, kr, kl, w⟩
    simp only [Nat.zero_add] at kl w ⊢
    have hj : j < its.length := (List.getElem?_eq_some_iff.mp hx).1
    have hjd : j < ds.length := by omega
    obtain ⟨d, hd⟩ : ∃ d, ds[j]? = some d := ⟨_, List.getElem?_eq_getElem hjd⟩
    obtain ⟨v, hv, rvd⟩ := r.getD hd
    obtain ⟨x', hx', rx⟩ := rv.get hv
    rw [hx] at hx'
    cases hx'
    have ed : ds.drop j = d :: ds.drop (j + 1) := by
      rw [List.drop_eq_getElem_cons hjd]
      rw [List.getElem?_eq_getElem hjd] at hd
      rw [Option.some.inj hd]
    rw [ed] at w
    unfold keysD at w
    rw [bind_assoc, wp_bind, wp_noErr] at w
    have sG : Same G G' := gx.same wG.same
    have hz2 : kA.size ≤ its.length := by
      have h1 : kvs.length = kA.size := by have := kv.length; rwa [Array.length_toList] at this
      have h2 := kr.length
      have h3 : ks.length = j := kl
      show kA.size ≤ its.length
      rw [← h1, h2, h3]
      exact Nat.le_of_lt hj
    have hzz : its.length ≤ sizeLine := by omega
    -- the call
    have sp : spN Ω 1 m [v] H' (fun v1 H1 => ∃ S1 G1 k1, Fx Ω F S1 G1 H1 ∧ GX G H G1 ∧ HX Ω H H1 ∧ Same G' G1 ∧ Rep Ω G1 v1 k1 ∧ (keysD m (ds.drop (j + 1)) >>= fun ks' => sortFin ds ((ks ++ [k1]) ++ ks')).wp (Pg Ω (RD Ω) G H Q) (Er Ω F) S1) (fun _ _ _ => False) :=
      ⟨rfl, S', G', [d], fx.w, .cons (rvd.same sG) .nil, w.mono (fun k1 S1 w1 G1 H1 b w' g' h' r' => ⟨S1, G1, k1, fx.step w' g' h', gx.trans hxx fx.w.st g', hxx.trans h', g'.same fx.w.same, r', by
        simp only [bind_assoc, pure_bind] at w1
        simp only [List.append_assoc, List.singleton_append]
        exact w1⟩) fun _ _ z => z.elim⟩
    refine wpAny_bind (wpAny_attempt (wpAny_mono (Q := fun u s2 => CE X.stack X.prog X.w H' s' (fun v1 H1 => ∃ S1 G1 k1, Fx Ω F S1 G1 H1 ∧ GX G H G1 ∧ HX Ω H H1 ∧ Same G' G1 ∧ Rep Ω G1 v1 k1 ∧ (keysD m (ds.drop (j + 1)) >>= fun ks' => sortFin ds ((ks ++ [k1]) ++ ks')).wp (Pg Ω (RD Ω) G H Q) (Er Ω F) S1) u s2) (E := fun _ _ => False)
      (wpAny_call (codeAny_mono (Fn.run X.A.in1.in1 X.stack s' H' ⟨[x], []⟩ [x] [v] _ _ hr.in1.in1 I.env0.in1.in1 (by have b := hb s' [x] I.kIn (by have := Fn.len _ _ _ _ sp; simpa using this); rwa [List.append_nil] at b) (.cons rx .nil) sp) fun res s2 hq => ?_)) (fun u s2 ce => ?_) fun _ _ z => z.elim))
    · cases res with
      | error e => exact (show False from hq).elim
      | ok fl =>
        cases fl with
        | ret u => exact hq
        | next => exact False.elim hq
        | brk => exact False.elim hq
        | cont => exact False.elim hq
    · obtain ⟨v1, H1, os, bare, un, hok, ru, S1, G1, k1, fx1, gx1, hx1, sG1, rk, w1⟩ := ce
      obtain ⟨v2, H2, I2, ru2, rfl, rfl⟩ := I.after (Q := fun v H => v = v1 ∧ H = H1) ⟨v1, H1, os, bare, un, hok, ru, rfl, rfl⟩
      have nk2 : s2.heap.get? kS = some (seqObj "list" kA e) := un.keep kS _ nk fk.1 (fpStk fk I) (by simp)
      have na2 : s2.heap.get? a = some (seqObj "list" #[] e1) := un.keep a _ na fa.1 (fpStk fa I) (by simp)
      have fk2 := fpTo fk (un.free kS _ nk fk.1 (by simp))
      have fa2 := fpTo fa (un.free a _ na fa.1 (by simp))
      have s1 := Heap.SameBut.update s2.heap kS (Obj.mapSeq (·.push u))
      obtain ⟨c2, hc2⟩ : ∃ c2, (s2.heap.update kS (Obj.mapSeq (·.push u))).get? kS = some (seqObj "list" (kA.push u) c2) := ⟨_, get?_update_seq nk2 (·.push u)⟩
      refine wpAny_bind (listUpdate_at nk2 rfl ?_ (Nat.le_trans hz2 hzz) (Nat.le_trans (Nat.le_of_eq (Array.size_push ..)) (Nat.succ_le_succ (Nat.le_trans hz2 hzz))))
      have I3 := I2.turnedL (t' := s2.toks) (h' := s2.heap.update kS (Obj.mapSeq (·.push u))) (ch := [kS]) (fun b o hb e => (s1.2 b (by simpa using hb)).trans e) (fun b hb => by rw [List.mem_singleton.mp hb]; exact fk2)
      refine wpAny_pure ⟨rfl, H2, S1, G1, kvs ++ [v2], ks ++ [k1], kA.push u, c2, I3, fx1, gx1, hx1, hc2, (s1.2 a hka.symm).trans na2, fk2, fa2, ?_, (kr.same sG1).append (.cons rk .nil), by rw [List.length_append, kl]; rfl, w1⟩
      rw [Array.toList_push]
      exact kv.append (.cons ru .nil)
  case done =>
    rintro s' ⟨H', S', G', kvs, ks, kA, e, I, fx, gx, hxx, nk, na, fk, fa, kv, kr, kl, w⟩
    simp only [Nat.zero_add] at kl w
    have ld : its.length = ds.length := by omega
    rw [ld, List.drop_length] at w
    have w : (sortFin ds (ks ++ [])).wp (Pg Ω (RD Ω) G H Q) (Er Ω F) S' := w
    rw [List.append_nil] at w
    unfold sortFin at w
    rw [wp_gd] at w
    obtain ⟨⟨hl, hs⟩, w⟩ := w
    obtain ⟨s1, s2, s3⟩ := sortable_spec hs
    have lkk := kr.length
    have lk2 : kvs.length = kA.size := by have := kv.length; rwa [Array.length_toList] at this
    have ep : ∀ {α β : Type} {l : List α} {m : List β}, l.length = m.length → (l.zip m).map (·.2) = m := fun h => zip_snd h
    have hd : ∀ p ∈ kvs.zip ks, Dp X.K H' p.1 p.2.py := fun p hp => hK ▸ Rep.dpH (kr.zipR p hp) (s3 _ (List.of_mem_zip (a := p.1) (b := p.2) hp).2).1 fx.w
    have hk' : EachIs (fun u d => ∃ as, Reads s'.heap u d as) kA.toList (ks.map D.py) := by
      have h1 := each_map (R := fun u d => ∃ as, Reads s'.heap u d as) (fun p : V × D => p.2.py) (each_reads I (vals_each kv lkk) hd)
      rw [show (kvs.zip ks).map (fun p : V × D => p.2.py) = ((kvs.zip ks).map (·.2)).map D.py by rw [List.map_map]; rfl, zip_snd lkk] at h1
      exact h1
    have ekz : ((vs.zip ds).zip ks).map (fun b : (V × D) × D => b.2.py) = ks.map D.py := by
      rw [show ((vs.zip ds).zip ks).map (fun b : (V × D) × D => b.2.py) = (((vs.zip ds).zip ks).map (·.2)).map D.py by rw [List.map_map]; rfl, zip_snd (by rw [List.length_zip]; omega)]
    have hR : EachIs (fun (u : Value) (b : (V × D) × D) => RelV b.1.1 u) its ((vs.zip ds).zip ks) := by
      have h1 : ∀ {us : List Value} {ps : List (V × D)} {zs : List D}, EachIs (fun (u : Value) (p : V × D) => RelV p.1 u) us ps → ps.length = zs.length → EachIs (fun (u : Value) (b : (V × D) × D) => RelV b.1.1 u) us (ps.zip zs) := by
        intro us ps zs h
        induction h generalizing zs with
        | nil => intro _; cases zs <;> exact .nil
        | cons a b ih =>
          cases zs with
          | nil => intro e; simp at e
          | cons z zs => intro e; exact .cons a (ih (by simpa using e))
      exact h1 (vals_each rv lvd) (by rw [List.length_zip]; omega)
    obtain ⟨h₁, g1, g2⟩ := restrict s'.heap fun b => b != kS
    have kp : KeepsBut a h₁ s'.heap := fun b o _ e => by
      by_cases hb : b = kS
      · subst hb; rw [g2 b (by simp)] at e; cases e
      · rw [← g1 b (by simpa using hb)]; exact e
    try dsimp only
    refine wpAny_bind (listItems_at nk rfl ?_)
    refine keyH_end (κ := dataKind s'.heap (ks.map D.py)) (h₁ := h₁) kp (g2 kS (by simp)) nk na hka (SortsAt.data hk' s1 s2 fun d hd => ?_) (by omega) (by omega) fun h3 tk3 c k3 n3 => ⟨rfl, ?_⟩
    · obtain ⟨k1, hk1, rfl⟩ := List.mem_map.mp hd
      have := (s3 _ hk1).2
      have := hr.un
      show X.A.units + 1 + 1 + k1.py.depth < cLine
      omega
    · have eo : EachIs (fun (u : Value) (b : (V × D) × D) => RelV b.1.1 u) (sortVals (dataKind s'.heap (ks.map D.py)) false kA.toList its) (((vs.zip ds).zip ks).mergeSort (dataLe false fun b : (V × D) × D => b.2.py)) :=
        keyedOut_each (fun b : (V × D) × D => b.2.py) (by rw [ekz]; exact ⟨s'.heap, kA.toList, s1, rfl, hk'⟩) hR
      have I4 := I.turnedL (t' := tk3) (h' := h3) (ch := [a, kS]) (fun b o hb e => by
        have hba : b ≠ a := fun z => hb (by simp [z])
        have hbk : b ≠ kS := fun z => hb (by simp [z])
        exact k3 b o hba ((g1 b (by simpa using hbk)).trans e)) (fun b hb => by
        rcases List.mem_cons.mp hb with rfl | hb
        · exact fa
        · rw [List.mem_singleton.mp hb]; exact fk)
      have ev : Vals ((((vs.zip ds).zip ks).mergeSort (dataLe false fun b : (V × D) × D => b.2.py)).map (·.1.1)) (sortVals (dataKind s'.heap (ks.map D.py)) false kA.toList its) := by
        have h1 : ∀ {us : List Value} {ps : List ((V × D) × D)}, EachIs (fun (u : Value) (b : (V × D) × D) => RelV b.1.1 u) us ps → Vals (ps.map (·.1.1)) us := by
          intro us ps h
          induction h with
          | nil => exact .nil
          | cons a b ih => exact .cons a ih
        exact h1 eo
      have er : Reps Ω G' ((((vs.zip ds).zip ks).mergeSort (dataLe false fun b : (V × D) × D => b.2.py)).map (·.1.1)) ((((vs.zip ds).zip ks).mergeSort (dataLe false fun b : (V × D) × D => b.2.py)).map (·.1.2)) := by
        have h1 := Reps.ofAll (Ω := Ω) (G := G') ((((vs.zip ds).zip ks).mergeSort (dataLe false fun b : (V × D) × D => b.2.py)).map (·.1)) fun p hp => by
          obtain ⟨b, hb, rfl⟩ := List.mem_map.mp hp
          have hb := (List.mergeSort_perm _ _).mem_iff.mp hb
          exact (r.zipR b.1 (List.of_mem_zip (a := b.1) (b := b.2) hb).1).same (gx.same wG.same)
        rw [List.map_map, List.map_map] at h1
        exact h1
      have e2 : (((vs.zip ds).zip ks).mergeSort (dataLe false fun b : (V × D) × D => b.2.py)).map (·.1.2) = sortBy ds ks := by
        have h1 := List.map_mergeSort (r := dataLe false fun b : (V × D) × D => b.2.py) (s := fun p q : D × D => leD p.2 q.2) (f := fun b : (V × D) × D => (b.1.2, b.2)) (l := (vs.zip ds).zip ks) fun _ _ _ _ => rfl
        have h2 : ((vs.zip ds).zip ks).map (fun b : (V × D) × D => (b.1.2, b.2)) = ds.zip ks := by
          have h3 : ((vs.zip ds).map (·.2)).zip ks = ds.zip ks := by rw [zip_snd lvd]
          rw [← h3, List.zip_map_left]
          rfl
        unfold sortBy
        rw [← h2, ← h1, List.map_map]
        rfl
      rw [e2] at er
      have lz : ((((vs.zip ds).zip ks).mergeSort (dataLe false fun b : (V × D) × D => b.2.py)).map (·.1.1)).length ≤ sizeLine := by
        rw [er.length]
        unfold sortBy
        rw [List.length_map, List.length_mergeSort, List.length_zip]
        omega
      have I5 := Inv.take (t' := tk3) (it := a) (o := .lst ((((vs.zip ds).zip ks).mergeSort (dataLe false fun b : (V × D) × D => b.2.py)).map (·.1.1))) (h' := h3) I4 (fun b ob _ e => e) fa ⟨lz, _, c, ev, n3⟩
      exact ⟨.ref a, _, I5, rfl, Pg.newO fx (Pg.step fx.w gx hxx w) fa.1 (.newL fx.w fa.1 er)⟩
open PySem.W PySem.Calls in
theorem keyI_core {pins : List (Addr × Obj)} {σ : L2.St} {s : Shared} {l : Addr} {its : List Value} {vs : List V} {ds : List D} {Q : VK} {k : Nat} {f : Addr} {fd : FuncData} {ps : List Str} {m : List D → M D}
    (hK : X.K = Ω.K) (Fn : FnOk X.prog X.w X.K X.mg X.base CX0 k f fd ps (spN Ω 1 m)) (hr : Room (k + 2) X.A) (hb : Binds X.K fd ps []) (I : Inv X pins σ H s) (fx : Fx Ω F S G H)
    (rv : Vals vs its) (hl : SeqAtV s l its) (hz : vs.length ≤ sizeLine) (r : Reps Ω G vs ds) (h : (dSortK m ds).wp (Pg Ω (RD Ω) G H Q) (Er Ω F) S) :
    wpAny (model X.prog X.w) X.A (call (.builtin "sorted") [.ref l] [(Str.ofString "key", .ref f)]) (EP X pins σ Q) X.xe s := by
  have lvi := rv.length
  have hZ : its.length ≤ sizeLine := by omega
  have core : ∀ E' : Value → Shared → Prop, wpAny (model X.prog X.w) X.A.in1.in1 (Builtin.«list.sort» ⟨[.ref (s.heap.objs.size + 1)], [(Str.ofString "key", .ref f)]⟩) (fun fl s' => fl = .done (.ret .none) ∧ EP X pins σ Q (.ref (s.heap.objs.size + 1)) s') E' { s with heap := copyHeap s.heap its } := by
    intro E'
    rw [ksk_t1]
    have I1 : Inv X pins σ H { s with heap := copyHeap s.heap its } := I.kept (t' := s.toks) fun b o e => copyHeap_old e
    have fa : FpOk X pins H (s.heap.objs.size + 1) := I.fpOk (Nat.le_succ _) (I.hok.fresh (Nat.le_succ _))
    have ho := copyHeap_at s.heap its
    obtain ⟨e1, ho1⟩ : ∃ e1, ((copyHeap s.heap its).update (s.heap.objs.size + 1) (Obj.mapSeq fun _ => (#[] : Array Value))).get? (s.heap.objs.size + 1) = some (seqObj "list" #[] e1) := ⟨_, get?_update_seq ho fun _ => #[]⟩
    have sb := Heap.SameBut.update (copyHeap s.heap its) (s.heap.objs.size + 1) (Obj.mapSeq fun _ => (#[] : Array Value))
    have I2 : Inv X pins σ H { s with heap := (copyHeap s.heap its).update (s.heap.objs.size + 1) (Obj.mapSeq fun _ => (#[] : Array Value)) } :=
      Inv.turnedL (s := { s with heap := copyHeap s.heap its }) (h' := (copyHeap s.heap its).update (s.heap.objs.size + 1) (Obj.mapSeq fun _ => (#[] : Array Value))) (t' := s.toks) (ch := [s.heap.objs.size + 1]) I1 (fun b o hb e => (sb.2 b (by simpa using hb)).trans e) (fun b hb => by rw [List.mem_singleton.mp hb]; exact fa)
    have hkS : (((copyHeap s.heap its).update (s.heap.objs.size + 1) (Obj.mapSeq fun _ => (#[] : Array Value))).push (seqObj "tuple" its.toArray 0)).objs.size = ((copyHeap s.heap its).update (s.heap.objs.size + 1) (Obj.mapSeq fun _ => (#[] : Array Value))).objs.size + 1 := size_push' _ _
    have fk := I2.fpOk (H' := H) (b := ((copyHeap s.heap its).update (s.heap.objs.size + 1) (Obj.mapSeq fun _ => (#[] : Array Value))).objs.size + 1) (Nat.le_succ _) (I2.hok.fresh (Nat.le_succ _))
    have hlt : s.heap.objs.size + 1 < ((copyHeap s.heap its).update (s.heap.objs.size + 1) (Obj.mapSeq fun _ => (#[] : Array Value))).objs.size := Heap.lt_size ho1
    unfold ksk_tree
    refine wpAny_bind (listItems_at ho rfl ?_)
    refine wpAny_bind (listUpdate_at ho rfl ?_ (by rw [List.size_toArray]; exact hZ) (Nat.zero_le _))
    refine wpAny_bind (seqEpoch_at ho1 rfl ?_)
    refine wpAny_bind (wpAny_newTuple ?_ (by show its.length ≤ _; exact hZ))
    refine wpAny_bind (wpAny_newList ?_ (Nat.zero_le _))
    refine wpAny_holding ?_
    have I3 : Inv X pins σ H { s with heap := (((copyHeap s.heap its).update (s.heap.objs.size + 1) (Obj.mapSeq fun _ => (#[] : Array Value))).push (seqObj "tuple" its.toArray 0)).push (seqObj "list" #[] 0) } :=
      I2.kept (t' := s.toks) fun b o e => Heap.get?_push_of_some _ (Heap.get?_push_of_some _ e)
    refine keyI_rest (s := { s with heap := (((copyHeap s.heap its).update (s.heap.objs.size + 1) (Obj.mapSeq fun _ => (#[] : Array Value))).push (seqObj "tuple" its.toArray 0)).push (seqObj "list" #[] 0) }) (kS := (((copyHeap s.heap its).update (s.heap.objs.size + 1) (Obj.mapSeq fun _ => (#[] : Array Value))).push (seqObj "tuple" its.toArray 0)).objs.size)
      hK Fn hr hb (by rw [hkS]; exact Nat.ne_of_gt (Nat.lt_succ_of_lt hlt)) rv hz r fx.w ⟨H, S, G, [], [], #[], 0, I3, fx, GX.refl _ _, HX.refl _ _, Heap.get?_push_size _ rfl, Heap.get?_push_of_some _ (Heap.get?_push_of_some _ ho1), by rw [hkS]; exact fk, fa, .nil, .nil, rfl, ?_⟩
    rw [List.drop_zero]
    exact h
  rcases hl with hl | hl
  · exact sorted_of_sort hl hZ (ksk_s1 _ _) (fun _ => ksk_l1 _ _) core
  · exact sorted_of_sortT hl hZ (ksk_s1 _ _) (fun _ => ksk_l1 _ _) core
variable {ρ : Env'} {x fn : Str} {p pf pos kpos : Pos} {ea : Expr} {me : M D} {k k' : Nat} {ps : List Str} {m : List D → M D}
/-- sorted(a, key=f) -/
theorem pdSortKey (hK : X.K = Ω.K) (c : Cd X.prog X.w X.mg X.base Ω k fn ps m) (hp : ps.length = 1) (hr : Room k' X.A) (hk : k + 2 ≤ k') (ha : PE X ea (tD Ω F ρ me)) (hm : X.mg "sorted" = none) (hg : Gl X "sorted" := by rfl) (hgf : Gl X fn := by rfl) (hdf : (fn == ("__debug__" : Str)) = false := by decide)
    (hv : bootBuiltins "sorted" = some (.builtin "sorted") := by decide +kernel)
    (he : backTo pos (starEach [ea] X.env) = (false, eval ea X.env) :: backTo pos (starEach [] X.env) := by rfl) (hpl : (backTo pos (starEach [ea] X.env)).any (·.1) = false := by rfl)
    (hall : (backToKw pos (keywordEach [⟨some "key", .Name fn pf, kpos⟩] X.env)).all (·.1.isSome) = true := by rfl) (hnone : (backToKw pos (keywordEach [⟨some "key", .Name fn pf, kpos⟩] X.env)).any (·.1.isNone) = false := by rfl) (hks : (backToKw pos (keywordEach [⟨some "key", .Name fn pf, kpos⟩] X.env)).filterMap (·.1) = [Str.ofString "key"] := by rfl)
    (hst : starEach [ea] X.env = (false, eval ea X.env) :: starEach [] X.env := by rfl) :
    PE X (.Call (.Name "sorted" p) [ea] [⟨some "key", .Name fn pf, kpos⟩] pos) (tD Ω F ρ (opC me (pure []) >>= ar1 (dSortKey m))) := by
  obtain ⟨f, fd, G0, hmf, hkp, hb, _⟩ := c.ex
  rw [← hK] at G0 hkp hb
  rw [hp] at G0
  have call : CallRK X (.builtin "sorted") [Str.ofString "key"] (fun xs zs H Q => ∃ x S G d, xs = [x] ∧ zs = [.ref f] ∧ Fx Ω F S G H ∧ Rep Ω G x d ∧ (dSortKey m d).wp (Pg Ω (RD Ω) G H Q) (Er Ω F) S) := by
    intro pins s σ H vs zs us ws Q I rr rz ⟨x, S, G, d, e1, e2, fx, r, h⟩
    subst e1
    subst e2
    obtain ⟨w1, rfl, q1⟩ := vals1 rz
    obtain rfl : w1 = Value.ref f := q1
    obtain ⟨u1, rfl, q2⟩ := vals1 rr
    cases d with
    | lst xs =>
      cases r with
      | @lst a ys _ q qs =>
        obtain ⟨its, rv, hl, hz⟩ := I.list (fx.w.lst (K := X.K) q)
        obtain rfl : u1 = Value.ref a := q2
        exact keyI_core hK G0 (hr.mono hk) hb I fx rv (.inl hl.isList) hz qs h
    | tup t xs =>
      cases r with
      | @tup a _ ys _ q qs =>
        obtain ⟨its, rv, hl, hz⟩ := I.tuple (fx.w.tup (K := X.K) q)
        obtain rfl : u1 = Value.ref a := q2
        exact keyI_core hK G0 (hr.mono hk) hb I fx rv (.inr hl) hz qs h
    | _ => exact h.elim
  refine PEi (pe_callBK call hg hm hv (paC ha paN hst) (pk_cons (pe_glob hgf hmf (show RelV (.ref f) (.ref f) from rfl) hdf) pk_nil) (by decide) (by decide) he hpl hall hnone hks) fun σ H Q ⟨S, G, I, w⟩ => (tG.bindI (R := RA Ω) I w).mono fun vs H1 ⟨S1, G1, ds, I1, s1, r, h1⟩ => ?_
  match ds, r, h1 with
  | [], _, h1 => exact h1.elim
  | _ :: _ :: _, _, h1 => exact h1.elim
  | [d], r, h1 =>
    cases r with
    | cons rx rn =>
      cases rn
      exact ⟨_, S1, G1, d, rfl, rfl, I1.f, rx, h1⟩
end
end DL
set_option Elab.async false
set_option linter.all false
set_option maxRecDepth 100000
set_option autoImplicit false
/-! DLu: a list of lambdas, each called by a def that catches. -/
namespace DL
open PySem PySem.Spec PyProof.Rows L2 LamX
section
variable {X : Cx} {Ω : Om} {F : Fr} {ρ : Env'} {pos : Pos}
inductive LamTs (X : Cx) (Ω : Om) (ρ : Env') (k : Nat) : Nat → List (M D) → Prop
  | nil {n : Nat} : LamTs X Ω ρ k n []
  | cons {n : Nat} {L : LamR} {m : M D} {ms : List (M D)} : LamT X Ω ρ k n L m → LamTs X Ω ρ k (n + 1) ms → LamTs X Ω ρ k n (m :: ms)
theorem LamTs.get {k : Nat} : ∀ {ms : List (M D)} {b j : Nat} {m : M D}, LamTs X Ω ρ k b ms → ms[j]? = some m → ∃ L, LamT X Ω ρ k (b + j) L m
  | _ :: _, b, 0, m, .cons h _, e => by
    rw [List.getElem?_cons_zero] at e
    cases Option.some.inj e
    exact ⟨_, h⟩
  | _ :: _, b, j + 1, m, .cons _ t, e => by
    rw [List.getElem?_cons_succ] at e
    obtain ⟨L, h⟩ := LamTs.get t e
    exact ⟨L, by rw [show b + (j + 1) = b + 1 + j by omega]; exact h⟩
/-- lambda i bears the number 33 + i -/
def lamsM (ms : List (M D)) : Nat → Option (M D) := fun n => if n < 33 then none else ms[n - 33]?
theorem LamTs.hl {k : Nat} {ms : List (M D)} (h : LamTs X Ω ρ k 33 ms) : ∀ n m, lamsM ms n = some m → ∃ L, LamT X Ω ρ k n L m := fun n m e => by
  unfold lamsM at e
  by_cases c : n < 33
  · rw [if_pos c] at e; cases e
  · rw [if_neg c] at e
    obtain ⟨L, q⟩ := h.get e
    exact ⟨L, by rw [show n = 33 + (n - 33) by omega]; exact q⟩
/-- x(l), x a def that catches -/
theorem pdActF {CS : Addr} {x a : Str} {st : Stmt} {g : Addr} {fd : FuncData} {Ng : List Str} {ea : Expr} {me : M D} {ms : List (M D)} {k k' : Nat} {p : Pos} (hK : X.K = Ω.K) (ex : ExOm Ω CS) (Fn : L2.Fun Ω.K x x st g fd) (hm : X.mg x = some (.ref g)) (Sg : FnScope Ng [a] (defScope st))
    (hb : L2.Binds Ω.K fd [a] []) (hG : ∀ (cdv : Value) (L : LamR), GivesC X Ng x (defScope st) g cdv (defBody st) a (CdF X L) (TCaught X.K CS)) (hr : Room k' X.A) (hk : k + 2 ≤ k') (hl : LamTs X Ω ρ k 33 ms) (ha : PE X ea (tD Ω F ρ me))
    (hNg : Ng[0]? = some a := by rfl) (hva : Vis (defScope st) a := by first | exact Or.inl rfl | exact Or.inr (Or.inl rfl) | exact Or.inr (Or.inr rfl)) (hg : Gl X x := by rfl) (hdb : (x == ("__debug__" : Str)) = false := by decide) (hd : (a == ("__debug__" : Str)) = false := by decide) (hcd : (a == ("__classdict__" : Str)) = false := by decide)
    (he : starEach [ea] X.env = (false, eval ea X.env) :: starEach [] X.env := by rfl) (hpl : (backTo pos (starEach [] X.env)).any (·.1) = false := by rfl) :
    PE X (.Call (.Name x p) [ea] [] pos) (tD Ω F ρ (opC me (pure []) >>= ar1 (dAct (lamsM ms)))) := by
  have kp := Fn.kp
  obtain ⟨oc, od, kV, doc, pm, an, cdv, ct, osl, rfl, lk, hcd'⟩ := Fn.ex
  rw [← hK] at lk hcd' hb kp
  exact pdAct hK ex hm kp lk hcd' hb Sg hNg hva (hG cdv) (hr.mono hk) hl.hl ha hg hdb hd hcd he hpl
end
/-! where lambdas stand -/
def forBody : Stmt → List Stmt
  | .For _ _ b _ _ => b
  | _ => []
def forIter : Stmt → Expr
  | .For _ it _ _ _ => it
  | _ => .Constant .none 0 ⟨0, 0, 0, 0⟩
def listElts : Expr → List Expr
  | .List es _ => es
  | _ => []
def lamOf : Expr → Option LamR
  | .Lambda ps b sc _ => some ⟨ps, b, sc⟩
  | _ => none
/-! the world of a law with lambdas and exceptions: 0 the script, 1 + c an exception of class c < 32, 33 + i lambda i -/
def omX (K : PySem.W.Frag) (sa ga ca : Addr) (cells : List Int) (P : Addr) (q : Str) (cl : LamR → List (Str × Addr)) (xc : Nat → Value) (lams : List (Option LamR)) : Om where
  K := K
  as := sa
  ag := ga
  ac := ca
  cells := cells
  tb := [(P, q)]
  xc := xc
  xf := fun _ => []
  op := fun n G v => match n with
    | 0 => ∃ a xs, v = .ref a ∧ SqL K G a xs ∧ xs.length = cells.length
    | n + 1 => if n < 32 then ∃ a, v = .ref a ∧ Rd G a (ExT (xc n) none a) else
      ∃ L, lams[n - 32]? = some (some L) ∧ ∃ (f c' : Addr) (pm ctv : Value), v = .ref f ∧ Rd G f (FunO q L (cl L) f c' pm ctv) ∧ Rd G c' (CodeO c' q)
  opm := fun n G G' v hh h => by
    cases n with
    | zero =>
      obtain ⟨a, xs, e, q, l⟩ := h
      exact ⟨a, xs, e, q.elim (fun r => .inl (hh _ _ r)) .inr, l⟩
    | succ n =>
      by_cases c : n < 32
      · simp only [if_pos c] at h ⊢
        obtain ⟨a, e, r⟩ := h
        exact ⟨a, e, hh _ _ r⟩
      · simp only [if_neg c] at h ⊢
        obtain ⟨L, e, f, c', pm, ctv, e2, r1, r2⟩ := h
        exact ⟨L, e, f, c', pm, ctv, e2, hh _ _ r1, hh _ _ r2⟩
  opn := fun n G v h e => by
    subst e
    cases n with
    | zero => obtain ⟨a, xs, e, _⟩ := h; cases e
    | succ n =>
      by_cases c : n < 32
      · simp only [if_pos c] at h
        obtain ⟨a, e, _⟩ := h; cases e
      · simp only [if_neg c] at h
        obtain ⟨L, _, f, c', pm, ctv, e, _⟩ := h; cases e
section
variable {K : PySem.W.Frag} {sa ga ca P : Addr} {cells : List Int} {q : Str} {cl : LamR → List (Str × Addr)} {xc : Nat → Value} {lams : List (Option LamR)}
theorem omX_op {n : Nat} {G : Hp} {v : V} (h : n < 32) : (omX K sa ga ca cells P q cl xc lams).op (n + 1) G v ↔ ∃ a, v = .ref a ∧ Rd G a (ExT (xc n) none a) := by
  show (if n < 32 then _ else _) ↔ _
  rw [if_pos h]
theorem omX_lam {X : Cx} {i : Nat} {L : LamR} (hq : X.env.qual ++ "<lambda>" = q) (hcl : ∀ L, cl L = cloFrom X.env.cells L.scope.names []) (h : lams[i]? = some (some L)) : LamOm X (omX K sa ga ca cells P q cl xc lams) (33 + i) L := by
  subst hq
  have e : 33 + i = (32 + i) + 1 := by omega
  constructor
  · intro G f ⟨c', pm, ctv, r1, r2⟩
    rw [e]
    show if 32 + i < 32 then _ else _
    rw [if_neg (by omega)]
    exact ⟨L, by rw [show 32 + i - 32 = i by omega]; exact h, f, c', pm, ctv, rfl, by rw [hcl]; exact r1, r2⟩
  · intro G v hv
    rw [e] at hv
    have hv : (if 32 + i < 32 then _ else _) := hv
    rw [if_neg (by omega)] at hv
    obtain ⟨L', e1, f, c', pm, ctv, e2, r1, r2⟩ := hv
    rw [show 32 + i - 32 = i by omega, h] at e1
    cases e1
    exact ⟨f, e2, c', pm, ctv, by rw [← hcl]; exact r1, r2⟩
theorem omX_ex {CS : Addr} (he : ∀ c, c < 32 → PySem.W.exmOne K (xc c) (.ref CS) = some true) : ExOm (omX K sa ga ca cells P q cl xc lams) CS :=
  ⟨he, fun c G a hc r => (omX_op hc).mpr ⟨a, rfl, r⟩⟩
theorem omX_is {Ct : Addr} {is : Nat → Option Bool} (hn : PySem.W.kitOne K (.type "NoneType") (.ref Ct) = some false) (h : ∀ n b, is n = some b → n < 32 ∧ ∃ C, xc n = .ref C ∧ ExcC K C ∧ PySem.W.kitOne K (.ref C) (.ref Ct) = some b) : IsX (omX K sa ga ca cells P q cl xc lams) Ct is :=
  ⟨fun n b e G v hv => by
    obtain ⟨h1, C, h2, h3, h4⟩ := h n b e
    obtain ⟨a, e2, r⟩ := (omX_op h1).mp hv
    exact ⟨a, C, e2, h2 ▸ r, h3, h4⟩, hn⟩
theorem omX_sc : scLen (omX K sa ga ca cells P q cl xc lams) := fun G v h => h
end
end DL
set_option Elab.async false
set_option linter.all false
set_option maxRecDepth 100000
set_option autoImplicit false
/-! DLv: z.join(xs). -/
namespace DL
open PySem PySem.Spec PyProof.Rows L2
def dJoin (z : Str) : List D → M D
  | [.lst ds] => match D.strs? ds with
    | some ys => gd ((ys.map (·.length)).sum + ys.length * z.length ≤ 16777216) (pure (.str (Txt.join z ys)))
    | none => M.stuck
  | _ => M.stuck
section
variable {X : Cx} {Ω : Om} {F : Fr} {ρ : Env'} {S : DS} {G H : Hp} {o e : Expr} {es : List Expr} {mo : M D} {ms : M (List D)} {ap cp : Pos}
theorem reps_strs_inv : ∀ {ys : List Str} {vs : List V}, Reps Ω G vs (ys.map D.str) → vs = ys.map V.str
  | [], _, r => by cases r; rfl
  | y :: ys, _, r => by
    cases r with
    | cons a b => cases a; rw [reps_strs_inv b]; rfl
theorem dm_join : MtR X "str.join" (rMS Ω F dJoin) := MtRi mt_join fun x xs H Q ⟨z, S, G, ds, ex, f, r, h⟩ => by
  subst ex
  unfold dJoin at h
  split at h
  · split at h
    · rename_i e2
      rw [wp_gd] at h
      have e3 := strs?_eq e2
      subst e3
      cases r with
      | cons r t =>
        cases t
        cases r with
        | lst q rs =>
          have e4 := reps_strs_inv rs
          subst e4
          exact ⟨z, _, _, rfl, rfl, .inl (f.w.lst q), h.1, Pg.here f h.2 (.str _)⟩
    · exact h.elim
  · exact h.elim
theorem pdJoin (ho : PE X o (tD Ω F ρ mo)) (ha : PA X [e] (tA Ω F ρ ms)) (hbase : attributeBase o "join" X.env (eval o X.env) = eval o X.env := by rfl)
    (hfew : ((backTo cp (starEach [e] X.env)).all (fun x => !x.1) && (backToKw cp (keywordEach [] X.env)).all (fun x => x.1.isSome) && decide ([e].length + ([] : List Keyword).length + (if ([] : List Keyword).isEmpty then 0 else 1) < 30)) = true := by rfl)
    (hline : (ap.endLine == cp.line) = true := by rfl) (hs : starEach [e] X.env = (false, eval e X.env) :: starEach [] X.env := by rfl) (hplain : (backTo cp (starEach [] X.env)).any (·.1) = false := by rfl) :
    PE X (.Call (.Attribute o "join" ap) [e] [] cp) (tD Ω F ρ (mo >>= asS >>= fun z => ms >>= fun ds => dJoin z ds)) := pdMS PySem.F.slot_str_join PySem.F.type_str_join dm_join ho ha hbase hfew hline hs hplain
end
end DL
set_option Elab.async false
set_option linter.all false
set_option maxRecDepth 100000
set_option autoImplicit false
/-! DLw: the end of a row whose law holds lambdas, and runs where no repr is under way. -/
namespace DL
open PySem PySem.Spec PyProof.Rows L2 LamX
section
variable {P : Program} {w : World} {K : PySem.W.Frag} {mg : Str → Option Value}
theorem law_runT {mb : Str → Option Value} {k : Nat} {fa a c T : Addr} {fd : FuncData} {x : Str} {sp : Sp} {t₁ : Shared} {us : List Value} {zs : List Int} (kin : K.In t₁.heap) (gl : t₁.heap.Ns mainGlobals mg) (bl : t₁.heap.Ns builtinsNs mb)
    (bb : ∀ x : Str, x ≠ "__name__" → mb x = bootBuiltins x) (nol : t₁.heap.NoLimit) (ge : t₁.gens = #[]) (oa : t₁.heap.get? a = some { cls := .type "list", data := .seq us.toArray }) (iu : IntsAre us zs) (lz : zs.length ≤ sizeLine) (rm : Room k callerA)
    (oT : t₁.heap.get? T = some { cls := .none, data := .fields #[] }) (nT : K.lookup T = none) (C : PySem.W.CodeHd t₁.heap c T)
    (bm : ∃ (bm : Addr) (ob : Obj), mg "__builtins__" = some (.ref bm) ∧ bm ≠ builtinsNs ∧ t₁.heap.get? bm = some ob ∧ ob.cls = .type "module" ∧ ob.dict = some builtinsNs ∧ ob.data = .plain)
    (Fp : ∀ base : Heap, K.In base → base.Ns mainGlobals mg → TabB base mg c T → FnG P w K mg base k fa fd [x] sp) (bi : ∀ (s : Shared) (u : Value), BindsTo s fd ⟨[u], []⟩ [(x, u)]) (ask : ∀ H : Hp, H T = some (.tbl #[]) → (∀ b, H b = none ∨ b = T ∨ ∃ o xs, H b = some (.frz o (.lst xs))) → SqL K H a (zs.map V.int) → sp [.ref a] H (fun v _ => v = .bl true) fun _ _ _ => False) :
    codeAny (model P w) callerA (.call (.ref fa) ⟨[.ref a], []⟩) (fun r t' => r = .ok (.ret (.bool true)) ∧ OldK t₁.heap t'.heap ∧ t'.os = t₁.os ∧ AllBare t'.gens) t₁ := by
  have rv : Vals (zs.map V.int) us := vals_ints iu
  have lu := iu.length
  have aT : a ≠ T := fun e => by rw [e, oT] at oa; cases oa
  have main : ∀ M : Hp, M T = some (.tbl #[]) → (∀ b, M b = none ∨ b = T ∨ ∃ o xs, M b = some (.frz o (.lst xs))) → SqL K M a (zs.map V.int) → HOk P w M t₁.heap → (∀ b, M b ≠ none → b = a ∨ b = T) → (M a ≠ none → K.lookup a = none) →
      codeAny (model P w) callerA (.call (.ref fa) ⟨[.ref a], []⟩) (fun r t' => r = .ok (.ret (.bool true)) ∧ OldK t₁.heap t'.heap ∧ t'.os = t₁.os ∧ AllBare t'.gens) t₁ := by
    intro M mT on sq ok one nk
    have hid : ∀ {b : Addr} {o : Obj}, t₁.heap.get? b = some o → M b = none → (hidT t₁.heap M).get? b = some o := fun e n => hidT_get e n
    -- what is neither the script nor the table is not hidden
    have bare : ∀ {b : Addr} {o : Obj}, t₁.heap.get? b = some o → (∀ vs n, o.data ≠ .seq vs n) → o.data ≠ .fields #[] → M b = none := fun {b o} e h1 h2 => by
      by_cases n : M b = none
      · exact n
      · rcases one b n with z | z
        · subst z; rw [oa] at e; cases e; exact absurd rfl (h1 _ _)
        · subst z; rw [oT] at e; cases e; exact absurd rfl h2
    have nsH : ∀ {b : Addr} {m : Str → Option Value}, t₁.heap.Ns b m → (hidT t₁.heap M).Ns b m := fun ⟨o, es, ep, e, d, r⟩ => ⟨o, es, ep, hid e (bare e (fun vs n z => by rw [d] at z; cases z) fun z => by rw [d] at z; cases z), d, r⟩
    have kH : K.In (hidT t₁.heap M) := by
      intro b o e
      refine hid (kin b o e) ?_
      by_cases n : M b = none
      · exact n
      · rcases one b n with z | z
        · subst z; rw [nk n] at e; cases e
        · subst z; rw [nT] at e; cases e
    have md : Mod K mg (hidT t₁.heap M) := ⟨kH, nsH gl, ⟨mb, nsH bl, bb⟩, let ⟨mc, h1, h2⟩ := nol; ⟨mc, nsH h1, h2⟩⟩
    have TB : TabB (hidT t₁.heap M) mg c T := by
      refine ⟨?_, ?_, fun z => ?_⟩
      · obtain ⟨o, vs, file, tf, flags, tg, inF, text, tt, e1, r1, r2, r3, r⟩ := C
        exact ⟨o, vs, file, tf, flags, tg, inF, text, tt, hid e1 (bare e1 (fun vs n z => by rw [r2] at z; cases z) fun z => by rw [r2] at z; cases z; simp at r3), r1, r2, r3, r⟩
      · obtain ⟨m, ob, b1, b2, b3, b4, b5, b6⟩ := bm
        have nG : m ≠ mainGlobals := fun q => by
          obtain ⟨o, es, ep, e, hd, _⟩ := gl
          rw [q, e] at b3
          cases b3
          rw [hd] at b6
          cases b6
        have nP : m ≠ T := fun q => by
          rw [q, oT] at b3
          cases b3
          cases b6
        exact ⟨m, ob, b1, b2, nG, nP, hid b3 (bare b3 (fun vs n z => by rw [b6] at z; cases z) fun z => by rw [b6] at z; cases z), b4, b5, b6⟩
      · obtain ⟨o, es, ep, e, hd, _⟩ := gl
        rw [z, oT] at e
        cases e
        cases hd
    have en : Env0 P w K mg (hidT t₁.heap M) callerA [] t₁ M := ⟨rfl, md, fun b o e => of_hidT e, Nat.le_of_eq (hidT_size _ _), trivial, (fun b hb => nomatch hb), ok, .of_eq ge⟩
    refine codeAny_mono ((Fp _ kH (nsH gl) TB).go callerA [] t₁ M ⟨[.ref a], []⟩ [.ref a] [.ref a] _ _ rfl rm en (bi t₁ (.ref a)) (.cons rfl .nil) (ask M mT on sq)) fun r t' h => ?_
    cases r with
    | error e => exact h.elim
    | ok fl =>
      cases fl with
      | next => exact h.elim
      | brk => exact h.elim
      | cont => exact h.elim
      | ret u =>
        obtain ⟨v, M', os, bare', un, ok', ru, q⟩ := h
        cases (show v = .bl true from q)
        cases (show u = Value.bool true from ru)
        have key : ∀ b o, b ≠ T → t₁.heap.get? b = some o → t'.heap.get? b = some o := fun b o nb e => by
          rcases on b with n | n | ⟨ob, xs, z⟩
          · exact un.keep b o e n (fun z => nomatch (show b ∈ ([] : List Addr) from z)) (fun z => nomatch z)
          · exact absurd n nb
          · obtain ⟨e1, _⟩ := ok b _ z
            obtain ⟨e2, _⟩ := ok' b _ (un.frzs b ob _ z)
            rw [e] at e1
            cases e1
            exact e2
        obtain ⟨more, mT'⟩ := un.tbls T #[] mT
        have grown : t'.heap.get? T = some { cls := .none, data := .fields (#[] ++ more) } := ok' T _ mT'
        refine ⟨rfl, ⟨fun b o e => ?_, fun b o e => ?_⟩, os, bare'⟩
        · by_cases hb : b = T
          · subst hb
            rw [oT] at e
            cases e
            exact .inr (.inl ⟨(C.tab oT).isCodeTable, rfl, #[], more, rfl, grown⟩)
          · exact .inl (key b o hb e)
        · by_cases hb : b = T
          · subst hb; exact ⟨_, grown⟩
          · exact ⟨o, key b o hb e⟩
  cases hk : K.lookup a with
  | some o =>
    have e := kin a o hk
    rw [oa] at e
    cases e
    refine main (fun b => if b = T then some (.tbl #[]) else none) (if_pos rfl) (fun b => ?_) (.inr ⟨_, us.toArray, _, hk, rfl, rfl, rfl, by rw [List.size_toArray, lu]; exact lz, by simpa using rv⟩) (fun b u z => ?_) (fun b z => ?_) fun z => absurd (if_neg aT) z
    · by_cases hb : b = T
      · exact .inr (.inl hb)
      · exact .inl (if_neg hb)
    · by_cases hb : b = T
      · subst hb
        cases (if_pos rfl).symm.trans z
        exact oT
      · cases (if_neg hb).symm.trans z
    · by_cases hb : b = T
      · exact .inr hb
      · exact absurd (if_neg hb) z
  | none =>
    let M0 : Hp := fun b => if b = a then some (.frz { cls := .type "list", data := .seq us.toArray } (.lst (zs.map V.int))) else if b = T then some (.tbl #[]) else none
    have at0 : M0 a = some (.frz { cls := .type "list", data := .seq us.toArray } (.lst (zs.map V.int))) := if_pos rfl
    have atT : M0 T = some (.tbl #[]) := (if_neg (Ne.symm aT)).trans (if_pos rfl)
    have off0 : ∀ {b : Addr}, b ≠ a → b ≠ T → M0 b = none := fun h h2 => (if_neg h).trans (if_neg h2)
    refine main M0 atT (fun b => ?_) (.inl (.inr ⟨_, at0⟩)) (fun b u z => ?_) (fun b z => ?_) fun _ => hk
    · by_cases e : b = a
      · subst e; exact .inr (.inr ⟨_, _, at0⟩)
      · by_cases e2 : b = T
        · exact .inr (.inl e2)
        · exact .inl (off0 e e2)
    · by_cases e : b = a
      · subst e
        rw [at0] at z
        cases z
        exact ⟨oa, by rw [List.length_map]; exact lz, us, _, rv, oa⟩
      · by_cases e2 : b = T
        · subst e2
          rw [atT] at z
          cases z
          exact oT
        · rw [off0 e e2] at z; cases z
    · by_cases e : b = a
      · exact .inl e
      · by_cases e2 : b = T
        · exact .inr e2
        · exact absurd (off0 e e2) z
end
section
variable {P : Program} {w : World} {K : PySem.W.Frag} {mg : Str → Option Value} {base : Heap}
/-- as fnG_of, the code object told -/
theorem fnG_ofC {x qual : Str} {st : Stmt} {f : Addr} {fd : FuncData} {N ps : List Str} {k : Nat} {sp : Sp} (Fn : Fun K x qual st f fd) (Sc : FnScope N ps (defScope st)) (len : ∀ vs H Q E, sp vs H Q E → vs.length = ps.length)
    (hb : ∀ (cdv : Value) (A : Around) (outer : List Env) (s : Shared) (H : Hp) (vs : List V) (Q : VK) (E : XK), fd.code = cdv → A.guards = some [] → Room k (A.deeper (envOfC qual (defScope st) s.heap.objs.size f cdv)) → sp vs H Q E →
      ∃ t, PSs (cxOf CX0 P w K mg base N qual (defScope st) f cdv A outer s H E).nox (defBody st) t ∧ t { nx := fun _ H' => Q .non H', rt := Q } (L2.start N vs) H) : FnG P w K mg base (k + 1) f fd ps sp := by
  obtain ⟨oc, od, kV, doc, pm, an, cdv, ct, osl, rfl, lk, hcd⟩ := Fn.ex
  refine ⟨len, fun A outer s H ar us vs Q E hg hr e0 hbd r hsp => ?_⟩
  have nus := len _ _ _ _ hsp
  have Kin : K.In s.heap := e0.mod.kin.keeps fun b o e => (e0.bs b o e).1
  have noL : s.heap.NoLimit := e0.mod.nolimit.keeps fun b o e => (e0.bs b o e).1
  refine codeAny_call_function hr.depth (Kin _ _ lk) rfl Sc.co Sc.gen rfl (PySem.W.codeRec_of Kin hcd) (hbd _ _ _ _ ?_)
  refine wpAny_newFunctionEnv_cells Sc.kind (fun ⟨n, v⟩ hy => ?_) fun env he s1 x => ?_
  · rcases Sc.par n (List.of_mem_zip hy).1 with q | q
    · exact .inl q
    · exact .inr ⟨q, PySem.W.cellsFrom_some _ _ _ (.inl q)⟩
  subst he
  refine ⟨noL.keeps x.toInCall.keep, codeAny_func ?_⟩
  obtain ⟨t, ht, hq⟩ := hb cdv A outer s H vs Q E rfl hg (hr.deeper _) hsp
  have J0 := inv_start (CX := CX0) (E := E) Sc hr.hd e0 nus r x
  refine wpAny_mono (ht.nox.run [] s1 (L2.start N vs) H _ J0 hq) (fun fl s' hs => ?_) fun e s' hs => hs
  cases fl with
  | ret u => obtain ⟨v, σ', H', J, rv, q⟩ := hs; exact ⟨v, H', J.os, J.bare, J.base, J.hok, rv, q⟩
  | next => obtain ⟨σ', H', J, q⟩ := hs; exact ⟨V.non, H', J.os, J.bare, J.base, J.hok, rfl, q⟩
  | brk => obtain ⟨_, _, _, q⟩ := hs; exact q.elim
  | cont => obtain ⟨_, _, _, q⟩ := hs; exact q.elim
end
/-- a row of a law that holds lambdas -/
theorem walk_GT {l : PySem.W.OpenLaw} {n k : Nat} {q : Program} {loose : List Str} {XP : (Str → Option Value) → Heap → Prop} {YP : World → Heap → Prop} {d : DefRec} {Kf : Params → PySem.W.Frag} {sp : PySem.W.Frag → Addr → Sp} {x : Str} (hn : l.most = some n) (hn2 : n ≤ sizeLine) (hdf : d.params.defaults = [])
    (hr : Room k callerA) (hrec : ((recsOf q).any fun e => e.name == d.name) = true) (hY : ∀ (w : World) (h : Heap), YP w h → (Kf w.params).In h)
    (Fp : ∀ (w : World) (mg : Str → Option Value) (fa : Addr) (h : Heap), (Kf w.params).In h → h.Ns mainGlobals mg → mg d.name = some (.ref fa) → OwnTab (Kf w.params) fa h →
      ∃ (fd : FuncData) (c T : Addr), (∀ (s : Shared) (u : Value), BindsTo s fd ⟨[u], []⟩ [(x, u)]) ∧ h.get? T = some { cls := .none, data := .fields #[] } ∧ (Kf w.params).lookup T = none ∧ PySem.W.CodeHd h c T ∧
        ∀ base : Heap, (Kf w.params).In base → base.Ns mainGlobals mg → TabB base mg c T → FnG l.prog w (Kf w.params) mg base k fa fd [x] (sp (Kf w.params) T))
    (ask : ∀ (K : PySem.W.Frag) (H : Hp) (a T : Addr) (ns : List Int), ns.length ≤ n → H T = some (.tbl #[]) → (∀ b, H b = none ∨ b = T ∨ ∃ o xs, H b = some (.frz o (.lst xs))) → SqL K H a (ns.map V.int) → sp K T [.ref a] H (fun v _ => v = .bl true) fun _ _ _ => False) : PySem.W.WalkO q loose XP YP l.row.toRowW d [] (fun f vs => PySem.call f vs) := by
  refine Att.attach_callB hn hdf fun w s₀ s₁ mg mb fa o pm cd doc a vs ns G Y ho hd hcd hmg hobj hints hlen _ hgn => ?_
  have KX := hY w _ Y
  have own : OwnTab (Kf w.params) fa s₁.heap := fun c P o1 fd1 e dd vs1 sl k1 k2 k3 k4 k5 => by
    obtain ⟨dL, hm, hn1⟩ := List.any_eq_true.mp hrec
    have hn2 : dL.name = d.name := beq_iff_eq.mp hn1
    obtain ⟨a', o', fd', c', P', h1, h2, h3, h4, h5, h6⟩ := G.T.tab dL hm
    rw [hn2, hmg] at h1
    cases h1
    have g1 := KX _ _ k1
    rw [g1] at h2
    cases h2
    rw [k2] at h3
    cases h3
    rw [k3] at h4
    cases h4
    obtain ⟨⟨oc, vc, e1, _, e3, e4⟩, hP⟩ := h6
    have g2 := KX _ _ k4
    rw [g2] at e1
    cases e1
    cases e3
    rw [k5] at e4
    cases e4
    exact hP
  obtain ⟨fd, c, T, hb, oT, nT, C, hF⟩ := Fp w mg fa _ KX G.T.g hmg own
  exact law_runT KX G.T.g G.T.b G.T.builtins G.T.nolimit hgn hobj hints (Nat.le_trans hlen hn2) hr oT nT C G.T.bmain hF hb fun H h1 h2 h3 => ask _ H a T ns hlen h1 h2 h3
end DL
set_option Elab.async false
set_option linter.all false
set_option maxRecDepth 100000
set_option autoImplicit false
namespace K1
open PySem PySem.Spec PyProof.Rows L2 DL
def topS (i : Nat) : Stmt := PySem.Challenge.pw_viewroots_k00_whole_names_and_relations.main.body.getD i (.Pass ⟨0, 0, 0, 0⟩)
def k_KEPT : List D := [.str "ask", .str "base", .str "book", .str "come", .str "go", .str "head", .str "judge", .str "look", .str "no", .str "norule", .str "noview", .str "or", .str "patch", .str "plan", .str "question", .str "relation", .str "replica", .str "row", .str "rule", .str "same", .str "store", .str "to", .str "undo", .str "view", .str "when", .str "yes"]
structure Gm (mg : Str → Option Value) (K : PySem.W.Frag) : Prop where
  z_len : mg "len" = none
  z_all : mg "all" = none
  z_any : mg "any" = none
  z_isinstance : mg "isinstance" = none
  z_range : mg "range" = none
  z_enumerate : mg "enumerate" = none
  z_tuple : mg "tuple" = none
  z_list : mg "list" = none
  z_dict : mg "dict" = none
  z_int : mg "int" = none
  z_str : mg "str" = none
  z_bool : mg "bool" = none
  z_sorted : mg "sorted" = none
  z_repr : mg "repr" = none
  z_abs : mg "abs" = none
  z_min : mg "min" = none
  z_max : mg "max" = none
  z_zip : mg "zip" = none
  c_KEPT : ∃ a, mg "KEPT" = some (.ref a) ∧ Dp K (fun _ => none) (.ref a) (D.tup false k_KEPT).py
  c_LETTERS : ∃ t, mg "LETTERS" = some (.str "abcdefghijklmnopqrstuvwxyz" t)
  c_MOST_LETTERS : ∃ t, mg "MOST_LETTERS" = some (.int 8 t)
  c_MOST_RELATIONS : ∃ t, mg "MOST_RELATIONS" = some (.int 5 t)
  c_MOST_PLACES : ∃ t, mg "MOST_PLACES" = some (.int 3 t)
  c_MOST_NUMBER : ∃ t, mg "MOST_NUMBER" = some (.int 999 t)
def is_NoRelations : Nat → Option Bool := fun n => if n < 1 then some (n == 0) else none
structure Gx (mg : Str → Option Value) (Ω : Om) (CS : Addr) : Prop where
  v : mg "ViewError" = some (.ref CS)
  ex : ExOm Ω CS
  x_NoRelations : ∃ C, Xn mg Ω.K CS "NoRelations" C ∧ Ω.xc 0 = .ref C
  i_NoRelations : ∃ C, mg "NoRelations" = some (.ref C) ∧ IsX Ω C is_NoRelations
/-! is_name -/
def f_is_name : D → M D := fun a_thing => Fl.fin (Fl.seq ((((((pure a_thing) >>= dIsi .str) >>= asB) >>= fun b => pure (!b)) >>= fun x => if x = true then pure true else ((((dChain dLe dLe (pure (.int 1)) ((opC (pure a_thing) (pure [])) >>= ar1 dLen) (pure (.int 8))) >>= asB) >>= fun b => pure (!b)) >>= fun x => if x = true then pure true else (((pure a_thing) >>= fun d => dIn d (.tup false k_KEPT)) >>= asB))) >>= fun b => if b = true then ((pure (.bl false)) >>= fun d => pure (.rt d)) else (pure (.nx ()))) fun (b1 : Unit) => ((opC (((pure a_thing) >>= dIter) >>= lcD (fun v2_sign => pure true) (fun v2_sign => op2 dIn (pure v2_sign) (pure (.str "abcdefghijklmnopqrstuvwxyz")))) (pure [])) >>= ar1 dAll) >>= fun d => pure (.rt d))
theorem sc_is_name : FnScope ["thing", "sign"] ["thing"] (defScope (topS 15)) := ⟨rfl, rfl, rfl, by decide +kernel, rfl, by decide +kernel, by decide +kernel⟩
set_option maxHeartbeats 4000000 in
theorem ok_is_name {P : Program} {w : World} {mg : Str → Option Value} {base : Heap} {Ω : Om} (gm : Gm mg Ω.K) {f : Addr} {fd : FuncData} (Fn : Fun Ω.K "is_name" "is_name" (topS 15) f fd) (hm : mg "is_name" = some (.ref f)) : Cd P w mg base Ω 1 "is_name" ["thing"] (ar1 f_is_name) :=
  have scF := sc_is_name
  ⟨⟨f, fd, fnD (k := 0) (n := 1) Fn sc_is_name rfl fun cdv A outer s H E G ds hr hl => match ds, hl with
    | [a_thing], _ => ⟨_, (pssC (β := Unit) (en := fun b1 => [.dat a_thing, .no]) (psIf (pwOr (ptNot (ptv (pdIsi .str (pdv 0) gm.z_isinstance gm.z_str))) (pwOr (ptNot (ptChain (dop_le rfl hr.units) (dop_le rfl hr.units) pdi (pdB (dc_len rfl) gm.z_len (by decide +kernel) (paC (pdv 0) paN)) (pdgi gm.c_MOST_LETTERS))) (pwOr1 (ptInK (neg := false) rfl (hu65 hr) (pdv 0) (by rfl) gm.c_KEPT.choose_spec.1 gm.c_KEPT.choose_spec.2)))).pt (pssRet pdb) (pssN (b := ()) (Wk.k (Wk.k Wk.n)).conv)) fun b1 => (pssRet (pdB (dc_all rfl) gm.z_all (by decide +kernel) (paC (pdLc1 (i := 1) scF.nd (blkOk_by (by rfl)) (piD (pdv 0)) (fun s H C cl fp => pgN (i := 1) scF.nd) (fun s H C cl fp v2_sign => ptsN) (fun s H C cl fp v2_sign => (pdCmp (dop_in rfl (hu65 hr)) (pdv 1) (pdgs gm.c_LETTERS) (by rfl)))) paN)))), rfl⟩, hm, Fn.kp, Fn.binds (ps := ["thing"]) fun _ _ _ _ _ _ us hl => match us, hl with | [_], _ => rfl, fun_lk Fn⟩, arOk1⟩
/-! is_number -/
def f_is_number : D → M D := fun a_thing => Fl.fin ((dAnd ((pure a_thing) >>= dIsi .int) (dAnd (op1 dNot ((pure a_thing) >>= dIsi .bool)) (dChain dLe dLe (pure (.int 0)) (pure a_thing) (pure (.int 999))))) >>= fun d => pure (.rt d))
theorem sc_is_number : FnScope ["thing"] ["thing"] (defScope (topS 16)) := ⟨rfl, rfl, rfl, by decide +kernel, rfl, by decide +kernel, by decide +kernel⟩
set_option maxHeartbeats 4000000 in
theorem ok_is_number {P : Program} {w : World} {mg : Str → Option Value} {base : Heap} {Ω : Om} (gm : Gm mg Ω.K) {f : Addr} {fd : FuncData} (Fn : Fun Ω.K "is_number" "is_number" (topS 16) f fd) (hm : mg "is_number" = some (.ref f)) : Cd P w mg base Ω 1 "is_number" ["thing"] (ar1 f_is_number) :=
  have scF := sc_is_number
  ⟨⟨f, fd, fnD (k := 0) (n := 1) Fn sc_is_number rfl fun cdv A outer s H E G ds hr hl => match ds, hl with
    | [a_thing], _ => ⟨_, (pssRet (pdAnd (pdIsi .int (pdv 0) gm.z_isinstance gm.z_int) (pdAnd (pdNot (pdIsi .bool (pdv 0) gm.z_isinstance gm.z_bool)) (pdOne (pdChain (dop_le rfl hr.units) (dop_le rfl hr.units) pdi (pdv 0) (pdgi gm.c_MOST_NUMBER)))))), rfl⟩, hm, Fn.kp, Fn.binds (ps := ["thing"]) fun _ _ _ _ _ _ us hl => match us, hl with | [_], _ => rfl, fun_lk Fn⟩, arOk1⟩
/-! is_term -/
def f_is_term : D → M D := fun a_thing => Fl.fin ((dOr ((opC (pure a_thing) (pure [])) >>= fun ds => noErr ((ar1 f_is_name) ds)) ((opC (pure a_thing) (pure [])) >>= fun ds => noErr ((ar1 f_is_number) ds))) >>= fun d => pure (.rt d))
theorem sc_is_term : FnScope ["thing"] ["thing"] (defScope (topS 17)) := ⟨rfl, rfl, rfl, by decide +kernel, rfl, by decide +kernel, by decide +kernel⟩
set_option maxHeartbeats 4000000 in
theorem ok_is_term {P : Program} {w : World} {mg : Str → Option Value} {base : Heap} {Ω : Om} (gm : Gm mg Ω.K) {f : Addr} {fd : FuncData} (Fn : Fun Ω.K "is_term" "is_term" (topS 17) f fd) (hm : mg "is_term" = some (.ref f)) (c_is_name : Cd P w mg base Ω 1 "is_name" ["thing"] (ar1 f_is_name)) (c_is_number : Cd P w mg base Ω 1 "is_number" ["thing"] (ar1 f_is_number)) : Cd P w mg base Ω 2 "is_term" ["thing"] (ar1 f_is_term) :=
  have scF := sc_is_term
  ⟨⟨f, fd, fnD (k := 1) (n := 1) Fn sc_is_term rfl fun cdv A outer s H E G ds hr hl => match ds, hl with
    | [a_thing], _ => ⟨_, (pssRet (pdOr (pdC rfl c_is_name hr (by decide) (paC (pdv 0) paN)) (pdOne (pdC rfl c_is_number hr (by decide) (paC (pdv 0) paN))))), rfl⟩, hm, Fn.kp, Fn.binds (ps := ["thing"]) fun _ _ _ _ _ _ us hl => match us, hl with | [_], _ => rfl, fun_lk Fn⟩, arOk1⟩
/-! are_rising -/
def f_are_rising : D → M D := fun a_things => Fl.fin (((opC (((opC (pure a_things) (opC (opSl (pure a_things) ((pure (.int 1)) >>= asI) (pure none)) (pure []))) >>= dZip) >>= lcD (un2 (fun v1_one v2_other => pure true)) (un2 (fun v1_one v2_other => op2 dLt (pure v1_one) (pure v2_other)))) (pure [])) >>= ar1 dAll) >>= fun d => pure (.rt d))
theorem sc_are_rising : FnScope ["things", "one", "other"] ["things"] (defScope (topS 18)) := ⟨rfl, rfl, rfl, by decide +kernel, rfl, by decide +kernel, by decide +kernel⟩
set_option maxHeartbeats 4000000 in
theorem ok_are_rising {P : Program} {w : World} {mg : Str → Option Value} {base : Heap} {Ω : Om} (gm : Gm mg Ω.K) {f : Addr} {fd : FuncData} (Fn : Fun Ω.K "are_rising" "are_rising" (topS 18) f fd) (hm : mg "are_rising" = some (.ref f)) : Cd P w mg base Ω 1 "are_rising" ["things"] (ar1 f_are_rising) :=
  have scF := sc_are_rising
  ⟨⟨f, fd, fnD (k := 0) (n := 1) Fn sc_are_rising rfl fun cdv A outer s H E G ds hr hl => match ds, hl with
    | [a_things], _ => ⟨_, (pssRet (pdB (dc_all rfl) gm.z_all (by decide +kernel) (paC (pdLc2 (i := 1) (j := 2) scF.nd (blkOk_by (by rfl)) (piZip gm.z_zip (paC (pdv 0) (paC (pdSl (pdv 0) (poS pdi) poN) paN))) (fun s H C cl fp => pg_tup rfl (pgs_cons (pgN (i := 1) scF.nd) (pgs_cons (pgN (i := 2) scF.nd) pgs_nil))) (fun s H C cl fp v1_one v2_other => ptsN) (fun s H C cl fp v1_one v2_other => (pdCmp (dop_lt rfl hr.units) (pdv 1) (pdv 2) (by rfl)))) paN))), rfl⟩, hm, Fn.kp, Fn.binds (ps := ["things"]) fun _ _ _ _ _ _ us hl => match us, hl with | [_], _ => rfl, fun_lk Fn⟩, arOk1⟩
/-! is_pair -/
def f_is_pair : D → M D := fun a_thing => Fl.fin ((dAnd ((pure a_thing) >>= dIsi .tuple) (dAnd (op2 dEq ((opC (pure a_thing) (pure [])) >>= ar1 dLen) (pure (.int 2))) ((opC (op2 dIx (pure a_thing) (pure (.int 0))) (pure [])) >>= fun ds => noErr ((ar1 f_is_name) ds)))) >>= fun d => pure (.rt d))
theorem sc_is_pair : FnScope ["thing"] ["thing"] (defScope (topS 19)) := ⟨rfl, rfl, rfl, by decide +kernel, rfl, by decide +kernel, by decide +kernel⟩
set_option maxHeartbeats 4000000 in
theorem ok_is_pair {P : Program} {w : World} {mg : Str → Option Value} {base : Heap} {Ω : Om} (gm : Gm mg Ω.K) {f : Addr} {fd : FuncData} (Fn : Fun Ω.K "is_pair" "is_pair" (topS 19) f fd) (hm : mg "is_pair" = some (.ref f)) (c_is_name : Cd P w mg base Ω 1 "is_name" ["thing"] (ar1 f_is_name)) : Cd P w mg base Ω 2 "is_pair" ["thing"] (ar1 f_is_pair) :=
  have scF := sc_is_pair
  ⟨⟨f, fd, fnD (k := 1) (n := 1) Fn sc_is_pair rfl fun cdv A outer s H E G ds hr hl => match ds, hl with
    | [a_thing], _ => ⟨_, (pssRet (pdAnd (pdIsi .tuple (pdv 0) gm.z_isinstance gm.z_tuple) (pdAnd (pdCmp (dop_eq rfl hr.units) (pdB (dc_len rfl) gm.z_len (by decide +kernel) (paC (pdv 0) paN)) pdi (by rfl)) (pdOne (pdC rfl c_is_name hr (by decide) (paC (pdIx (pdv 0) pdi hr.units) paN)))))), rfl⟩, hm, Fn.kp, Fn.binds (ps := ["thing"]) fun _ _ _ _ _ _ us hl => match us, hl with | [_], _ => rfl, fun_lk Fn⟩, arOk1⟩
/-! are_named -/
def f_are_named : D → D → M D := fun a_thing a_most => Fl.fin (Fl.seq ((((((pure a_thing) >>= dIsi .tuple) >>= asB) >>= fun b => pure (!b)) >>= fun x => if x = true then pure true else (((op2 dGt ((opC (pure a_thing) (pure [])) >>= ar1 dLen) (pure a_most)) >>= asB) >>= fun x => if x = true then pure true else ((((opC (((pure a_thing) >>= dIter) >>= lcD (fun v1_one => pure true) (fun v1_one => (opC (pure v1_one) (pure [])) >>= fun ds => noErr ((ar1 f_is_pair) ds))) (pure [])) >>= ar1 dAll) >>= asB) >>= fun b => pure (!b)))) >>= fun b => if b = true then ((pure (.bl false)) >>= fun d => pure (.rt d)) else (pure (.nx ()))) fun (b2 : Unit) => ((opC (((pure a_thing) >>= dIter) >>= lcD (un2 (fun v3_name v4_own => pure true)) (un2 (fun v3_name v4_own => pure v3_name))) (pure [])) >>= fun ds => noErr ((ar1 f_are_rising) ds)) >>= fun d => pure (.rt d))
theorem sc_are_named : FnScope ["thing", "most", "name", "own", "one"] ["thing", "most"] (defScope (topS 20)) := ⟨rfl, rfl, rfl, by decide +kernel, rfl, by decide +kernel, by decide +kernel⟩
set_option maxHeartbeats 4000000 in
theorem ok_are_named {P : Program} {w : World} {mg : Str → Option Value} {base : Heap} {Ω : Om} (gm : Gm mg Ω.K) {f : Addr} {fd : FuncData} (Fn : Fun Ω.K "are_named" "are_named" (topS 20) f fd) (hm : mg "are_named" = some (.ref f)) (c_is_pair : Cd P w mg base Ω 2 "is_pair" ["thing"] (ar1 f_is_pair)) (c_are_rising : Cd P w mg base Ω 1 "are_rising" ["things"] (ar1 f_are_rising)) : Cd P w mg base Ω 3 "are_named" ["thing", "most"] (ar2 f_are_named) :=
  have scF := sc_are_named
  ⟨⟨f, fd, fnD (k := 2) (n := 2) Fn sc_are_named rfl fun cdv A outer s H E G ds hr hl => match ds, hl with
    | [a_thing, a_most], _ => ⟨_, (pssC (β := Unit) (en := fun b2 => [.dat a_thing, .dat a_most, .no, .no, .no]) (psIf (pwOr (ptNot (ptv (pdIsi .tuple (pdv 0) gm.z_isinstance gm.z_tuple))) (pwOr (ptCmp (dop_gt rfl hr.units) (pdB (dc_len rfl) gm.z_len (by decide +kernel) (paC (pdv 0) paN)) (pdv 1) (by rfl)) (pwOr1 (ptNot (ptv (pdB (dc_all rfl) gm.z_all (by decide +kernel) (paC (pdLc1 (i := 4) scF.nd (blkOk_by (by rfl)) (piD (pdv 0)) (fun s H C cl fp => pgN (i := 4) scF.nd) (fun s H C cl fp v1_one => ptsN) (fun s H C cl fp v1_one => (pdC rfl c_is_pair hr (by decide) (paC (pdv 4) paN)))) paN))))))).pt (pssRet pdb) (pssN (b := ()) (Wk.k (Wk.k (Wk.k (Wk.k (Wk.k Wk.n))))).conv)) fun b2 => (pssRet (pdC rfl c_are_rising hr (by decide) (paC (pdLc2 (i := 2) (j := 3) scF.nd (blkOk_by (by rfl)) (piD (pdv 0)) (fun s H C cl fp => pg_tup rfl (pgs_cons (pgN (i := 2) scF.nd) (pgs_cons (pgN (i := 3) scF.nd) pgs_nil))) (fun s H C cl fp v3_name v4_own => ptsN) (fun s H C cl fp v3_name v4_own => (pdv 2))) paN)))), rfl⟩, hm, Fn.kp, Fn.binds (ps := ["thing", "most"]) fun _ _ _ _ _ _ us hl => match us, hl with | [_, _], _ => rfl, fun_lk Fn⟩, arOk2⟩
/-! is_relations -/
def f_is_relations : D → M D := fun a_thing => Fl.fin (Fl.seq ((((((opC (pure a_thing) (opC (pure (.int 5)) (pure []))) >>= fun ds => noErr ((ar2 f_are_named) ds)) >>= asB) >>= fun b => pure (!b)) >>= fun x => if x = true then pure true else ((op2 dEq (pure a_thing) ((pure []) >>= mkTup)) >>= asB)) >>= fun b => if b = true then ((pure (.bl false)) >>= fun d => pure (.rt d)) else (pure (.nx ()))) fun (b1 : Unit) => ((opC (((pure a_thing) >>= dIter) >>= lcD (un2 (fun v2_name v3_places => pure true)) (un2 (fun v2_name v3_places => dAnd ((opC (pure v3_places) (pure [])) >>= fun ds => noErr ((ar1 f_is_number) ds)) (dChain dLe dLe (pure (.int 1)) (pure v3_places) (pure (.int 3)))))) (pure [])) >>= ar1 dAll) >>= fun d => pure (.rt d))
theorem sc_is_relations : FnScope ["thing", "name", "places"] ["thing"] (defScope (topS 21)) := ⟨rfl, rfl, rfl, by decide +kernel, rfl, by decide +kernel, by decide +kernel⟩
set_option maxHeartbeats 4000000 in
theorem ok_is_relations {P : Program} {w : World} {mg : Str → Option Value} {base : Heap} {Ω : Om} (gm : Gm mg Ω.K) {f : Addr} {fd : FuncData} (Fn : Fun Ω.K "is_relations" "is_relations" (topS 21) f fd) (hm : mg "is_relations" = some (.ref f)) (c_are_named : Cd P w mg base Ω 3 "are_named" ["thing", "most"] (ar2 f_are_named)) (c_is_number : Cd P w mg base Ω 1 "is_number" ["thing"] (ar1 f_is_number)) : Cd P w mg base Ω 4 "is_relations" ["thing"] (ar1 f_is_relations) :=
  have scF := sc_is_relations
  ⟨⟨f, fd, fnD (k := 3) (n := 1) Fn sc_is_relations rfl fun cdv A outer s H E G ds hr hl => match ds, hl with
    | [a_thing], _ => ⟨_, (pssC (β := Unit) (en := fun b1 => [.dat a_thing, .no, .no]) (psIf (pwOr (ptNot (ptv (pdC rfl c_are_named hr (by decide) (paC (pdv 0) (paC (pdgi gm.c_MOST_RELATIONS) paN))))) (pwOr1 (ptCmp (dop_eq rfl hr.units) (pdv 0) (pdTup paN) (by rfl)))).pt (pssRet pdb) (pssN (b := ()) (Wk.k (Wk.k (Wk.k Wk.n))).conv)) fun b1 => (pssRet (pdB (dc_all rfl) gm.z_all (by decide +kernel) (paC (pdLc2 (i := 1) (j := 2) scF.nd (blkOk_by (by rfl)) (piD (pdv 0)) (fun s H C cl fp => pg_tup rfl (pgs_cons (pgN (i := 1) scF.nd) (pgs_cons (pgN (i := 2) scF.nd) pgs_nil))) (fun s H C cl fp v2_name v3_places => ptsN) (fun s H C cl fp v2_name v3_places => (pdAnd (pdC rfl c_is_number hr (by decide) (paC (pdv 2) paN)) (pdOne (pdChain (dop_le rfl hr.units) (dop_le rfl hr.units) pdi (pdv 2) (pdgi gm.c_MOST_PLACES)))))) paN)))), rfl⟩, hm, Fn.kp, Fn.binds (ps := ["thing"]) fun _ _ _ _ _ _ us hl => match us, hl with | [_], _ => rfl, fun_lk Fn⟩, arOk1⟩
/-! need_relations -/
def f_need_relations : D → M D := fun a_relations => Fl.fin (Fl.seq (((((opC (pure a_relations) (pure [])) >>= fun ds => noErr ((ar1 f_is_relations) ds)) >>= asB) >>= fun b => pure (!b)) >>= fun b => if b = true then (M.raise ⟨0, []⟩) else (pure (.nx ()))) fun (b1 : Unit) => pure (.nx ()))
theorem sc_need_relations : FnScope ["relations"] ["relations"] (defScope (topS 22)) := ⟨rfl, rfl, rfl, by decide +kernel, rfl, by decide +kernel, by decide +kernel⟩
set_option maxHeartbeats 4000000 in
theorem ok_need_relations {P : Program} {w : World} {mg : Str → Option Value} {base : Heap} {Ω : Om} (gm : Gm mg Ω.K) {CS : Addr} (gx : Gx mg Ω CS) {f : Addr} {fd : FuncData} (Fn : Fun Ω.K "need_relations" "need_relations" (topS 22) f fd) (hm : mg "need_relations" = some (.ref f)) (c_is_relations : Cd P w mg base Ω 4 "is_relations" ["thing"] (ar1 f_is_relations)) : CdE P w mg base Ω 5 "need_relations" ["relations"] (ar1 f_need_relations) :=
  have scF := sc_need_relations
  ⟨⟨f, fd, fnDE (k := 4) (n := 1) Fn sc_need_relations rfl fun cdv A outer s H E G ds hr hl => match ds, hl with
    | [a_relations], _ => ⟨_, (pssC (β := Unit) (en := fun b1 => [.dat a_relations]) (psIf (ptNot (ptv (pdC rfl c_is_relations hr (by decide) (paC (pdv 0) paN)))) (pssRaise (n := 0) rfl gx.x_NoRelations.choose_spec.1 gx.x_NoRelations.choose_spec.2 takes_def) (pssN (b := ()) (Wk.k Wk.n).conv)) fun b1 => (pssN (b := ()) (Conv.all rfl))), rfl⟩, hm, Fn.kp, Fn.binds (ps := ["relations"]) fun _ _ _ _ _ _ us hl => match us, hl with | [_], _ => rfl, fun_lk Fn⟩, arOk1⟩
/-! term_key -/
def f_term_key : D → M D := fun a_term => Fl.fin (Fl.seq ((((pure a_term) >>= dIsi .tuple) >>= asB) >>= fun b => if b = true then (((opC (pure (.int 2)) (opC (op2 dIx (pure a_term) (pure (.int 1))) (opC (pure (.str "")) (pure [])))) >>= mkTup) >>= fun d => pure (.rt d)) else (pure (.nx ()))) fun (b1 : Unit) => ((((pure a_term) >>= dIsi .str) >>= asB) >>= fun x => if x = true then ((opC (pure (.int 1)) (opC (pure (.int 0)) (opC (pure a_term) (pure [])))) >>= mkTup) else ((opC (pure (.int 0)) (opC (pure a_term) (opC (pure (.str "")) (pure [])))) >>= mkTup)) >>= fun d => pure (.rt d))
theorem sc_term_key : FnScope ["term"] ["term"] (defScope (topS 23)) := ⟨rfl, rfl, rfl, by decide +kernel, rfl, by decide +kernel, by decide +kernel⟩
set_option maxHeartbeats 4000000 in
theorem ok_term_key {P : Program} {w : World} {mg : Str → Option Value} {base : Heap} {Ω : Om} (gm : Gm mg Ω.K) {f : Addr} {fd : FuncData} (Fn : Fun Ω.K "term_key" "term_key" (topS 23) f fd) (hm : mg "term_key" = some (.ref f)) : Cd P w mg base Ω 1 "term_key" ["term"] (ar1 f_term_key) :=
  have scF := sc_term_key
  ⟨⟨f, fd, fnD (k := 0) (n := 1) Fn sc_term_key rfl fun cdv A outer s H E G ds hr hl => match ds, hl with
    | [a_term], _ => ⟨_, (pssC (β := Unit) (en := fun b1 => [.dat a_term]) (psIf (ptv (pdIsi .tuple (pdv 0) gm.z_isinstance gm.z_tuple)) (pssRet (pdTup (paC pdi (paC (pdIx (pdv 0) pdi hr.units) (paC pds paN))))) (pssN (b := ()) (Wk.k Wk.n).conv)) fun b1 => (pssRet (pdIf (ptv (pdIsi .str (pdv 0) gm.z_isinstance gm.z_str)) (pdTup (paC pdi (paC pdi (paC (pdv 0) paN)))) (pdTup (paC pdi (paC (pdv 0) (paC pds paN))))))), rfl⟩, hm, Fn.kp, Fn.binds (ps := ["term"]) fun _ _ _ _ _ _ us hl => match us, hl with | [_], _ => rfl, fun_lk Fn⟩, arOk1⟩
/-! in_sequence -/
def f_in_sequence : D → M D := fun a_terms => Fl.fin ((pure []) >>= fun v1_found => gd (v1_found.length ≤ lim) (Fl.seq ((((opC (pure a_terms) (pure [])) >>= ar1 (dSortKey (ar1 f_term_key))) >>= dIter) >>= fun ds => loopD (fun (b2 : List D) v3_term => (((op2 dEq (pure (.lst b2)) ((pure []) >>= mkLst)) >>= asB) >>= fun x => if x = true then pure true else ((op2 dNe (op2 dIx (pure (.lst b2)) (op1 dNeg (pure (.int 1)))) (pure v3_term)) >>= asB)) >>= fun b => if b = true then ((pure v3_term) >>= fun v4_d => gd (b2.length < lim) (pure (.nx (b2 ++ [v4_d])))) else (pure (.nx b2))) ds v1_found) fun (b2 : List D) => (pure (.lst b2)) >>= fun d => pure (.rt d)))
theorem sc_in_sequence : FnScope ["terms", "found", "term"] ["terms"] (defScope (topS 24)) := ⟨rfl, rfl, rfl, by decide +kernel, rfl, by decide +kernel, by decide +kernel⟩
set_option maxHeartbeats 4000000 in
theorem ok_in_sequence {P : Program} {w : World} {mg : Str → Option Value} {base : Heap} {Ω : Om} (gm : Gm mg Ω.K) {f : Addr} {fd : FuncData} (Fn : Fun Ω.K "in_sequence" "in_sequence" (topS 24) f fd) (hm : mg "in_sequence" = some (.ref f)) (c_term_key : Cd P w mg base Ω 1 "term_key" ["term"] (ar1 f_term_key)) : Cd P w mg base Ω 4 "in_sequence" ["terms"] (ar1 f_in_sequence) :=
  have scF := sc_in_sequence
  ⟨⟨f, fd, fnD (k := 3) (n := 1) Fn sc_in_sequence rfl fun cdv A outer s H E G ds hr hl => match ds, hl with
    | [a_terms], _ => ⟨_, (pssOwnL (i := 1) scF.nd paN fun v1_found => (pssC (β := List D) (en := fun b2 => [.dat a_terms, .own b2, .no]) (psFor1 (β := List D) (enb := fun b2 => [.dat a_terms, .own b2, .no]) (b0 := v1_found) (i := 2) PassesOwn.never scF.nd (piD (pdSortKey rfl c_term_key rfl hr (by decide) (pdv 0) gm.z_sorted)) (fun b2 v3_term => (pssOne (psIf (PTconv (Conv.freeze 1 rfl rfl) (pwOr (ptCmp (dop_eq rfl hr.units) (pdv 1) (pdLst paN) (by rfl)) (pwOr1 (ptCmp (dop_ne rfl hr.units) (pdIx (pdv 1) (pdNeg pdi) hr.units) (pdv 2) (by rfl)))).pt) (pssApp (i := 1) rfl (pdv 2) fun v4_d => (pssN (b := (b2 ++ [v4_d])) (Wk.k (Wk.k (Wk.d Wk.n))).conv)) (pssN (b := b2) (Wk.k (Wk.k (Wk.d Wk.n))).conv)))) (Wk.k (Wk.k (Wk.k Wk.n))).conv) fun b2 => (PSsconv (Conv.freeze 1 rfl rfl) (pssRet (pdv 1))))), rfl⟩, hm, Fn.kp, Fn.binds (ps := ["terms"]) fun _ _ _ _ _ _ us hl => match us, hl with | [_], _ => rfl, fun_lk Fn⟩, arOk1⟩
/-! is_rule -/
def f_is_rule : D → D → M D := fun a_relations a_thing => Fl.fin (((opC (pure a_relations) (pure [])) >>= fun ds => (ar1 f_need_relations) ds) >>= fun _ => M.stuck)
theorem sc_is_rule : FnScope ["relations", "thing"] ["relations", "thing"] (defScope (topS 41)) := ⟨rfl, rfl, rfl, by decide +kernel, rfl, by decide +kernel, by decide +kernel⟩
set_option maxHeartbeats 4000000 in
theorem ok_is_rule {P : Program} {w : World} {mg : Str → Option Value} {base : Heap} {Ω : Om} (gm : Gm mg Ω.K) {f : Addr} {fd : FuncData} (Fn : Fun Ω.K "is_rule" "is_rule" (topS 41) f fd) (hm : mg "is_rule" = some (.ref f)) (c_need_relations : CdE P w mg base Ω 5 "need_relations" ["relations"] (ar1 f_need_relations)) : CdE P w mg base Ω 6 "is_rule" ["relations", "thing"] (ar2 f_is_rule) :=
  have scF := sc_is_rule
  ⟨⟨f, fd, fnDE (k := 5) (n := 2) Fn sc_is_rule rfl fun cdv A outer s H E G ds hr hl => match ds, hl with
    | [a_relations, a_thing], _ => ⟨_, (pssExp (pdCE rfl takes_def c_need_relations hr (by decide) (paC (pdv 0) paN)) fun _ => pssStuck), rfl⟩, hm, Fn.kp, Fn.binds (ps := ["relations", "thing"]) fun _ _ _ _ _ _ us hl => match us, hl with | [_, _], _ => rfl, fun_lk Fn⟩, arOk2⟩
/-! calm -/
def f_calm : D → D → M D := fun a_relations a_rules => Fl.fin (((opC (pure a_relations) (pure [])) >>= fun ds => (ar1 f_need_relations) ds) >>= fun _ => M.stuck)
theorem sc_calm : FnScope ["relations", "rules"] ["relations", "rules"] (defScope (topS 53)) := ⟨rfl, rfl, rfl, by decide +kernel, rfl, by decide +kernel, by decide +kernel⟩
set_option maxHeartbeats 4000000 in
theorem ok_calm {P : Program} {w : World} {mg : Str → Option Value} {base : Heap} {Ω : Om} (gm : Gm mg Ω.K) {f : Addr} {fd : FuncData} (Fn : Fun Ω.K "calm" "calm" (topS 53) f fd) (hm : mg "calm" = some (.ref f)) (c_need_relations : CdE P w mg base Ω 5 "need_relations" ["relations"] (ar1 f_need_relations)) : CdE P w mg base Ω 6 "calm" ["relations", "rules"] (ar2 f_calm) :=
  have scF := sc_calm
  ⟨⟨f, fd, fnDE (k := 5) (n := 2) Fn sc_calm rfl fun cdv A outer s H E G ds hr hl => match ds, hl with
    | [a_relations, a_rules], _ => ⟨_, (pssExp (pdCE rfl takes_def c_need_relations hr (by decide) (paC (pdv 0) paN)) fun _ => pssStuck), rfl⟩, hm, Fn.kp, Fn.binds (ps := ["relations", "rules"]) fun _ _ _ _ _ _ us hl => match us, hl with | [_, _], _ => rfl, fun_lk Fn⟩, arOk2⟩
/-! is_calm_paper -/
def f_is_calm_paper : D → D → D → M D := fun a_relations a_rules a_thing => Fl.fin (((opC (pure a_relations) (pure [])) >>= fun ds => (ar1 f_need_relations) ds) >>= fun _ => M.stuck)
theorem sc_is_calm_paper : FnScope ["relations", "rules", "thing", "steps"] ["relations", "rules", "thing"] (defScope (topS 56)) := ⟨rfl, rfl, rfl, by decide +kernel, rfl, by decide +kernel, by decide +kernel⟩
set_option maxHeartbeats 4000000 in
theorem ok_is_calm_paper {P : Program} {w : World} {mg : Str → Option Value} {base : Heap} {Ω : Om} (gm : Gm mg Ω.K) {f : Addr} {fd : FuncData} (Fn : Fun Ω.K "is_calm_paper" "is_calm_paper" (topS 56) f fd) (hm : mg "is_calm_paper" = some (.ref f)) (c_need_relations : CdE P w mg base Ω 5 "need_relations" ["relations"] (ar1 f_need_relations)) : CdE P w mg base Ω 6 "is_calm_paper" ["relations", "rules", "thing"] (ar3 f_is_calm_paper) :=
  have scF := sc_is_calm_paper
  ⟨⟨f, fd, fnDE (k := 5) (n := 3) Fn sc_is_calm_paper rfl fun cdv A outer s H E G ds hr hl => match ds, hl with
    | [a_relations, a_rules, a_thing], _ => ⟨_, (pssExp (pdCE rfl takes_def c_need_relations hr (by decide) (paC (pdv 0) paN)) fun _ => pssStuck), rfl⟩, hm, Fn.kp, Fn.binds (ps := ["relations", "rules", "thing"]) fun _ _ _ _ _ _ us hl => match us, hl with | [_, _, _], _ => rfl, fun_lk Fn⟩, arOk3⟩
/-! is_store -/
def f_is_store : D → D → M D := fun a_relations a_thing => Fl.fin (((opC (pure a_relations) (pure [])) >>= fun ds => (ar1 f_need_relations) ds) >>= fun _ => M.stuck)
theorem sc_is_store : FnScope ["relations", "thing"] ["relations", "thing"] (defScope (topS 61)) := ⟨rfl, rfl, rfl, by decide +kernel, rfl, by decide +kernel, by decide +kernel⟩
set_option maxHeartbeats 4000000 in
theorem ok_is_store {P : Program} {w : World} {mg : Str → Option Value} {base : Heap} {Ω : Om} (gm : Gm mg Ω.K) {f : Addr} {fd : FuncData} (Fn : Fun Ω.K "is_store" "is_store" (topS 61) f fd) (hm : mg "is_store" = some (.ref f)) (c_need_relations : CdE P w mg base Ω 5 "need_relations" ["relations"] (ar1 f_need_relations)) : CdE P w mg base Ω 6 "is_store" ["relations", "thing"] (ar2 f_is_store) :=
  have scF := sc_is_store
  ⟨⟨f, fd, fnDE (k := 5) (n := 2) Fn sc_is_store rfl fun cdv A outer s H E G ds hr hl => match ds, hl with
    | [a_relations, a_thing], _ => ⟨_, (pssExp (pdCE rfl takes_def c_need_relations hr (by decide) (paC (pdv 0) paN)) fun _ => pssStuck), rfl⟩, hm, Fn.kp, Fn.binds (ps := ["relations", "thing"]) fun _ _ _ _ _ _ us hl => match us, hl with | [_, _], _ => rfl, fun_lk Fn⟩, arOk2⟩
/-! empty_store -/
def f_empty_store : D → M D := fun a_relations => Fl.fin (((opC (pure a_relations) (pure [])) >>= fun ds => (ar1 f_need_relations) ds) >>= fun _ => M.stuck)
theorem sc_empty_store : FnScope ["relations"] ["relations"] (defScope (topS 63)) := ⟨rfl, rfl, rfl, by decide +kernel, rfl, by decide +kernel, by decide +kernel⟩
set_option maxHeartbeats 4000000 in
theorem ok_empty_store {P : Program} {w : World} {mg : Str → Option Value} {base : Heap} {Ω : Om} (gm : Gm mg Ω.K) {f : Addr} {fd : FuncData} (Fn : Fun Ω.K "empty_store" "empty_store" (topS 63) f fd) (hm : mg "empty_store" = some (.ref f)) (c_need_relations : CdE P w mg base Ω 5 "need_relations" ["relations"] (ar1 f_need_relations)) : CdE P w mg base Ω 6 "empty_store" ["relations"] (ar1 f_empty_store) :=
  have scF := sc_empty_store
  ⟨⟨f, fd, fnDE (k := 5) (n := 1) Fn sc_empty_store rfl fun cdv A outer s H E G ds hr hl => match ds, hl with
    | [a_relations], _ => ⟨_, (pssExp (pdCE rfl takes_def c_need_relations hr (by decide) (paC (pdv 0) paN)) fun _ => pssStuck), rfl⟩, hm, Fn.kp, Fn.binds (ps := ["relations"]) fun _ _ _ _ _ _ us hl => match us, hl with | [_], _ => rfl, fun_lk Fn⟩, arOk1⟩
/-! added -/
def f_added : D → D → D → M D := fun a_relations a_store a_other => Fl.fin (((opC (pure a_relations) (pure [])) >>= fun ds => (ar1 f_need_relations) ds) >>= fun _ => M.stuck)
theorem sc_added : FnScope ["relations", "store", "other", "one", "two"] ["relations", "store", "other"] (defScope (topS 65)) := ⟨rfl, rfl, rfl, by decide +kernel, rfl, by decide +kernel, by decide +kernel⟩
set_option maxHeartbeats 4000000 in
theorem ok_added {P : Program} {w : World} {mg : Str → Option Value} {base : Heap} {Ω : Om} (gm : Gm mg Ω.K) {f : Addr} {fd : FuncData} (Fn : Fun Ω.K "added" "added" (topS 65) f fd) (hm : mg "added" = some (.ref f)) (c_need_relations : CdE P w mg base Ω 5 "need_relations" ["relations"] (ar1 f_need_relations)) : CdE P w mg base Ω 6 "added" ["relations", "store", "other"] (ar3 f_added) :=
  have scF := sc_added
  ⟨⟨f, fd, fnDE (k := 5) (n := 3) Fn sc_added rfl fun cdv A outer s H E G ds hr hl => match ds, hl with
    | [a_relations, a_store, a_other], _ => ⟨_, (pssExp (pdCE rfl takes_def c_need_relations hr (by decide) (paC (pdv 0) paN)) fun _ => pssStuck), rfl⟩, hm, Fn.kp, Fn.binds (ps := ["relations", "store", "other"]) fun _ _ _ _ _ _ us hl => match us, hl with | [_, _, _], _ => rfl, fun_lk Fn⟩, arOk3⟩
/-! within_store -/
def f_within_store : D → D → D → M D := fun a_relations a_store a_other => Fl.fin (((opC (pure a_relations) (pure [])) >>= fun ds => (ar1 f_need_relations) ds) >>= fun _ => M.stuck)
theorem sc_within_store : FnScope ["relations", "store", "other", "one", "two", "row"] ["relations", "store", "other"] (defScope (topS 67)) := ⟨rfl, rfl, rfl, by decide +kernel, rfl, by decide +kernel, by decide +kernel⟩
set_option maxHeartbeats 4000000 in
theorem ok_within_store {P : Program} {w : World} {mg : Str → Option Value} {base : Heap} {Ω : Om} (gm : Gm mg Ω.K) {f : Addr} {fd : FuncData} (Fn : Fun Ω.K "within_store" "within_store" (topS 67) f fd) (hm : mg "within_store" = some (.ref f)) (c_need_relations : CdE P w mg base Ω 5 "need_relations" ["relations"] (ar1 f_need_relations)) : CdE P w mg base Ω 6 "within_store" ["relations", "store", "other"] (ar3 f_within_store) :=
  have scF := sc_within_store
  ⟨⟨f, fd, fnDE (k := 5) (n := 3) Fn sc_within_store rfl fun cdv A outer s H E G ds hr hl => match ds, hl with
    | [a_relations, a_store, a_other], _ => ⟨_, (pssExp (pdCE rfl takes_def c_need_relations hr (by decide) (paC (pdv 0) paN)) fun _ => pssStuck), rfl⟩, hm, Fn.kp, Fn.binds (ps := ["relations", "store", "other"]) fun _ _ _ _ _ _ us hl => match us, hl with | [_, _, _], _ => rfl, fun_lk Fn⟩, arOk3⟩
/-! answer -/
def f_answer : D → D → D → M D := fun a_relations a_question a_store => Fl.fin (((opC (pure a_relations) (pure [])) >>= fun ds => (ar1 f_need_relations) ds) >>= fun _ => M.stuck)
theorem sc_answer : FnScope ["relations", "question", "store"] ["relations", "question", "store"] (defScope (topS 75)) := ⟨rfl, rfl, rfl, by decide +kernel, rfl, by decide +kernel, by decide +kernel⟩
set_option maxHeartbeats 4000000 in
theorem ok_answer {P : Program} {w : World} {mg : Str → Option Value} {base : Heap} {Ω : Om} (gm : Gm mg Ω.K) {f : Addr} {fd : FuncData} (Fn : Fun Ω.K "answer" "answer" (topS 75) f fd) (hm : mg "answer" = some (.ref f)) (c_need_relations : CdE P w mg base Ω 5 "need_relations" ["relations"] (ar1 f_need_relations)) : CdE P w mg base Ω 6 "answer" ["relations", "question", "store"] (ar3 f_answer) :=
  have scF := sc_answer
  ⟨⟨f, fd, fnDE (k := 5) (n := 3) Fn sc_answer rfl fun cdv A outer s H E G ds hr hl => match ds, hl with
    | [a_relations, a_question, a_store], _ => ⟨_, (pssExp (pdCE rfl takes_def c_need_relations hr (by decide) (paC (pdv 0) paN)) fun _ => pssStuck), rfl⟩, hm, Fn.kp, Fn.binds (ps := ["relations", "question", "store"]) fun _ _ _ _ _ _ us hl => match us, hl with | [_, _, _], _ => rfl, fun_lk Fn⟩, arOk3⟩
/-! witnesses -/
def f_witnesses : D → D → D → D → M D := fun a_relations a_part a_store a_row => Fl.fin (((opC (pure a_relations) (pure [])) >>= fun ds => (ar1 f_need_relations) ds) >>= fun _ => M.stuck)
theorem sc_witnesses : FnScope ["relations", "part", "store", "row", "some", "one"] ["relations", "part", "store", "row"] (defScope (topS 76)) := ⟨rfl, rfl, rfl, by decide +kernel, rfl, by decide +kernel, by decide +kernel⟩
set_option maxHeartbeats 4000000 in
theorem ok_witnesses {P : Program} {w : World} {mg : Str → Option Value} {base : Heap} {Ω : Om} (gm : Gm mg Ω.K) {f : Addr} {fd : FuncData} (Fn : Fun Ω.K "witnesses" "witnesses" (topS 76) f fd) (hm : mg "witnesses" = some (.ref f)) (c_need_relations : CdE P w mg base Ω 5 "need_relations" ["relations"] (ar1 f_need_relations)) : CdE P w mg base Ω 6 "witnesses" ["relations", "part", "store", "row"] (ar4 f_witnesses) :=
  have scF := sc_witnesses
  ⟨⟨f, fd, fnDE (k := 5) (n := 4) Fn sc_witnesses rfl fun cdv A outer s H E G ds hr hl => match ds, hl with
    | [a_relations, a_part, a_store, a_row], _ => ⟨_, (pssExp (pdCE rfl takes_def c_need_relations hr (by decide) (paC (pdv 0) paN)) fun _ => pssStuck), rfl⟩, hm, Fn.kp, Fn.binds (ps := ["relations", "part", "store", "row"]) fun _ _ _ _ _ _ us hl => match us, hl with | [_, _, _, _], _ => rfl, fun_lk Fn⟩, arOk4⟩
/-! broken -/
def f_broken : D → D → D → M D := fun a_relations a_rule a_store => Fl.fin (((opC (pure a_relations) (pure [])) >>= fun ds => (ar1 f_need_relations) ds) >>= fun _ => M.stuck)
theorem sc_broken : FnScope ["relations", "rule", "store"] ["relations", "rule", "store"] (defScope (topS 80)) := ⟨rfl, rfl, rfl, by decide +kernel, rfl, by decide +kernel, by decide +kernel⟩
set_option maxHeartbeats 4000000 in
theorem ok_broken {P : Program} {w : World} {mg : Str → Option Value} {base : Heap} {Ω : Om} (gm : Gm mg Ω.K) {f : Addr} {fd : FuncData} (Fn : Fun Ω.K "broken" "broken" (topS 80) f fd) (hm : mg "broken" = some (.ref f)) (c_need_relations : CdE P w mg base Ω 5 "need_relations" ["relations"] (ar1 f_need_relations)) : CdE P w mg base Ω 6 "broken" ["relations", "rule", "store"] (ar3 f_broken) :=
  have scF := sc_broken
  ⟨⟨f, fd, fnDE (k := 5) (n := 3) Fn sc_broken rfl fun cdv A outer s H E G ds hr hl => match ds, hl with
    | [a_relations, a_rule, a_store], _ => ⟨_, (pssExp (pdCE rfl takes_def c_need_relations hr (by decide) (paC (pdv 0) paN)) fun _ => pssStuck), rfl⟩, hm, Fn.kp, Fn.binds (ps := ["relations", "rule", "store"]) fun _ _ _ _ _ _ us hl => match us, hl with | [_, _, _], _ => rfl, fun_lk Fn⟩, arOk3⟩
/-! question_text -/
def f_question_text : D → D → M D := fun a_relations a_question => Fl.fin (((opC (pure a_relations) (pure [])) >>= fun ds => (ar1 f_need_relations) ds) >>= fun _ => M.stuck)
theorem sc_question_text : FnScope ["relations", "question"] ["relations", "question"] (defScope (topS 90)) := ⟨rfl, rfl, rfl, by decide +kernel, rfl, by decide +kernel, by decide +kernel⟩
set_option maxHeartbeats 4000000 in
theorem ok_question_text {P : Program} {w : World} {mg : Str → Option Value} {base : Heap} {Ω : Om} (gm : Gm mg Ω.K) {f : Addr} {fd : FuncData} (Fn : Fun Ω.K "question_text" "question_text" (topS 90) f fd) (hm : mg "question_text" = some (.ref f)) (c_need_relations : CdE P w mg base Ω 5 "need_relations" ["relations"] (ar1 f_need_relations)) : CdE P w mg base Ω 6 "question_text" ["relations", "question"] (ar2 f_question_text) :=
  have scF := sc_question_text
  ⟨⟨f, fd, fnDE (k := 5) (n := 2) Fn sc_question_text rfl fun cdv A outer s H E G ds hr hl => match ds, hl with
    | [a_relations, a_question], _ => ⟨_, (pssExp (pdCE rfl takes_def c_need_relations hr (by decide) (paC (pdv 0) paN)) fun _ => pssStuck), rfl⟩, hm, Fn.kp, Fn.binds (ps := ["relations", "question"]) fun _ _ _ _ _ _ us hl => match us, hl with | [_, _], _ => rfl, fun_lk Fn⟩, arOk2⟩
/-! rule_text -/
def f_rule_text : D → D → M D := fun a_relations a_rule => Fl.fin (((opC (pure a_relations) (pure [])) >>= fun ds => (ar1 f_need_relations) ds) >>= fun _ => M.stuck)
theorem sc_rule_text : FnScope ["relations", "rule"] ["relations", "rule"] (defScope (topS 91)) := ⟨rfl, rfl, rfl, by decide +kernel, rfl, by decide +kernel, by decide +kernel⟩
set_option maxHeartbeats 4000000 in
theorem ok_rule_text {P : Program} {w : World} {mg : Str → Option Value} {base : Heap} {Ω : Om} (gm : Gm mg Ω.K) {f : Addr} {fd : FuncData} (Fn : Fun Ω.K "rule_text" "rule_text" (topS 91) f fd) (hm : mg "rule_text" = some (.ref f)) (c_need_relations : CdE P w mg base Ω 5 "need_relations" ["relations"] (ar1 f_need_relations)) : CdE P w mg base Ω 6 "rule_text" ["relations", "rule"] (ar2 f_rule_text) :=
  have scF := sc_rule_text
  ⟨⟨f, fd, fnDE (k := 5) (n := 2) Fn sc_rule_text rfl fun cdv A outer s H E G ds hr hl => match ds, hl with
    | [a_relations, a_rule], _ => ⟨_, (pssExp (pdCE rfl takes_def c_need_relations hr (by decide) (paC (pdv 0) paN)) fun _ => pssStuck), rfl⟩, hm, Fn.kp, Fn.binds (ps := ["relations", "rule"]) fun _ _ _ _ _ _ us hl => match us, hl with | [_, _], _ => rfl, fun_lk Fn⟩, arOk2⟩
/-! view_text -/
def f_view_text : D → D → M D := fun a_relations a_view => Fl.fin (((opC (pure a_relations) (pure [])) >>= fun ds => (ar1 f_need_relations) ds) >>= fun _ => M.stuck)
theorem sc_view_text : FnScope ["relations", "view"] ["relations", "view"] (defScope (topS 92)) := ⟨rfl, rfl, rfl, by decide +kernel, rfl, by decide +kernel, by decide +kernel⟩
set_option maxHeartbeats 4000000 in
theorem ok_view_text {P : Program} {w : World} {mg : Str → Option Value} {base : Heap} {Ω : Om} (gm : Gm mg Ω.K) {f : Addr} {fd : FuncData} (Fn : Fun Ω.K "view_text" "view_text" (topS 92) f fd) (hm : mg "view_text" = some (.ref f)) (c_need_relations : CdE P w mg base Ω 5 "need_relations" ["relations"] (ar1 f_need_relations)) : CdE P w mg base Ω 6 "view_text" ["relations", "view"] (ar2 f_view_text) :=
  have scF := sc_view_text
  ⟨⟨f, fd, fnDE (k := 5) (n := 2) Fn sc_view_text rfl fun cdv A outer s H E G ds hr hl => match ds, hl with
    | [a_relations, a_view], _ => ⟨_, (pssExp (pdCE rfl takes_def c_need_relations hr (by decide) (paC (pdv 0) paN)) fun _ => pssStuck), rfl⟩, hm, Fn.kp, Fn.binds (ps := ["relations", "view"]) fun _ _ _ _ _ _ us hl => match us, hl with | [_, _], _ => rfl, fun_lk Fn⟩, arOk2⟩
/-! store_text -/
def f_store_text : D → D → M D := fun a_relations a_store => Fl.fin (((opC (pure a_relations) (pure [])) >>= fun ds => (ar1 f_need_relations) ds) >>= fun _ => M.stuck)
theorem sc_store_text : FnScope ["relations", "store", "found", "name", "places", "lot", "row", "one"] ["relations", "store"] (defScope (topS 110)) := ⟨rfl, rfl, rfl, by decide +kernel, rfl, by decide +kernel, by decide +kernel⟩
set_option maxHeartbeats 4000000 in
theorem ok_store_text {P : Program} {w : World} {mg : Str → Option Value} {base : Heap} {Ω : Om} (gm : Gm mg Ω.K) {f : Addr} {fd : FuncData} (Fn : Fun Ω.K "store_text" "store_text" (topS 110) f fd) (hm : mg "store_text" = some (.ref f)) (c_need_relations : CdE P w mg base Ω 5 "need_relations" ["relations"] (ar1 f_need_relations)) : CdE P w mg base Ω 6 "store_text" ["relations", "store"] (ar2 f_store_text) :=
  have scF := sc_store_text
  ⟨⟨f, fd, fnDE (k := 5) (n := 2) Fn sc_store_text rfl fun cdv A outer s H E G ds hr hl => match ds, hl with
    | [a_relations, a_store], _ => ⟨_, (pssExp (pdCE rfl takes_def c_need_relations hr (by decide) (paC (pdv 0) paN)) fun _ => pssStuck), rfl⟩, hm, Fn.kp, Fn.binds (ps := ["relations", "store"]) fun _ _ _ _ _ _ us hl => match us, hl with | [_, _], _ => rfl, fun_lk Fn⟩, arOk2⟩
/-! read_question -/
def f_read_question : D → D → M D := fun a_relations a_text => Fl.fin (((opC (pure a_relations) (pure [])) >>= fun ds => (ar1 f_need_relations) ds) >>= fun _ => M.stuck)
theorem sc_read_question : FnScope ["relations", "text"] ["relations", "text"] (defScope (topS 105)) := ⟨rfl, rfl, rfl, by decide +kernel, rfl, by decide +kernel, by decide +kernel⟩
set_option maxHeartbeats 4000000 in
theorem ok_read_question {P : Program} {w : World} {mg : Str → Option Value} {base : Heap} {Ω : Om} (gm : Gm mg Ω.K) {f : Addr} {fd : FuncData} (Fn : Fun Ω.K "read_question" "read_question" (topS 105) f fd) (hm : mg "read_question" = some (.ref f)) (c_need_relations : CdE P w mg base Ω 5 "need_relations" ["relations"] (ar1 f_need_relations)) : CdE P w mg base Ω 6 "read_question" ["relations", "text"] (ar2 f_read_question) :=
  have scF := sc_read_question
  ⟨⟨f, fd, fnDE (k := 5) (n := 2) Fn sc_read_question rfl fun cdv A outer s H E G ds hr hl => match ds, hl with
    | [a_relations, a_text], _ => ⟨_, (pssExp (pdCE rfl takes_def c_need_relations hr (by decide) (paC (pdv 0) paN)) fun _ => pssStuck), rfl⟩, hm, Fn.kp, Fn.binds (ps := ["relations", "text"]) fun _ _ _ _ _ _ us hl => match us, hl with | [_, _], _ => rfl, fun_lk Fn⟩, arOk2⟩
/-! read_rule -/
def f_read_rule : D → D → M D := fun a_relations a_text => Fl.fin (((opC (pure a_relations) (pure [])) >>= fun ds => (ar1 f_need_relations) ds) >>= fun _ => M.stuck)
theorem sc_read_rule : FnScope ["relations", "text"] ["relations", "text"] (defScope (topS 106)) := ⟨rfl, rfl, rfl, by decide +kernel, rfl, by decide +kernel, by decide +kernel⟩
set_option maxHeartbeats 4000000 in
theorem ok_read_rule {P : Program} {w : World} {mg : Str → Option Value} {base : Heap} {Ω : Om} (gm : Gm mg Ω.K) {f : Addr} {fd : FuncData} (Fn : Fun Ω.K "read_rule" "read_rule" (topS 106) f fd) (hm : mg "read_rule" = some (.ref f)) (c_need_relations : CdE P w mg base Ω 5 "need_relations" ["relations"] (ar1 f_need_relations)) : CdE P w mg base Ω 6 "read_rule" ["relations", "text"] (ar2 f_read_rule) :=
  have scF := sc_read_rule
  ⟨⟨f, fd, fnDE (k := 5) (n := 2) Fn sc_read_rule rfl fun cdv A outer s H E G ds hr hl => match ds, hl with
    | [a_relations, a_text], _ => ⟨_, (pssExp (pdCE rfl takes_def c_need_relations hr (by decide) (paC (pdv 0) paN)) fun _ => pssStuck), rfl⟩, hm, Fn.kp, Fn.binds (ps := ["relations", "text"]) fun _ _ _ _ _ _ us hl => match us, hl with | [_, _], _ => rfl, fun_lk Fn⟩, arOk2⟩
/-! read_view -/
def f_read_view : D → D → M D := fun a_relations a_text => Fl.fin (((opC (pure a_relations) (pure [])) >>= fun ds => (ar1 f_need_relations) ds) >>= fun _ => M.stuck)
theorem sc_read_view : FnScope ["relations", "text"] ["relations", "text"] (defScope (topS 107)) := ⟨rfl, rfl, rfl, by decide +kernel, rfl, by decide +kernel, by decide +kernel⟩
set_option maxHeartbeats 4000000 in
theorem ok_read_view {P : Program} {w : World} {mg : Str → Option Value} {base : Heap} {Ω : Om} (gm : Gm mg Ω.K) {f : Addr} {fd : FuncData} (Fn : Fun Ω.K "read_view" "read_view" (topS 107) f fd) (hm : mg "read_view" = some (.ref f)) (c_need_relations : CdE P w mg base Ω 5 "need_relations" ["relations"] (ar1 f_need_relations)) : CdE P w mg base Ω 6 "read_view" ["relations", "text"] (ar2 f_read_view) :=
  have scF := sc_read_view
  ⟨⟨f, fd, fnDE (k := 5) (n := 2) Fn sc_read_view rfl fun cdv A outer s H E G ds hr hl => match ds, hl with
    | [a_relations, a_text], _ => ⟨_, (pssExp (pdCE rfl takes_def c_need_relations hr (by decide) (paC (pdv 0) paN)) fun _ => pssStuck), rfl⟩, hm, Fn.kp, Fn.binds (ps := ["relations", "text"]) fun _ _ _ _ _ _ us hl => match us, hl with | [_, _], _ => rfl, fun_lk Fn⟩, arOk2⟩
/-! read_store -/
def f_read_store : D → D → M D := fun a_relations a_text => Fl.fin (((opC (pure a_relations) (pure [])) >>= fun ds => (ar1 f_need_relations) ds) >>= fun _ => M.stuck)
theorem sc_read_store : FnScope ["relations", "text", "rows", "names", "lots", "last", "at", "row", "words", "is_right", "name", "places", "word"] ["relations", "text"] (defScope (topS 111)) := ⟨rfl, rfl, rfl, by decide +kernel, rfl, by decide +kernel, by decide +kernel⟩
set_option maxHeartbeats 4000000 in
theorem ok_read_store {P : Program} {w : World} {mg : Str → Option Value} {base : Heap} {Ω : Om} (gm : Gm mg Ω.K) {f : Addr} {fd : FuncData} (Fn : Fun Ω.K "read_store" "read_store" (topS 111) f fd) (hm : mg "read_store" = some (.ref f)) (c_need_relations : CdE P w mg base Ω 5 "need_relations" ["relations"] (ar1 f_need_relations)) : CdE P w mg base Ω 6 "read_store" ["relations", "text"] (ar2 f_read_store) :=
  have scF := sc_read_store
  ⟨⟨f, fd, fnDE (k := 5) (n := 2) Fn sc_read_store rfl fun cdv A outer s H E G ds hr hl => match ds, hl with
    | [a_relations, a_text], _ => ⟨_, (pssExp (pdCE rfl takes_def c_need_relations hr (by decide) (paC (pdv 0) paN)) fun _ => pssStuck), rfl⟩, hm, Fn.kp, Fn.binds (ps := ["relations", "text"]) fun _ _ _ _ _ _ us hl => match us, hl with | [_, _], _ => rfl, fun_lk Fn⟩, arOk2⟩
/-! _law_mixed -/
def f__law_mixed (Ω : Om) : M D := Fl.fin ((op2 dAdd (getTurn) (pure (.int 1))) >>= fun v1_turn => (pure (.int 0)) >>= fun v2_found => (pure v1_turn) >>= fun d => putTurn d >>= fun _ => Fl.seq ((((opC (pure (.int 2147483629)) (opC (pure (.int 2147483587)) (opC (pure (.int 2147483579)) (opC (pure (.int 2147483563)) (pure []))))) >>= mkLst) >>= dIter) >>= fun ds => loopD (fun (b3 : D) v4_prime => (op2 dAdd (op2 dMul (pure (.int 69621)) (pure v1_turn)) (op2 dFdiv (pure v4_prime) (pure (.int 41)))) >>= fun v5_blend => Fl.seq (((pure (.lst (Ω.cells.map .int))) >>= dIter) >>= fun ds => loopD (fun (b6 : D) v7_cell => (op2 dMod ((opC (op2 dAdd (op2 dAdd (op2 dMul (pure b6) (pure (.int 48271))) (pure v7_cell)) (pure v1_turn)) (pure [])) >>= ar1 dInt) (pure v4_prime)) >>= fun v8_blend => pure (.nx v8_blend)) ds v5_blend) fun (b6 : D) => (op2 dAdd (op2 dMul (pure b3) (pure (.int 2147483659))) (op2 dMod ((opC (op2 dPow (pure b6) (pure (.int 5))) (pure [])) >>= ar1 dInt) (pure v4_prime))) >>= fun v9_found => pure (.nx v9_found)) ds v2_found) fun (b3 : D) => (pure b3) >>= fun d => pure (.rt d))
theorem sc__law_mixed : FnScope ["state", "turn", "found", "prime", "blend", "cell"] ["state"] (defScope (topS 114)) := ⟨rfl, rfl, rfl, by decide +kernel, rfl, by decide +kernel, by decide +kernel⟩
set_option maxHeartbeats 4000000 in
theorem ok__law_mixed {P : Program} {w : World} {mg : Str → Option Value} {base : Heap} {Ω : Om} (gm : Gm mg Ω.K) {f : Addr} {fd : FuncData} (Fn : Fun Ω.K "_law_mixed" "_law_mixed" (topS 114) f fd) (hm : mg "_law_mixed" = some (.ref f)) : Cd P w mg base Ω 1 "_law_mixed" ["state"] (sr0 (f__law_mixed Ω)) :=
  have scF := sc__law_mixed
  ⟨⟨f, fd, fnD (k := 0) (n := 1) Fn sc__law_mixed rfl fun cdv A outer s H E G ds hr hl => match ds, hl with
    | [a_state], _ => stArg (m := (sr0 (f__law_mixed Ω))) (r := []) ⟨_, (pssSwap2 (i := 1) (j := 2) scF.nd rfl (pdAdd (pdTurn (i := 0) hr.units) pdi) pdi fun v1_turn v2_found => (pssTurn (i := 0) hr.units (pdv 1) (pssC (β := D) (en := fun b3 => [.dat .st, .dat v1_turn, .dat b3, .no, .no, .no]) (psFor1 (β := D) (enb := fun b3 => [.dat .st, .dat v1_turn, .dat b3, .no, .no, .no]) (b0 := v2_found) (i := 3) PassesOwn.never scF.nd (piD (pdLst (paC pdi (paC pdi (paC pdi (paC pdi paN)))))) (fun b3 v4_prime => (pssSet (i := 4) scF.nd (pdAdd (pdMul pdi (pdv 1)) (pdFdiv (pdv 3) pdi)) fun v5_blend => (pssC (β := D) (en := fun b6 => [.dat .st, .dat v1_turn, .dat b3, .dat v4_prime, .dat b6, .no]) (psFor1 (β := D) (enb := fun b6 => [.dat .st, .dat v1_turn, .dat b3, .dat v4_prime, .dat b6, .no]) (b0 := v5_blend) (i := 5) PassesOwn.never scF.nd (piD (pdCells (i := 0) hr.units)) (fun b6 v7_cell => (pssSet (i := 4) scF.nd (pdMod (pdTy (dc_int) gm.z_int (by decide +kernel) (paC (pdAdd (pdAdd (pdMul (pdv 4) pdi) (pdv 5)) (pdv 1)) paN)) (pdv 3)) fun v8_blend => (pssN (b := v8_blend) (Wk.k (Wk.k (Wk.k (Wk.k (Wk.k (Wk.d Wk.n)))))).conv))) (Wk.k (Wk.k (Wk.k (Wk.k (Wk.k (Wk.k Wk.n)))))).conv) fun b6 => (pssSet (i := 2) scF.nd (pdAdd (pdMul (pdv 2) pdi) (pdMod (pdTy (dc_int) gm.z_int (by decide +kernel) (paC (pdPow (pdv 4) pdi) paN)) (pdv 3))) fun v9_found => (pssN (b := v9_found) (Wk.k (Wk.k (Wk.k (Wk.d (Wk.d (Wk.k Wk.n)))))).conv))))) (Wk.k (Wk.k (Wk.k (Wk.k (Wk.k (Wk.k Wk.n)))))).conv) fun b3 => (pssRet (pdv 2))))), rfl⟩ (fun d h => by cases d <;> first | rfl | exact absurd rfl h) a_state, hm, Fn.kp, Fn.binds (ps := ["state"]) fun _ _ _ _ _ _ us hl => match us, hl with | [_], _ => rfl, fun_lk Fn⟩, srOk0⟩
/-! _law_draw -/
def f__law_draw (Ω : Om) : D → M D := fun a_room => Fl.fin (Fl.seq (((op2 dEq (getRest) (pure (.int 0))) >>= asB) >>= fun b => if b = true then (((anyGreat) >>= fun x => if x = true then (popGreat) else ((opC (pure .st) (pure [])) >>= fun ds => noErr ((sr0 (f__law_mixed Ω)) ds))) >>= fun d => putRest d >>= fun _ => pure (.nx ())) else (pure (.nx ()))) fun (b1 : Unit) => (op2 dMod ((opC (getRest) (pure [])) >>= ar1 dInt) (pure a_room)) >>= fun v2_found => (op2 dFdiv (getRest) (pure a_room)) >>= fun d => putRest d >>= fun _ => (pure v2_found) >>= fun d => pure (.rt d))
theorem sc__law_draw : FnScope ["state", "room", "found"] ["state", "room"] (defScope (topS 115)) := ⟨rfl, rfl, rfl, by decide +kernel, rfl, by decide +kernel, by decide +kernel⟩
set_option maxHeartbeats 4000000 in
theorem ok__law_draw {P : Program} {w : World} {mg : Str → Option Value} {base : Heap} {Ω : Om} (gm : Gm mg Ω.K) {f : Addr} {fd : FuncData} (Fn : Fun Ω.K "_law_draw" "_law_draw" (topS 115) f fd) (hm : mg "_law_draw" = some (.ref f)) (c__law_mixed : Cd P w mg base Ω 1 "_law_mixed" ["state"] (sr0 (f__law_mixed Ω))) : Cd P w mg base Ω 2 "_law_draw" ["state", "room"] (sr1 (f__law_draw Ω)) :=
  have scF := sc__law_draw
  ⟨⟨f, fd, fnD (k := 1) (n := 2) Fn sc__law_draw rfl fun cdv A outer s H E G ds hr hl => match ds, hl with
    | [a_state, a_room], _ => stArg (m := (sr1 (f__law_draw Ω))) (r := [a_room]) ⟨_, (pssC (β := Unit) (en := fun b1 => [.dat .st, .dat a_room, .no]) (psIf (ptCmp (dop_eq rfl hr.units) (pdRest (i := 0) hr.units) pdi (by rfl)) (pssRest (i := 0) hr.units (pdIf (ptGreat (i := 0) hr.units rfl) (pdPop (i := 0) hr.units) (pdC rfl c__law_mixed hr (by decide) (paC (pdv 0) paN))) (pssN (b := ()) (Wk.k (Wk.k (Wk.k Wk.n))).conv)) (pssN (b := ()) (Wk.k (Wk.k (Wk.k Wk.n))).conv)) fun b1 => (pssSet (i := 2) scF.nd (pdMod (pdTy (dc_int) gm.z_int (by decide +kernel) (paC (pdRest (i := 0) hr.units) paN)) (pdv 1)) fun v2_found => (pssRest (i := 0) hr.units (pdFdiv (pdRest (i := 0) hr.units) (pdv 1)) (pssRet (pdv 2))))), rfl⟩ (fun d h => by cases d <;> first | rfl | exact absurd rfl h) a_state, hm, Fn.kp, Fn.binds (ps := ["state", "room"]) fun _ _ _ _ _ _ us hl => match us, hl with | [_, _], _ => rfl, fun_lk Fn⟩, srOk1⟩
/-! _law_pick -/
def f__law_pick (Ω : Om) : D → M D := fun a_some => Fl.fin ((op2 dIx (pure a_some) ((opC (pure .st) (opC ((opC (pure a_some) (pure [])) >>= ar1 dLen) (pure []))) >>= fun ds => noErr ((sr1 (f__law_draw Ω)) ds))) >>= fun d => pure (.rt d))
theorem sc__law_pick : FnScope ["state", "some"] ["state", "some"] (defScope (topS 116)) := ⟨rfl, rfl, rfl, by decide +kernel, rfl, by decide +kernel, by decide +kernel⟩
set_option maxHeartbeats 4000000 in
theorem ok__law_pick {P : Program} {w : World} {mg : Str → Option Value} {base : Heap} {Ω : Om} (gm : Gm mg Ω.K) {f : Addr} {fd : FuncData} (Fn : Fun Ω.K "_law_pick" "_law_pick" (topS 116) f fd) (hm : mg "_law_pick" = some (.ref f)) (c__law_draw : Cd P w mg base Ω 2 "_law_draw" ["state", "room"] (sr1 (f__law_draw Ω))) : Cd P w mg base Ω 3 "_law_pick" ["state", "some"] (sr1 (f__law_pick Ω)) :=
  have scF := sc__law_pick
  ⟨⟨f, fd, fnD (k := 2) (n := 2) Fn sc__law_pick rfl fun cdv A outer s H E G ds hr hl => match ds, hl with
    | [a_state, a_some], _ => stArg (m := (sr1 (f__law_pick Ω))) (r := [a_some]) ⟨_, (pssRet (pdIx (pdv 1) (pdC rfl c__law_draw hr (by decide) (paC (pdv 0) (paC (pdB (dc_len rfl) gm.z_len (by decide +kernel) (paC (pdv 1) paN)) paN))) hr.units)), rfl⟩ (fun d h => by cases d <;> first | rfl | exact absurd rfl h) a_state, hm, Fn.kp, Fn.binds (ps := ["state", "some"]) fun _ _ _ _ _ _ us hl => match us, hl with | [_, _], _ => rfl, fun_lk Fn⟩, srOk1⟩
/-! _law_plain -/
def f__law_plain : Nat → D → M D
  | 0, _ => M.stuck
  | n + 1, a_value => Fl.fin (Fl.seq ((((pure a_value) >>= dIsi2 .list .tuple) >>= asB) >>= fun b => if b = true then ((op2 dEq (((pure a_value) >>= dIter) >>= lcD (fun v1_one => (((opC (pure v1_one) (pure [])) >>= fun ds => noErr ((ar1 (f__law_plain n)) ds)) >>= asB) >>= fun b => pure (!b)) (fun v1_one => pure (.int 1))) ((pure []) >>= mkLst)) >>= fun d => pure (.rt d)) else (pure (.nx ()))) fun (b2 : Unit) => Fl.seq ((((pure a_value) >>= dIsi .dict) >>= asB) >>= fun b => if b = true then (((opC ((opC (M.stuck) (pure [])) >>= ar1 dList) (pure [])) >>= fun ds => noErr ((ar1 (f__law_plain n)) ds)) >>= fun d => pure (.rt d)) else (pure (.nx ()))) fun (b3 : Unit) => (dOr (op2 dIs (pure a_value) (pure .non)) ((pure a_value) >>= dIsi2 .int .str)) >>= fun d => pure (.rt d))
theorem sc__law_plain : FnScope ["value", "one"] ["value"] (defScope (topS 117)) := ⟨rfl, rfl, rfl, by decide +kernel, rfl, by decide +kernel, by decide +kernel⟩
set_option maxHeartbeats 4000000 in
theorem ok__law_plain {P : Program} {w : World} {mg : Str → Option Value} {base : Heap} {Ω : Om} (gm : Gm mg Ω.K) {f : Addr} {fd : FuncData} (Fn : Fun Ω.K "_law_plain" "_law_plain" (topS 117) f fd) (hm : mg "_law_plain" = some (.ref f)) : ∀ n, Cd P w mg base Ω (1 + n) "_law_plain" ["value"] (ar1 (f__law_plain n))
  | 0 => ⟨⟨f, fd, fnZero rfl (fun ds => by unfold ar1; first | rfl | (split <;> rfl)), hm, Fn.kp, Fn.binds (ps := ["value"]) fun _ _ _ _ _ _ us hl => match us, hl with | [_], _ => rfl, fun_lk Fn⟩, arOk1⟩
  | n + 1 => have c_self := ok__law_plain gm Fn hm  n; have scF := sc__law_plain; ⟨⟨f, fd, fnD (k := 1 + n) (n := 1) Fn sc__law_plain rfl fun cdv A outer s H E G ds hr hl => match ds, hl with
    | [a_value], _ => ⟨_, (pssC (β := Unit) (en := fun b2 => [.dat a_value, .no]) (psIf (ptv (pdIsi2 .list .tuple (pdv 0) gm.z_isinstance gm.z_list gm.z_tuple)) (pssRet (pdCmp (dop_eq rfl hr.units) (pdLc1 (i := 1) scF.nd (blkOk_by (by rfl)) (piD (pdv 0)) (fun s H C cl fp => pgN (i := 1) scF.nd) (fun s H C cl fp v1_one => (ptsO (ptNot (ptv (pdC rfl c_self hr (by omega) (paC (pdv 1) paN)))))) (fun s H C cl fp v1_one => pdi)) (pdLst paN) (by rfl))) (pssN (b := ()) (Wk.k (Wk.k Wk.n)).conv)) fun b2 => (pssC (β := Unit) (en := fun b3 => [.dat a_value, .no]) (psIf (ptv (pdIsi .dict (pdv 0) gm.z_isinstance gm.z_dict)) (pssRet (pdC rfl c_self hr (by omega) (paC (pdTy (dc_list) gm.z_list (by decide +kernel) (paC pdStuck paN)) paN))) (pssN (b := ()) (Wk.k (Wk.k Wk.n)).conv)) fun b3 => (pssRet (pdOr (pdCmp dop_is (pdv 0) pdn (by rfl)) (pdOne (pdIsi2 .int .str (pdv 0) gm.z_isinstance gm.z_int gm.z_str)))))), rfl⟩, hm, Fn.kp, Fn.binds (ps := ["value"]) fun _ _ _ _ _ _ us hl => match us, hl with | [_], _ => rfl, fun_lk Fn⟩, arOk1⟩
/-! _law_is -/
def f__law_is : D → D → M D := fun a_found a_due => Fl.fin ((dAnd ((opC (pure a_found) (pure [])) >>= fun ds => noErr ((ar1 (f__law_plain 4)) ds)) (dAnd (op2 dEq (pure a_found) (pure a_due)) (dAnd (op2 dEq (pure a_due) (pure a_found)) (op2 dEq ((opC (pure a_found) (pure [])) >>= ar1 dRepr) ((opC (pure a_due) (pure [])) >>= ar1 dRepr))))) >>= fun d => pure (.rt d))
theorem sc__law_is : FnScope ["found", "due"] ["found", "due"] (defScope (topS 118)) := ⟨rfl, rfl, rfl, by decide +kernel, rfl, by decide +kernel, by decide +kernel⟩
set_option maxHeartbeats 4000000 in
theorem ok__law_is {P : Program} {w : World} {mg : Str → Option Value} {base : Heap} {Ω : Om} (gm : Gm mg Ω.K) {f : Addr} {fd : FuncData} (Fn : Fun Ω.K "_law_is" "_law_is" (topS 118) f fd) (hm : mg "_law_is" = some (.ref f)) (c__law_plain : Cd P w mg base Ω 5 "_law_plain" ["value"] (ar1 (f__law_plain 4))) : CdG P w mg base Ω 6 "_law_is" ["found", "due"] (ar2 f__law_is) :=
  have scF := sc__law_is
  ⟨⟨f, fd, fnDG (k := 5) (n := 2) Fn sc__law_is rfl fun cdv A outer s H E G ds hA hr hl => match ds, hl with
    | [a_found, a_due], _ => ⟨_, (pssRet (pdAnd (pdC rfl c__law_plain hr (by decide) (paC (pdv 0) paN)) (pdAnd (pdCmp (dop_eq rfl hr.units) (pdv 0) (pdv 1) (by rfl)) (pdAnd (pdCmp (dop_eq rfl hr.units) (pdv 1) (pdv 0) (by rfl)) (pdOne (pdCmp (dop_eq rfl hr.units) (pdB (dc_repr rfl hA (hu65 hr)) gm.z_repr (by decide +kernel) (paC (pdv 0) paN)) (pdB (dc_repr rfl hA (hu65 hr)) gm.z_repr (by decide +kernel) (paC (pdv 1) paN)) (by rfl))))))), rfl⟩, hm, Fn.kp, Fn.binds (ps := ["found", "due"]) fun _ _ _ _ _ _ us hl => match us, hl with | [_, _], _ => rfl, fun_lk Fn⟩, arOk2⟩
/-! _law_says -/
def f__law_says : D → D → M D := fun a_found a_is_due => Fl.fin ((((pure a_is_due) >>= asB) >>= fun x => if x = true then (op2 dIs (pure a_found) (pure (.bl true))) else (op2 dIs (pure a_found) (pure (.bl false)))) >>= fun d => pure (.rt d))
theorem sc__law_says : FnScope ["found", "is_due"] ["found", "is_due"] (defScope (topS 120)) := ⟨rfl, rfl, rfl, by decide +kernel, rfl, by decide +kernel, by decide +kernel⟩
set_option maxHeartbeats 4000000 in
theorem ok__law_says {P : Program} {w : World} {mg : Str → Option Value} {base : Heap} {Ω : Om} (gm : Gm mg Ω.K) {f : Addr} {fd : FuncData} (Fn : Fun Ω.K "_law_says" "_law_says" (topS 120) f fd) (hm : mg "_law_says" = some (.ref f)) : Cd P w mg base Ω 1 "_law_says" ["found", "is_due"] (ar2 f__law_says) :=
  have scF := sc__law_says
  ⟨⟨f, fd, fnD (k := 0) (n := 2) Fn sc__law_says rfl fun cdv A outer s H E G ds hr hl => match ds, hl with
    | [a_found, a_is_due], _ => ⟨_, (pssRet (pdIf (ptv (pdv 1)) (pdCmp dop_is (pdv 0) pdb (by rfl)) (pdCmp dop_is (pdv 0) pdb (by rfl)))), rfl⟩, hm, Fn.kp, Fn.binds (ps := ["found", "is_due"]) fun _ _ _ _ _ _ us hl => match us, hl with | [_, _], _ => rfl, fun_lk Fn⟩, arOk2⟩
/-! _law_relations -/
def f__law_relations (Ω : Om) : M D := Fl.fin ((pure []) >>= fun v1_found => gd (v1_found.length ≤ lim) (Fl.seq (((opSl (opSl ((opC (pure (.str "child")) (opC (pure (.str "par")) (opC (pure (.str "r")) (opC (pure (.str "s")) (opC (pure (.str "t")) (pure [])))))) >>= mkLst) (((opC (pure .st) (opC (pure (.int 3)) (pure []))) >>= fun ds => noErr ((sr1 (f__law_draw Ω)) ds)) >>= asI) (pure none)) (pure none) ((op2 dAdd (pure (.int 1)) ((opC (pure .st) (opC (pure (.int 3)) (pure []))) >>= fun ds => noErr ((sr1 (f__law_draw Ω)) ds))) >>= asI)) >>= dIter) >>= fun ds => loopD (fun (b2 : List D) v3_name => ((opC (pure v3_name) (opC ((opC (pure .st) (opC ((opC (pure (.int 1)) (opC (pure (.int 2)) (opC (pure (.int 2)) (opC (pure (.int 3)) (pure []))))) >>= mkLst) (pure []))) >>= fun ds => noErr ((sr1 (f__law_pick Ω)) ds)) (pure []))) >>= mkTup) >>= fun v4_d => gd (b2.length < lim) (pure (.nx (b2 ++ [v4_d])))) ds v1_found) fun (b2 : List D) => ((opC (pure (.lst b2)) (pure [])) >>= ar1 dTupleX) >>= fun d => pure (.rt d)))
theorem sc__law_relations : FnScope ["state", "found", "name"] ["state"] (defScope (topS 121)) := ⟨rfl, rfl, rfl, by decide +kernel, rfl, by decide +kernel, by decide +kernel⟩
set_option maxHeartbeats 4000000 in
theorem ok__law_relations {P : Program} {w : World} {mg : Str → Option Value} {base : Heap} {Ω : Om} (gm : Gm mg Ω.K) {f : Addr} {fd : FuncData} (Fn : Fun Ω.K "_law_relations" "_law_relations" (topS 121) f fd) (hm : mg "_law_relations" = some (.ref f)) (c__law_draw : Cd P w mg base Ω 2 "_law_draw" ["state", "room"] (sr1 (f__law_draw Ω))) (c__law_pick : Cd P w mg base Ω 3 "_law_pick" ["state", "some"] (sr1 (f__law_pick Ω))) : Cd P w mg base Ω 4 "_law_relations" ["state"] (sr0 (f__law_relations Ω)) :=
  have scF := sc__law_relations
  ⟨⟨f, fd, fnD (k := 3) (n := 1) Fn sc__law_relations rfl fun cdv A outer s H E G ds hr hl => match ds, hl with
    | [a_state], _ => stArg (m := (sr0 (f__law_relations Ω))) (r := []) ⟨_, (pssOwnL (i := 1) scF.nd paN fun v1_found => (pssC (β := List D) (en := fun b2 => [.dat .st, .own b2, .no]) (psFor1 (β := List D) (enb := fun b2 => [.dat .st, .own b2, .no]) (b0 := v1_found) (i := 2) PassesOwn.never scF.nd (piD (pdSl (pdSl (pdLst (paC pds (paC pds (paC pds (paC pds (paC pds paN)))))) (poS (pdC rfl c__law_draw hr (by decide) (paC (pdv 0) (paC pdi paN)))) poN) poN (poS (pdAdd pdi (pdC rfl c__law_draw hr (by decide) (paC (pdv 0) (paC pdi paN))))))) (fun b2 v3_name => (pssApp (i := 1) rfl (pdTup (paC (pdv 2) (paC (pdC rfl c__law_pick hr (by decide) (paC (pdv 0) (paC (pdLst (paC pdi (paC pdi (paC pdi (paC pdi paN))))) paN))) paN))) fun v4_d => (pssN (b := (b2 ++ [v4_d])) (Wk.k (Wk.k (Wk.d Wk.n))).conv))) (Wk.k (Wk.k (Wk.k Wk.n))).conv) fun b2 => (PSsconv (Conv.freeze 1 rfl rfl) (pssRet (pdTy (dc_tupleX rfl) gm.z_tuple (by decide +kernel) (paC (pdv 1) paN)))))), rfl⟩ (fun d h => by cases d <;> first | rfl | exact absurd rfl h) a_state, hm, Fn.kp, Fn.binds (ps := ["state"]) fun _ _ _ _ _ _ us hl => match us, hl with | [_], _ => rfl, fun_lk Fn⟩, srOk0⟩
/-! _law_is_name -/
def f__law_is_name : D → M D := fun a_thing => Fl.fin (((pure (.str "ask base book come go head judge look no norule noview or patch plan question relation replica row rule same store to undo view when yes")) >>= asS >>= fun z => (opC (pure (.str " ")) (pure [])) >>= fun ds => dSplit z ds) >>= fun v1_kept => Fl.seq ((((((pure a_thing) >>= dIsi .str) >>= asB) >>= fun b => pure (!b)) >>= fun x => if x = true then pure true else ((((dChain dLe dLe (pure (.int 1)) ((opC (pure a_thing) (pure [])) >>= ar1 dLen) (pure (.int 8))) >>= asB) >>= fun b => pure (!b)) >>= fun x => if x = true then pure true else ((op2 dIn (pure a_thing) (pure v1_kept)) >>= asB))) >>= fun b => if b = true then ((pure (.bl false)) >>= fun d => pure (.rt d)) else (pure (.nx ()))) fun (b2 : Unit) => (op2 dEq (((pure a_thing) >>= dIter) >>= lcD (fun v3_sign => (op2 dNotIn (pure v3_sign) (pure (.str "abcdefghijklmnopqrstuvwxyz"))) >>= asB) (fun v3_sign => pure v3_sign)) ((pure []) >>= mkLst)) >>= fun d => pure (.rt d))
theorem sc__law_is_name : FnScope ["thing", "kept", "sign"] ["thing"] (defScope (topS 122)) := ⟨rfl, rfl, rfl, by decide +kernel, rfl, by decide +kernel, by decide +kernel⟩
set_option maxHeartbeats 4000000 in
theorem ok__law_is_name {P : Program} {w : World} {mg : Str → Option Value} {base : Heap} {Ω : Om} (gm : Gm mg Ω.K) {f : Addr} {fd : FuncData} (Fn : Fun Ω.K "_law_is_name" "_law_is_name" (topS 122) f fd) (hm : mg "_law_is_name" = some (.ref f)) : Cd P w mg base Ω 1 "_law_is_name" ["thing"] (ar1 f__law_is_name) :=
  have scF := sc__law_is_name
  ⟨⟨f, fd, fnD (k := 0) (n := 1) Fn sc__law_is_name rfl fun cdv A outer s H E G ds hr hl => match ds, hl with
    | [a_thing], _ => ⟨_, (pssSet (i := 1) scF.nd (pdSplit pds (paC pds paN)) fun v1_kept => (pssC (β := Unit) (en := fun b2 => [.dat a_thing, .dat v1_kept, .no]) (psIf (pwOr (ptNot (ptv (pdIsi .str (pdv 0) gm.z_isinstance gm.z_str))) (pwOr (ptNot (ptChain (dop_le rfl hr.units) (dop_le rfl hr.units) pdi (pdB (dc_len rfl) gm.z_len (by decide +kernel) (paC (pdv 0) paN)) pdi)) (pwOr1 (ptCmp (dop_in rfl (hu65 hr)) (pdv 0) (pdv 1) (by rfl))))).pt (pssRet pdb) (pssN (b := ()) (Wk.k (Wk.k (Wk.k Wk.n))).conv)) fun b2 => (pssRet (pdCmp (dop_eq rfl hr.units) (pdLc1 (i := 2) scF.nd (blkOk_by (by rfl)) (piD (pdv 0)) (fun s H C cl fp => pgN (i := 2) scF.nd) (fun s H C cl fp v3_sign => (ptsO (ptCmp (dop_notIn rfl (hu65 hr)) (pdv 2) pds (by rfl)))) (fun s H C cl fp v3_sign => (pdv 2))) (pdLst paN) (by rfl))))), rfl⟩, hm, Fn.kp, Fn.binds (ps := ["thing"]) fun _ _ _ _ _ _ us hl => match us, hl with | [_], _ => rfl, fun_lk Fn⟩, arOk1⟩
/-! _law_is_number -/
def f__law_is_number : D → M D := fun a_thing => Fl.fin ((dAnd ((pure a_thing) >>= dIsi .int) (dAnd (op2 dIsNot (pure a_thing) (pure (.bl true))) (dAnd (op2 dIsNot (pure a_thing) (pure (.bl false))) (dChain dLe dLe (pure (.int 0)) (pure a_thing) (pure (.int 999)))))) >>= fun d => pure (.rt d))
theorem sc__law_is_number : FnScope ["thing"] ["thing"] (defScope (topS 123)) := ⟨rfl, rfl, rfl, by decide +kernel, rfl, by decide +kernel, by decide +kernel⟩
set_option maxHeartbeats 4000000 in
theorem ok__law_is_number {P : Program} {w : World} {mg : Str → Option Value} {base : Heap} {Ω : Om} (gm : Gm mg Ω.K) {f : Addr} {fd : FuncData} (Fn : Fun Ω.K "_law_is_number" "_law_is_number" (topS 123) f fd) (hm : mg "_law_is_number" = some (.ref f)) : Cd P w mg base Ω 1 "_law_is_number" ["thing"] (ar1 f__law_is_number) :=
  have scF := sc__law_is_number
  ⟨⟨f, fd, fnD (k := 0) (n := 1) Fn sc__law_is_number rfl fun cdv A outer s H E G ds hr hl => match ds, hl with
    | [a_thing], _ => ⟨_, (pssRet (pdAnd (pdIsi .int (pdv 0) gm.z_isinstance gm.z_int) (pdAnd (pdCmp dop_isNot (pdv 0) pdb (by rfl)) (pdAnd (pdCmp dop_isNot (pdv 0) pdb (by rfl)) (pdOne (pdChain (dop_le rfl hr.units) (dop_le rfl hr.units) pdi (pdv 0) pdi)))))), rfl⟩, hm, Fn.kp, Fn.binds (ps := ["thing"]) fun _ _ _ _ _ _ us hl => match us, hl with | [_], _ => rfl, fun_lk Fn⟩, arOk1⟩
/-! _law_is_term -/
def f__law_is_term : D → M D := fun a_thing => Fl.fin ((dOr ((opC (pure a_thing) (pure [])) >>= fun ds => noErr ((ar1 f__law_is_name) ds)) ((opC (pure a_thing) (pure [])) >>= fun ds => noErr ((ar1 f__law_is_number) ds))) >>= fun d => pure (.rt d))
theorem sc__law_is_term : FnScope ["thing"] ["thing"] (defScope (topS 124)) := ⟨rfl, rfl, rfl, by decide +kernel, rfl, by decide +kernel, by decide +kernel⟩
set_option maxHeartbeats 4000000 in
theorem ok__law_is_term {P : Program} {w : World} {mg : Str → Option Value} {base : Heap} {Ω : Om} (gm : Gm mg Ω.K) {f : Addr} {fd : FuncData} (Fn : Fun Ω.K "_law_is_term" "_law_is_term" (topS 124) f fd) (hm : mg "_law_is_term" = some (.ref f)) (c__law_is_name : Cd P w mg base Ω 1 "_law_is_name" ["thing"] (ar1 f__law_is_name)) (c__law_is_number : Cd P w mg base Ω 1 "_law_is_number" ["thing"] (ar1 f__law_is_number)) : Cd P w mg base Ω 2 "_law_is_term" ["thing"] (ar1 f__law_is_term) :=
  have scF := sc__law_is_term
  ⟨⟨f, fd, fnD (k := 1) (n := 1) Fn sc__law_is_term rfl fun cdv A outer s H E G ds hr hl => match ds, hl with
    | [a_thing], _ => ⟨_, (pssRet (pdOr (pdC rfl c__law_is_name hr (by decide) (paC (pdv 0) paN)) (pdOne (pdC rfl c__law_is_number hr (by decide) (paC (pdv 0) paN))))), rfl⟩, hm, Fn.kp, Fn.binds (ps := ["thing"]) fun _ _ _ _ _ _ us hl => match us, hl with | [_], _ => rfl, fun_lk Fn⟩, arOk1⟩
/-! _law_are_named -/
def f__law_are_named : D → D → M D := fun a_thing a_most => Fl.fin (Fl.seq ((((((pure a_thing) >>= dIsi .tuple) >>= asB) >>= fun b => pure (!b)) >>= fun x => if x = true then pure true else (((op2 dGt ((opC (pure a_thing) (pure [])) >>= ar1 dLen) (pure a_most)) >>= asB) >>= fun x => if x = true then pure true else ((op2 dNe (((pure a_thing) >>= dIter) >>= lcD (fun v1_one => ((((pure v1_one) >>= dIsi .tuple) >>= asB) >>= fun b => pure (!b)) >>= fun x => if x = true then pure true else (((op2 dNe ((opC (pure v1_one) (pure [])) >>= ar1 dLen) (pure (.int 2))) >>= asB) >>= fun x => if x = true then pure true else ((((opC (op2 dIx (pure v1_one) (pure (.int 0))) (pure [])) >>= fun ds => noErr ((ar1 f__law_is_name) ds)) >>= asB) >>= fun b => pure (!b)))) (fun v1_one => pure (.int 1))) ((pure []) >>= mkLst)) >>= asB))) >>= fun b => if b = true then ((pure (.bl false)) >>= fun d => pure (.rt d)) else (pure (.nx ()))) fun (b2 : Unit) => (((pure a_thing) >>= dIter) >>= lcD (fun v4_one => pure true) (fun v4_one => op2 dIx (pure v4_one) (pure (.int 0)))) >>= fun v3_names => (op2 dEq (((opC (pure v3_names) (opC (opSl (pure v3_names) ((pure (.int 1)) >>= asI) (pure none)) (pure []))) >>= dZip) >>= lcD (un2 (fun v5_one v6_other => (op2 dGe (pure v5_one) (pure v6_other)) >>= asB)) (un2 (fun v5_one v6_other => pure (.int 1)))) ((pure []) >>= mkLst)) >>= fun d => pure (.rt d))
theorem sc__law_are_named : FnScope ["thing", "most", "names", "one", "other"] ["thing", "most"] (defScope (topS 125)) := ⟨rfl, rfl, rfl, by decide +kernel, rfl, by decide +kernel, by decide +kernel⟩
set_option maxHeartbeats 4000000 in
theorem ok__law_are_named {P : Program} {w : World} {mg : Str → Option Value} {base : Heap} {Ω : Om} (gm : Gm mg Ω.K) {f : Addr} {fd : FuncData} (Fn : Fun Ω.K "_law_are_named" "_law_are_named" (topS 125) f fd) (hm : mg "_law_are_named" = some (.ref f)) (c__law_is_name : Cd P w mg base Ω 1 "_law_is_name" ["thing"] (ar1 f__law_is_name)) : Cd P w mg base Ω 2 "_law_are_named" ["thing", "most"] (ar2 f__law_are_named) :=
  have scF := sc__law_are_named
  ⟨⟨f, fd, fnD (k := 1) (n := 2) Fn sc__law_are_named rfl fun cdv A outer s H E G ds hr hl => match ds, hl with
    | [a_thing, a_most], _ => ⟨_, (pssC (β := Unit) (en := fun b2 => [.dat a_thing, .dat a_most, .no, .no, .no]) (psIf (pwOr (ptNot (ptv (pdIsi .tuple (pdv 0) gm.z_isinstance gm.z_tuple))) (pwOr (ptCmp (dop_gt rfl hr.units) (pdB (dc_len rfl) gm.z_len (by decide +kernel) (paC (pdv 0) paN)) (pdv 1) (by rfl)) (pwOr1 (ptCmp (dop_ne rfl hr.units) (pdLc1 (i := 3) scF.nd (blkOk_by (by rfl)) (piD (pdv 0)) (fun s H C cl fp => pgN (i := 3) scF.nd) (fun s H C cl fp v1_one => (ptsO (pwOr (ptNot (ptv (pdIsi .tuple (pdv 3) gm.z_isinstance gm.z_tuple))) (pwOr (ptCmp (dop_ne rfl hr.units) (pdB (dc_len rfl) gm.z_len (by decide +kernel) (paC (pdv 3) paN)) pdi (by rfl)) (pwOr1 (ptNot (ptv (pdC rfl c__law_is_name hr (by decide) (paC (pdIx (pdv 3) pdi hr.units) paN))))))).pt)) (fun s H C cl fp v1_one => pdi)) (pdLst paN) (by rfl))))).pt (pssRet pdb) (pssN (b := ()) (Wk.k (Wk.k (Wk.k (Wk.k (Wk.k Wk.n))))).conv)) fun b2 => (pssLc1 (n := 2) (i := 3) scF.nd rfl (blkOk_by (by rfl)) (piD (pdv 0)) (fun s H C cl fp => pgN (i := 3) scF.nd) (fun s H C cl fp v4_one => ptsN) (fun s H C cl fp v4_one => (pdIx (pdv 3) pdi hr.units)) fun v3_names => (pssRet (pdCmp (dop_eq rfl hr.units) (pdLc2 (i := 3) (j := 4) scF.nd (blkOk_by (by rfl)) (piZip gm.z_zip (paC (pdv 2) (paC (pdSl (pdv 2) (poS pdi) poN) paN))) (fun s H C cl fp => pg_tup rfl (pgs_cons (pgN (i := 3) scF.nd) (pgs_cons (pgN (i := 4) scF.nd) pgs_nil))) (fun s H C cl fp v5_one v6_other => (ptsO (ptCmp (dop_ge rfl hr.units) (pdv 3) (pdv 4) (by rfl)))) (fun s H C cl fp v5_one v6_other => pdi)) (pdLst paN) (by rfl))))), rfl⟩, hm, Fn.kp, Fn.binds (ps := ["thing", "most"]) fun _ _ _ _ _ _ us hl => match us, hl with | [_, _], _ => rfl, fun_lk Fn⟩, arOk2⟩
/-! _law_is_relations -/
def f__law_is_relations : D → M D := fun a_thing => Fl.fin ((dAnd ((opC (pure a_thing) (opC (pure (.int 5)) (pure []))) >>= fun ds => noErr ((ar2 f__law_are_named) ds)) (dAnd (op2 dNe (pure a_thing) ((pure []) >>= mkTup)) (op2 dEq (((pure a_thing) >>= dIter) >>= lcD (un2 (fun v1_name v2_places => ((((opC (pure v2_places) (pure [])) >>= fun ds => noErr ((ar1 f__law_is_number) ds)) >>= asB) >>= fun b => pure (!b)) >>= fun x => if x = true then pure true else (((dChain dLe dLe (pure (.int 1)) (pure v2_places) (pure (.int 3))) >>= asB) >>= fun b => pure (!b)))) (un2 (fun v1_name v2_places => pure (.int 1)))) ((pure []) >>= mkLst)))) >>= fun d => pure (.rt d))
theorem sc__law_is_relations : FnScope ["thing", "name", "places"] ["thing"] (defScope (topS 126)) := ⟨rfl, rfl, rfl, by decide +kernel, rfl, by decide +kernel, by decide +kernel⟩
set_option maxHeartbeats 4000000 in
theorem ok__law_is_relations {P : Program} {w : World} {mg : Str → Option Value} {base : Heap} {Ω : Om} (gm : Gm mg Ω.K) {f : Addr} {fd : FuncData} (Fn : Fun Ω.K "_law_is_relations" "_law_is_relations" (topS 126) f fd) (hm : mg "_law_is_relations" = some (.ref f)) (c__law_are_named : Cd P w mg base Ω 2 "_law_are_named" ["thing", "most"] (ar2 f__law_are_named)) (c__law_is_number : Cd P w mg base Ω 1 "_law_is_number" ["thing"] (ar1 f__law_is_number)) : Cd P w mg base Ω 3 "_law_is_relations" ["thing"] (ar1 f__law_is_relations) :=
  have scF := sc__law_is_relations
  ⟨⟨f, fd, fnD (k := 2) (n := 1) Fn sc__law_is_relations rfl fun cdv A outer s H E G ds hr hl => match ds, hl with
    | [a_thing], _ => ⟨_, (pssRet (pdAnd (pdC rfl c__law_are_named hr (by decide) (paC (pdv 0) (paC pdi paN))) (pdAnd (pdCmp (dop_ne rfl hr.units) (pdv 0) (pdTup paN) (by rfl)) (pdOne (pdCmp (dop_eq rfl hr.units) (pdLc2 (i := 1) (j := 2) scF.nd (blkOk_by (by rfl)) (piD (pdv 0)) (fun s H C cl fp => pg_tup rfl (pgs_cons (pgN (i := 1) scF.nd) (pgs_cons (pgN (i := 2) scF.nd) pgs_nil))) (fun s H C cl fp v1_name v2_places => (ptsO (pwOr (ptNot (ptv (pdC rfl c__law_is_number hr (by decide) (paC (pdv 2) paN)))) (pwOr1 (ptNot (ptChain (dop_le rfl hr.units) (dop_le rfl hr.units) pdi (pdv 2) pdi)))).pt)) (fun s H C cl fp v1_name v2_places => pdi)) (pdLst paN) (by rfl)))))), rfl⟩, hm, Fn.kp, Fn.binds (ps := ["thing"]) fun _ _ _ _ _ _ us hl => match us, hl with | [_], _ => rfl, fun_lk Fn⟩, arOk1⟩
/-! _law_near -/
def f__law_near (Ω : Om) : Nat → D → M D
  | 0, _ => M.stuck
  | n + 1, a_value => Fl.fin (Fl.seq ((((op2 dIs (pure a_value) (pure .non)) >>= asB) >>= fun x => if x = true then pure true else (((pure a_value) >>= dIsi .bool) >>= asB)) >>= fun b => if b = true then (((opC (pure .st) (opC ((opC (pure (.int 0)) (opC (pure (.str "")) (opC ((pure []) >>= mkTup) (opC (pure (.int 1)) (opC (pure .non) (pure [])))))) >>= mkLst) (pure []))) >>= fun ds => noErr ((sr1 (f__law_pick Ω)) ds)) >>= fun d => pure (.rt d)) else (pure (.nx ()))) fun (b1 : Unit) => Fl.seq ((((pure a_value) >>= dIsi .str) >>= asB) >>= fun b => if b = true then (((opC (pure .st) (opC ((opC (pure (.str "")) (opC (op2 dAdd (pure a_value) (pure (.str "x"))) (opC (opSl (pure a_value) ((pure (.int 1)) >>= asI) (pure none)) (opC (pure (.str "zz")) (opC ((pure a_value) >>= asS >>= fun z => dUpper z []) (opC (pure .non) (opC (pure (.int 0)) (opC ((opC (pure a_value) (pure [])) >>= mkTup) (opC (pure (.str "x")) (opC (pure (.str "y")) (opC (pure (.str "r")) (opC (pure (.str "par")) (opC (pure (.str "same")) (opC (pure (.str "row")) (pure []))))))))))))))) >>= mkLst) (pure []))) >>= fun ds => noErr ((sr1 (f__law_pick Ω)) ds)) >>= fun d => pure (.rt d)) else (pure (.nx ()))) fun (b2 : Unit) => Fl.seq ((((pure a_value) >>= dIsi .int) >>= asB) >>= fun b => if b = true then (((opC (pure .st) (opC ((opC (op2 dAdd (pure a_value) (pure (.int 1))) (opC (op2 dSub (pure a_value) (pure (.int 1))) (opC (pure (.bl true)) (opC (pure .non) (opC (pure (.int 1000)) (opC ((opC (pure a_value) (pure [])) >>= mkTup) (opC (pure (.str "x")) (pure [])))))))) >>= mkLst) (pure []))) >>= fun ds => noErr ((sr1 (f__law_pick Ω)) ds)) >>= fun d => pure (.rt d)) else (pure (.nx ()))) fun (b3 : Unit) => Fl.seq (((((pure a_value) >>= dIsi .tuple) >>= asB) >>= fun x => if x = true then (((op2 dNe (pure a_value) ((pure []) >>= mkTup)) >>= asB) >>= fun x => if x = true then ((op2 dGt ((opC (pure .st) (opC (pure (.int 5)) (pure []))) >>= fun ds => noErr ((sr1 (f__law_draw Ω)) ds)) (pure (.int 0))) >>= asB) else pure false) else pure false) >>= fun b => if b = true then (((opC (pure .st) (opC ((opC (pure a_value) (pure [])) >>= ar1 dLen) (pure []))) >>= fun ds => noErr ((sr1 (f__law_draw Ω)) ds)) >>= fun v4_at => (op2 dAdd (op2 dAdd (opSl (pure a_value) (pure none) ((pure v4_at) >>= asI)) ((opC ((opC (pure .st) (opC (op2 dIx (pure a_value) (pure v4_at)) (pure []))) >>= fun ds => noErr ((sr1 (f__law_near Ω n)) ds)) (pure [])) >>= mkTup)) (opSl (pure a_value) ((op2 dAdd (pure v4_at) (pure (.int 1))) >>= asI) (pure none))) >>= fun d => pure (.rt d)) else (pure (.nx ()))) fun (b5 : Unit) => ((opC (pure a_value) (pure [])) >>= ar1 dList) >>= fun v6_some => ((opC (pure .st) (opC ((opC (pure v6_some) (opC ((opC (op2 dAdd (pure v6_some) ((opC (pure (.int 0)) (pure [])) >>= mkLst)) (pure [])) >>= ar1 dTuple) (opC ((opC (opSl (pure v6_some) (pure none) ((op1 dNeg (pure (.int 1))) >>= asI)) (pure [])) >>= ar1 dTuple) (opC (pure .non) (opC ((opC (op2 dAdd (pure v6_some) (opSl (pure v6_some) ((op1 dNeg (pure (.int 1))) >>= asI) (pure none))) (pure [])) >>= ar1 dTuple) (opC ((opC (op1 dRevL (pure v6_some)) (pure [])) >>= ar1 dTuple) (opC ((pure []) >>= mkTup) (pure [])))))))) >>= mkLst) (pure []))) >>= fun ds => noErr ((sr1 (f__law_pick Ω)) ds)) >>= fun d => pure (.rt d))
theorem sc__law_near : FnScope ["state", "value", "at", "some"] ["state", "value"] (defScope (topS 127)) := ⟨rfl, rfl, rfl, by decide +kernel, rfl, by decide +kernel, by decide +kernel⟩
set_option maxHeartbeats 4000000 in
theorem ok__law_near {P : Program} {w : World} {mg : Str → Option Value} {base : Heap} {Ω : Om} (gm : Gm mg Ω.K) {f : Addr} {fd : FuncData} (Fn : Fun Ω.K "_law_near" "_law_near" (topS 127) f fd) (hm : mg "_law_near" = some (.ref f)) (c__law_pick : Cd P w mg base Ω 3 "_law_pick" ["state", "some"] (sr1 (f__law_pick Ω))) (c__law_draw : Cd P w mg base Ω 2 "_law_draw" ["state", "room"] (sr1 (f__law_draw Ω))) : ∀ n, Cd P w mg base Ω (4 + n) "_law_near" ["state", "value"] (sr1 (f__law_near Ω n))
  | 0 => ⟨⟨f, fd, fnZero rfl (fun ds => by unfold sr1; first | rfl | (split <;> rfl)), hm, Fn.kp, Fn.binds (ps := ["state", "value"]) fun _ _ _ _ _ _ us hl => match us, hl with | [_, _], _ => rfl, fun_lk Fn⟩, srOk1⟩
  | n + 1 => have c_self := ok__law_near gm Fn hm c__law_pick c__law_draw n; have scF := sc__law_near; ⟨⟨f, fd, fnD (k := 4 + n) (n := 2) Fn sc__law_near rfl fun cdv A outer s H E G ds hr hl => match ds, hl with
    | [a_state, a_value], _ => stArg (m := sr1 (f__law_near Ω (n + 1))) (r := [a_value]) ⟨_, (pssC (β := Unit) (en := fun b1 => [.dat .st, .dat a_value, .no, .no]) (psIf (pwOr (ptCmp dop_is (pdv 1) pdn (by rfl)) (pwOr1 (ptv (pdIsi .bool (pdv 1) gm.z_isinstance gm.z_bool)))).pt (pssRet (pdC rfl c__law_pick hr (by omega) (paC (pdv 0) (paC (pdLst (paC pdi (paC pds (paC (pdTup paN) (paC pdi (paC pdn paN)))))) paN)))) (pssN (b := ()) (Wk.k (Wk.k (Wk.k (Wk.k Wk.n)))).conv)) fun b1 => (pssC (β := Unit) (en := fun b2 => [.dat .st, .dat a_value, .no, .no]) (psIf (ptv (pdIsi .str (pdv 1) gm.z_isinstance gm.z_str)) (pssRet (pdC rfl c__law_pick hr (by omega) (paC (pdv 0) (paC (pdLst (paC pds (paC (pdAdd (pdv 1) pds) (paC (pdSl (pdv 1) (poS pdi) poN) (paC pds (paC (pdUpper (pdv 1)) (paC pdn (paC pdi (paC (pdTup (paC (pdv 1) paN)) (paC pds (paC pds (paC pds (paC pds (paC pds (paC pds paN))))))))))))))) paN)))) (pssN (b := ()) (Wk.k (Wk.k (Wk.k (Wk.k Wk.n)))).conv)) fun b2 => (pssC (β := Unit) (en := fun b3 => [.dat .st, .dat a_value, .no, .no]) (psIf (ptv (pdIsi .int (pdv 1) gm.z_isinstance gm.z_int)) (pssRet (pdC rfl c__law_pick hr (by omega) (paC (pdv 0) (paC (pdLst (paC (pdAdd (pdv 1) pdi) (paC (pdSub (pdv 1) pdi) (paC pdb (paC pdn (paC pdi (paC (pdTup (paC (pdv 1) paN)) (paC pds paN)))))))) paN)))) (pssN (b := ()) (Wk.k (Wk.k (Wk.k (Wk.k Wk.n)))).conv)) fun b3 => (pssC (β := Unit) (en := fun b5 => [.dat .st, .dat a_value, .no, .no]) (psIf (pwAnd (ptv (pdIsi .tuple (pdv 1) gm.z_isinstance gm.z_tuple)) (pwAnd (ptCmp (dop_ne rfl hr.units) (pdv 1) (pdTup paN) (by rfl)) (pwAnd1 (ptCmp (dop_gt rfl hr.units) (pdC rfl c__law_draw hr (by omega) (paC (pdv 0) (paC pdi paN))) pdi (by rfl))))).pt (pssSet (i := 2) scF.nd (pdC rfl c__law_draw hr (by omega) (paC (pdv 0) (paC (pdB (dc_len rfl) gm.z_len (by decide +kernel) (paC (pdv 1) paN)) paN))) fun v4_at => (pssRet (pdAdd (pdAdd (pdSl (pdv 1) poN (poS (pdv 2))) (pdTup (paC (pdC rfl c_self hr (by omega) (paC (pdv 0) (paC (pdIx (pdv 1) (pdv 2) hr.units) paN))) paN))) (pdSl (pdv 1) (poS (pdAdd (pdv 2) pdi)) poN)))) (pssN (b := ()) (Wk.k (Wk.k (Wk.k (Wk.k Wk.n)))).conv)) fun b5 => (pssSet (i := 3) scF.nd (pdTy (dc_list) gm.z_list (by decide +kernel) (paC (pdv 1) paN)) fun v6_some => (pssRet (pdC rfl c__law_pick hr (by omega) (paC (pdv 0) (paC (pdLst (paC (pdv 3) (paC (pdTy (dc_tuple) gm.z_tuple (by decide +kernel) (paC (pdAdd (pdv 3) (pdLst (paC pdi paN))) paN)) (paC (pdTy (dc_tuple) gm.z_tuple (by decide +kernel) (paC (pdSl (pdv 3) poN (poS (pdNeg pdi))) paN)) (paC pdn (paC (pdTy (dc_tuple) gm.z_tuple (by decide +kernel) (paC (pdAdd (pdv 3) (pdSl (pdv 3) (poS (pdNeg pdi)) poN)) paN)) (paC (pdTy (dc_tuple) gm.z_tuple (by decide +kernel) (paC (pdRevL (pdv 3)) paN)) (paC (pdTup paN) paN)))))))) paN))))))))), rfl⟩ (fun d h => by cases d <;> first | rfl | exact absurd rfl h) a_state, hm, Fn.kp, Fn.binds (ps := ["state", "value"]) fun _ _ _ _ _ _ us hl => match us, hl with | [_, _], _ => rfl, fun_lk Fn⟩, srOk1⟩
/-! law -/
def f_law (Ω : Om) : M D := Fl.fin (Fl.seq (((op2 dNe ((((opC (pure (.str "x")) (opC (pure (.str "abcdefgh")) (opC (pure (.str "abcdefghi")) (opC (pure (.str "")) (opC (pure (.str "X")) (opC (pure (.str "same")) (opC (pure (.str "samex")) (opC (pure (.str "a b")) (opC (pure (.str "yes")) (opC (pure (.str "new")) (pure []))))))))))) >>= mkLst) >>= dIter) >>= lcD (fun v1_word => pure true) (fun v1_word => (opC (pure v1_word) (pure [])) >>= fun ds => noErr ((ar1 f_is_name) ds))) ((opC (pure (.bl true)) (opC (pure (.bl true)) (opC (pure (.bl false)) (opC (pure (.bl false)) (opC (pure (.bl false)) (opC (pure (.bl false)) (opC (pure (.bl true)) (opC (pure (.bl false)) (opC (pure (.bl false)) (opC (pure (.bl true)) (pure []))))))))))) >>= mkLst)) >>= asB) >>= fun b => if b = true then ((pure (.bl false)) >>= fun d => pure (.rt d)) else (pure (.nx ()))) fun (b2 : Unit) => Fl.seq ((((((opC ((opC ((opC (pure (.str "y")) (opC (pure (.int 3)) (opC (pure (.str "x")) (opC (pure (.int 0)) (opC (pure (.str "y")) (opC (pure (.int 11)) (opC (pure (.int 3)) (pure [])))))))) >>= mkLst) (pure [])) >>= fun ds => noErr ((ar1 f_in_sequence) ds)) (opC ((opC (pure (.int 0)) (opC (pure (.int 3)) (opC (pure (.int 11)) (opC (pure (.str "x")) (opC (pure (.str "y")) (pure [])))))) >>= mkLst) (pure []))) >>= fun ds => noErr ((ar2 f__law_is) ds)) >>= asB) >>= fun b => pure (!b)) >>= fun x => if x = true then pure true else ((op2 dIsNot ((opC ((opC ((opC (pure (.str "par")) (opC (pure (.int 2)) (pure []))) >>= mkTup) (pure [])) >>= mkTupX) (pure [])) >>= fun ds => noErr ((ar1 f_is_relations) ds)) (pure (.bl true))) >>= asB)) >>= fun b => if b = true then ((pure (.bl false)) >>= fun d => pure (.rt d)) else (pure (.nx ()))) fun (b3 : Unit) => Fl.seq (((opC (op2 dAdd (pure (.int 5)) ((opC (pure (.int (Ω.cells.length : Nat))) (opC (pure (.int 8)) (pure []))) >>= ar2 dMin2)) (pure [])) >>= dRange1) >>= fun ds => loopD (fun (b4 : Unit) v5_turn => ((pure (.str "")) >>= asS >>= fun z => (opC (((opC ((opC (pure .st) (opC (pure (.int 10)) (pure []))) >>= fun ds => noErr ((sr1 (f__law_draw Ω)) ds)) (pure [])) >>= dRange1) >>= lcD (fun v7_lap => pure true) (fun v7_lap => (opC (pure .st) (opC (pure (.str "rowsamexq")) (pure []))) >>= fun ds => noErr ((sr1 (f__law_pick Ω)) ds))) (pure [])) >>= fun ds => dJoin z ds) >>= fun v6_word => Fl.seq ((((opC (pure v6_word) (opC ((opC (pure .st) (opC ((opC (pure (.str "row")) (opC (pure (.str "or")) (opC (pure (.str "to")) (opC (pure (.str "rows")) (opC (pure (.str "relation")) (opC (pure (.str "a1")) (pure []))))))) >>= mkLst) (pure []))) >>= fun ds => noErr ((sr1 (f__law_pick Ω)) ds)) (opC ((opC (pure .st) (opC (pure v6_word) (pure []))) >>= fun ds => noErr ((sr1 (f__law_near Ω 6)) ds)) (opC (op2 dSub ((opC (pure .st) (opC (pure (.int 2000)) (pure []))) >>= fun ds => noErr ((sr1 (f__law_draw Ω)) ds)) (pure (.int 500))) (opC (pure (.bl true)) (opC (pure .non) (pure []))))))) >>= mkLst) >>= dIter) >>= fun ds => loopD (fun (b8 : Unit) v9_value => (((((opC ((opC (pure v9_value) (pure [])) >>= fun ds => noErr ((ar1 f_is_name) ds)) (opC ((opC (pure v9_value) (pure [])) >>= fun ds => noErr ((ar1 f__law_is_name) ds)) (pure []))) >>= fun ds => noErr ((ar2 f__law_says) ds)) >>= asB) >>= fun b => pure (!b)) >>= fun x => if x = true then pure true else ((((opC ((opC (pure v9_value) (pure [])) >>= fun ds => noErr ((ar1 f_is_term) (kp .non (List.length (α := Str) ["thing"]) [0] [] ds))) (opC ((opC (pure v9_value) (pure [])) >>= fun ds => noErr ((ar1 f__law_is_term) ds)) (pure []))) >>= fun ds => noErr ((ar2 f__law_says) ds)) >>= asB) >>= fun b => pure (!b))) >>= fun b => if b = true then ((pure (.bl false)) >>= fun d => pure (.rt d)) else (pure (.nx ()))) ds ()) fun (b8 : Unit) => ((opC ((opC (pure .st) (pure [])) >>= fun ds => noErr ((sr0 (f__law_relations Ω)) ds)) (opC ((pure []) >>= mkLst) (pure []))) >>= mkTup) >>= un2 fun v10_relations v11_bad => Fl.seq (((op2 dAdd ((opC (pure v10_relations) (opC (op1 dRev (pure v10_relations)) (opC (op2 dMul (pure v10_relations) (pure (.int 4))) (pure [])))) >>= mkLst) (((opC (pure (.int 6)) (pure [])) >>= dRange1) >>= lcD (fun v12_lap => pure true) (fun v12_lap => (opC (pure .st) (opC (pure v10_relations) (pure []))) >>= fun ds => noErr ((sr1 (f__law_near Ω 6)) ds)))) >>= dIter) >>= fun ds => loopD (fun (b13 : D) v14_value => Fl.seq (((((opC ((opC (pure v14_value) (pure [])) >>= fun ds => noErr ((ar1 f_is_relations) ds)) (opC ((opC (pure v14_value) (pure [])) >>= fun ds => noErr ((ar1 f__law_is_relations) ds)) (pure []))) >>= fun ds => noErr ((ar2 f__law_says) ds)) >>= asB) >>= fun b => pure (!b)) >>= fun b => if b = true then ((pure (.bl false)) >>= fun d => pure (.rt d)) else (pure (.nx ()))) fun (b15 : Unit) => (op2 dAdd (pure b13) ((((opC (pure v14_value) (pure [])) >>= fun ds => noErr ((ar1 f__law_is_relations) ds)) >>= asB) >>= fun x => if x = true then ((pure []) >>= mkLst) else ((opC (pure v14_value) (pure [])) >>= mkLst))) >>= fun v16_bad => pure (.nx v16_bad)) ds v11_bad) fun (b13 : D) => (((opC ((opC (pure .st) (opC (pure (.int 9)) (pure []))) >>= fun ds => noErr ((sr1 (f__law_draw Ω)) ds)) (pure [])) >>= dRange1) >>= lcD (fun v18_lap => pure true) (fun v18_lap => (opC (pure .st) (opC ((opC ((opC (pure .st) (opC (pure (.int 20)) (pure []))) >>= fun ds => noErr ((sr1 (f__law_draw Ω)) ds)) (opC ((opC (pure .st) (opC ((opC (pure (.str "x")) (opC (pure (.str "y")) (opC (pure (.str "z")) (opC (pure (.str "abc")) (pure []))))) >>= mkLst) (pure []))) >>= fun ds => noErr ((sr1 (f__law_pick Ω)) ds)) (pure []))) >>= mkLst) (pure []))) >>= fun ds => noErr ((sr1 (f__law_pick Ω)) ds))) >>= fun v17_some => (((opC (pure (.int 20)) (pure [])) >>= dRange1) >>= lcD (fun v21_one => (op2 dIn (pure v21_one) (pure v17_some)) >>= asB) (fun v21_one => pure v21_one)) >>= fun v19_numbers => ((((opC (pure (.str "abc")) (opC (pure (.str "x")) (opC (pure (.str "y")) (opC (pure (.str "z")) (pure []))))) >>= mkLst) >>= dIter) >>= lcD (fun v22_one => (op2 dIn (pure v22_one) (pure v17_some)) >>= asB) (fun v22_one => pure v22_one)) >>= fun v20_names => Fl.seq (((((opC ((opC (pure v17_some) (pure [])) >>= fun ds => noErr ((ar1 f_in_sequence) (kp .non (List.length (α := Str) ["terms"]) [0] [] ds))) (opC (op2 dAdd (pure v19_numbers) (pure v20_names)) (pure []))) >>= fun ds => noErr ((ar2 f__law_is) ds)) >>= asB) >>= fun b => pure (!b)) >>= fun b => if b = true then ((pure (.bl false)) >>= fun d => pure (.rt d)) else (pure (.nx ()))) fun (b23 : Unit) => ((opC (pure .st) (opC (op2 dAdd (pure b13) ((opC (pure .non) (opC ((pure []) >>= mkTup) (opC (pure (.str "par")) (opC ((opC ((opC (pure (.str "par")) (opC (pure (.int 4)) (pure []))) >>= mkTup) (pure [])) >>= mkTup) (opC ((opC ((opC (pure (.str "par")) (opC (pure (.int 0)) (pure []))) >>= mkTup) (pure [])) >>= mkTup) (opC ((opC ((opC (pure (.str "par")) (opC (pure (.int 2)) (pure []))) >>= mkTup) (pure [])) >>= mkLst) (pure []))))))) >>= mkLst)) (pure []))) >>= fun ds => noErr ((sr1 (f__law_pick Ω)) ds)) >>= fun v24_wrong => Fl.seq ((((opC (pure (.opq 33)) (opC (pure (.opq 34)) (opC (pure (.opq 35)) (opC (pure (.opq 36)) (opC (pure (.opq 37)) (opC (pure (.opq 38)) (opC (pure (.opq 39)) (opC (pure (.opq 40)) (opC (pure (.opq 41)) (opC (pure (.opq 42)) (opC (pure (.opq 43)) (opC (pure (.opq 44)) (opC (pure (.opq 45)) (opC (pure (.opq 46)) (opC (pure (.opq 47)) (opC (pure (.opq 48)) (opC (pure (.opq 49)) (opC (pure (.opq 50)) (pure []))))))))))))))))))) >>= mkLst) >>= dIter) >>= fun ds => loopD (fun (b25 : Unit) v26_call => (((((opC (pure v26_call) (pure [])) >>= ar1 (dAct (lamsM [(opC (pure v24_wrong) (opC (pure .non) (pure []))) >>= fun ds => (ar2 f_is_rule) ds, (opC (pure v24_wrong) (opC (pure .non) (pure []))) >>= fun ds => (ar2 f_calm) ds, (opC (pure v24_wrong) (opC (pure .non) (opC (pure .non) (pure [])))) >>= fun ds => (ar3 f_is_calm_paper) ds, (opC (pure v24_wrong) (opC (pure .non) (pure []))) >>= fun ds => (ar2 f_is_store) ds, (opC (pure v24_wrong) (pure [])) >>= fun ds => (ar1 f_empty_store) ds, (opC (pure v24_wrong) (opC (pure .non) (opC (pure .non) (pure [])))) >>= fun ds => (ar3 f_added) ds, (opC (pure v24_wrong) (opC (pure .non) (opC (pure .non) (pure [])))) >>= fun ds => (ar3 f_within_store) ds, (opC (pure v24_wrong) (opC (pure .non) (opC (pure .non) (pure [])))) >>= fun ds => (ar3 f_answer) ds, (opC (pure v24_wrong) (opC (pure .non) (opC (pure .non) (opC (pure .non) (pure []))))) >>= fun ds => (ar4 f_witnesses) ds, (opC (pure v24_wrong) (opC (pure .non) (opC (pure .non) (pure [])))) >>= fun ds => (ar3 f_broken) ds, (opC (pure v24_wrong) (opC (pure .non) (pure []))) >>= fun ds => (ar2 f_question_text) ds, (opC (pure v24_wrong) (opC (pure .non) (pure []))) >>= fun ds => (ar2 f_rule_text) ds, (opC (pure v24_wrong) (opC (pure .non) (pure []))) >>= fun ds => (ar2 f_view_text) ds, (opC (pure v24_wrong) (opC (pure .non) (pure []))) >>= fun ds => (ar2 f_store_text) ds, (opC (pure v24_wrong) (opC (pure .non) (pure []))) >>= fun ds => (ar2 f_read_question) ds, (opC (pure v24_wrong) (opC (pure .non) (pure []))) >>= fun ds => (ar2 f_read_rule) ds, (opC (pure v24_wrong) (opC (pure .non) (pure []))) >>= fun ds => (ar2 f_read_view) ds, (opC (pure v24_wrong) (opC (pure .non) (pure []))) >>= fun ds => (ar2 f_read_store) ds]))) >>= dIsX is_NoRelations) >>= asB) >>= fun b => pure (!b)) >>= fun b => if b = true then ((pure (.bl false)) >>= fun d => pure (.rt d)) else (pure (.nx ()))) ds ()) fun (b25 : Unit) => pure (.nx ())) ds ()) fun (b4 : Unit) => (pure (.bl true)) >>= fun d => pure (.rt d))
theorem sc_law : FnScope ["script", "state", "turn", "word", "value", "relations", "bad", "some", "numbers", "names", "wrong", "call", "lap", "one"] ["script"] (defScope (topS 128)) := ⟨rfl, rfl, rfl, by decide +kernel, rfl, by decide +kernel, by decide +kernel⟩
theorem sc_caught : FnScope ["action", "found", "error"] ["action"] (defScope (topS 119)) := ⟨rfl, rfl, rfl, by decide +kernel, rfl, by decide +kernel, by decide +kernel⟩
def lamL : List (Option LamR) := (listElts (forIter ((forBody ((defBody (topS 128)).getD 3 (.Pass ⟨0, 0, 0, 0⟩))).getD 8 (.Pass ⟨0, 0, 0, 0⟩)))).map lamOf
theorem lam_ok : lamL.all (fun o => o.all fun L => LamX.lamSB (defScope (topS 128)) L.scope) = true := by decide +kernel
theorem lam_ls {i : Nat} {L : LamR} (h : lamL[i]? = some (some L)) : LamX.LamS (defScope (topS 128)) L.scope := LamX.lamS_by (by simpa using List.all_eq_true.mp lam_ok _ (List.mem_of_getElem? h))
set_option maxHeartbeats 4000000 in
theorem ok_rest {P : Program} {w : World} {mg : Str → Option Value} {base : Heap} {Ω : Om} (gm : Gm mg Ω.K) (c_is_name : Cd P w mg base Ω 1 "is_name" ["thing"] (ar1 f_is_name)) (c__law_is : CdG P w mg base Ω 6 "_law_is" ["found", "due"] (ar2 f__law_is)) (c_in_sequence : Cd P w mg base Ω 4 "in_sequence" ["terms"] (ar1 f_in_sequence)) (c_is_relations : Cd P w mg base Ω 4 "is_relations" ["thing"] (ar1 f_is_relations)) (c__law_draw : Cd P w mg base Ω 2 "_law_draw" ["state", "room"] (sr1 (f__law_draw Ω))) (c__law_pick : Cd P w mg base Ω 3 "_law_pick" ["state", "some"] (sr1 (f__law_pick Ω))) (c__law_near : Cd P w mg base Ω 10 "_law_near" ["state", "value"] (sr1 (f__law_near Ω 6))) (c__law_says : Cd P w mg base Ω 1 "_law_says" ["found", "is_due"] (ar2 f__law_says)) (c__law_is_name : Cd P w mg base Ω 1 "_law_is_name" ["thing"] (ar1 f__law_is_name)) (c_is_term : Cd P w mg base Ω 2 "is_term" ["thing"] (ar1 f_is_term)) (ck_is_term_thing : CdK P w mg base Ω 2 "is_term" ["thing"] ["thing"] [0] (ar1 f_is_term)) (c__law_is_term : Cd P w mg base Ω 2 "_law_is_term" ["thing"] (ar1 f__law_is_term)) (c__law_relations : Cd P w mg base Ω 4 "_law_relations" ["state"] (sr0 (f__law_relations Ω))) (c__law_is_relations : Cd P w mg base Ω 3 "_law_is_relations" ["thing"] (ar1 f__law_is_relations)) (ck_in_sequence_terms : CdK P w mg base Ω 4 "in_sequence" ["terms"] ["terms"] [0] (ar1 f_in_sequence)) (c_is_rule : CdE P w mg base Ω 6 "is_rule" ["relations", "thing"] (ar2 f_is_rule)) (c_calm : CdE P w mg base Ω 6 "calm" ["relations", "rules"] (ar2 f_calm)) (c_is_calm_paper : CdE P w mg base Ω 6 "is_calm_paper" ["relations", "rules", "thing"] (ar3 f_is_calm_paper)) (c_is_store : CdE P w mg base Ω 6 "is_store" ["relations", "thing"] (ar2 f_is_store)) (c_empty_store : CdE P w mg base Ω 6 "empty_store" ["relations"] (ar1 f_empty_store)) (c_added : CdE P w mg base Ω 6 "added" ["relations", "store", "other"] (ar3 f_added)) (c_within_store : CdE P w mg base Ω 6 "within_store" ["relations", "store", "other"] (ar3 f_within_store)) (c_answer : CdE P w mg base Ω 6 "answer" ["relations", "question", "store"] (ar3 f_answer)) (c_witnesses : CdE P w mg base Ω 6 "witnesses" ["relations", "part", "store", "row"] (ar4 f_witnesses)) (c_broken : CdE P w mg base Ω 6 "broken" ["relations", "rule", "store"] (ar3 f_broken)) (c_question_text : CdE P w mg base Ω 6 "question_text" ["relations", "question"] (ar2 f_question_text)) (c_rule_text : CdE P w mg base Ω 6 "rule_text" ["relations", "rule"] (ar2 f_rule_text)) (c_view_text : CdE P w mg base Ω 6 "view_text" ["relations", "view"] (ar2 f_view_text)) (c_store_text : CdE P w mg base Ω 6 "store_text" ["relations", "store"] (ar2 f_store_text)) (c_read_question : CdE P w mg base Ω 6 "read_question" ["relations", "text"] (ar2 f_read_question)) (c_read_rule : CdE P w mg base Ω 6 "read_rule" ["relations", "text"] (ar2 f_read_rule)) (c_read_view : CdE P w mg base Ω 6 "read_view" ["relations", "text"] (ar2 f_read_view)) (c_read_store : CdE P w mg base Ω 6 "read_store" ["relations", "text"] (ar2 f_read_store)) {f : Addr} {cdv : Value} {A : Around} {outer : List Env} {s : Shared} {H : Hp} {E : XK} {Fr0 : Fr} (hop : scLen Ω) (hA : A.guards = some []) (hr : Room 11 (A.deeper (envOfC "law" (defScope (topS 128)) s.heap.objs.size f cdv))) {CS : Addr} (gx : Gx mg Ω CS) {fC : Addr} {fdC : FuncData} (FC : Fun Ω.K "_law_caught" "_law_caught" (topS 119) fC fdC) (mC : mg "_law_caught" = some (.ref fC)) {cL pL : Addr} (TB : LamX.TabB base mg cL pL) (hcode : cdv = .ref cL) (hmT : (pL, (cxOf CX0 P w Ω.K mg base ["script", "state", "turn", "word", "value", "relations", "bad", "some", "numbers", "names", "wrong", "call", "lap", "one"] "law" (defScope (topS 128)) f cdv A outer s H E).nox.env.qual ++ "<lambda>") ∈ Ω.tb) (hu : ∀ p ∈ Ω.tb, p.1 = pL → p.2 = (cxOf CX0 P w Ω.K mg base ["script", "state", "turn", "word", "value", "relations", "bad", "some", "numbers", "names", "wrong", "call", "lap", "one"] "law" (defScope (topS 128)) f cdv A outer s H E).nox.env.qual ++ "<lambda>") (hlam : ∀ (i : Nat) (L : LamR), lamL[i]? = some (some L) → LamOm (cxOf CX0 P w Ω.K mg base ["script", "state", "turn", "word", "value", "relations", "bad", "some", "numbers", "names", "wrong", "call", "lap", "one"] "law" (defScope (topS 128)) f cdv A outer s H E).nox Ω (33 + i) L) : ∃ mb : M (Fl Unit Unit), PSs (cxOf CX0 P w Ω.K mg base ["script", "state", "turn", "word", "value", "relations", "bad", "some", "numbers", "names", "wrong", "call", "lap", "one"] "law" (defScope (topS 128)) f cdv A outer s H E).nox (defBody (topS 128)).tail (tS Ω Fr0 [.dat (.opq 0), .dat .st, .no, .no, .no, .no, .no, .no, .no, .no, .no, .no, .no, .no] mb (fun _ => List.replicate 14 .no) (fun _ => [])) ∧ Fl.fin mb = f_law Ω :=
  have scF := sc_law
  ⟨_, (pssC (β := Unit) (en := fun b2 => [.dat (.opq 0), .dat .st, .no, .no, .no, .no, .no, .no, .no, .no, .no, .no, .no, .no]) (psIf (ptCmp (dop_ne rfl hr.units) (pdLc1 (i := 3) scF.nd (blkOk_by (by rfl)) (piD (pdLst (paC pds (paC pds (paC pds (paC pds (paC pds (paC pds (paC pds (paC pds (paC pds (paC pds paN)))))))))))) (fun s H C cl fp => pgN (i := 3) scF.nd) (fun s H C cl fp v1_word => ptsN) (fun s H C cl fp v1_word => (pdC rfl c_is_name hr (by decide) (paC (pdv 3) paN)))) (pdLst (paC pdb (paC pdb (paC pdb (paC pdb (paC pdb (paC pdb (paC pdb (paC pdb (paC pdb (paC pdb paN))))))))))) (by rfl)) (pssRet pdb) (pssN (b := ()) (Wk.k (Wk.k (Wk.k (Wk.k (Wk.k (Wk.k (Wk.k (Wk.k (Wk.k (Wk.k (Wk.k (Wk.k (Wk.k (Wk.k Wk.n)))))))))))))).conv)) fun b2 => (pssC (β := Unit) (en := fun b3 => [.dat (.opq 0), .dat .st, .no, .no, .no, .no, .no, .no, .no, .no, .no, .no, .no, .no]) (psIf (pwOr (ptNot (ptv (pdCG rfl hA c__law_is hr (by decide) (paC (pdC rfl c_in_sequence hr (by decide) (paC (pdLst (paC pds (paC pdi (paC pds (paC pdi (paC pds (paC pdi (paC pdi paN)))))))) paN)) (paC (pdLst (paC pdi (paC pdi (paC pdi (paC pds (paC pds paN)))))) paN))))) (pwOr1 (ptCmp dop_isNot (pdC rfl c_is_relations hr (by decide) (paC (pdTupX (paC (pdTup (paC pds (paC pdi paN))) paN)) paN)) pdb (by rfl)))).pt (pssRet pdb) (pssN (b := ()) (Wk.k (Wk.k (Wk.k (Wk.k (Wk.k (Wk.k (Wk.k (Wk.k (Wk.k (Wk.k (Wk.k (Wk.k (Wk.k (Wk.k Wk.n)))))))))))))).conv)) fun b3 => (pssC (β := Unit) (en := fun b4 => [.dat (.opq 0), .dat .st, .no, .no, .no, .no, .no, .no, .no, .no, .no, .no, .no, .no]) (psFor1 (β := Unit) (enb := fun b4 => [.dat (.opq 0), .dat .st, .no, .no, .no, .no, .no, .no, .no, .no, .no, .no, .no, .no]) (b0 := ()) (i := 2) PassesOwn.never scF.nd (piR1 gm.z_range (paC (pdAdd pdi (pdB (dc_min2 rfl) gm.z_min (by decide +kernel) (paC (pdLenS (i := 0) hop rfl gm.z_len) (paC pdi paN)))) paN)) (fun b4 v5_turn => (pssSet (i := 3) scF.nd (pdJoin pds (paC (pdLc1 (i := 12) scF.nd (blkOk_by (by rfl)) (piR1 gm.z_range (paC (pdC rfl c__law_draw hr (by decide) (paC (pdv 1) (paC pdi paN))) paN)) (fun s H C cl fp => pgN (i := 12) scF.nd) (fun s H C cl fp v7_lap => ptsN) (fun s H C cl fp v7_lap => (pdC rfl c__law_pick hr (by decide) (paC (pdv 1) (paC pds paN))))) paN)) fun v6_word => (pssC (β := Unit) (en := fun b8 => [.dat (.opq 0), .dat .st, .dat v5_turn, .dat v6_word, .no, .no, .no, .no, .no, .no, .no, .no, .no, .no]) (psFor1 (β := Unit) (enb := fun b8 => [.dat (.opq 0), .dat .st, .dat v5_turn, .dat v6_word, .no, .no, .no, .no, .no, .no, .no, .no, .no, .no]) (b0 := ()) (i := 4) PassesOwn.never scF.nd (piD (pdLst (paC (pdv 3) (paC (pdC rfl c__law_pick hr (by decide) (paC (pdv 1) (paC (pdLst (paC pds (paC pds (paC pds (paC pds (paC pds (paC pds paN))))))) paN))) (paC (pdC rfl c__law_near hr (by decide) (paC (pdv 1) (paC (pdv 3) paN))) (paC (pdSub (pdC rfl c__law_draw hr (by decide) (paC (pdv 1) (paC pdi paN))) pdi) (paC pdb (paC pdn paN)))))))) (fun b8 v9_value => (pssOne (psIf (pwOr (ptNot (ptv (pdC rfl c__law_says hr (by decide) (paC (pdC rfl c_is_name hr (by decide) (paC (pdv 4) paN)) (paC (pdC rfl c__law_is_name hr (by decide) (paC (pdv 4) paN)) paN))))) (pwOr1 (ptNot (ptv (pdC rfl c__law_says hr (by decide) (paC (pdCK rfl ck_is_term_thing hr (by decide) (pkC (pdv 4) pkN)) (paC (pdC rfl c__law_is_term hr (by decide) (paC (pdv 4) paN)) paN))))))).pt (pssRet pdb) (pssN (b := ()) (Wk.k (Wk.k (Wk.k (Wk.k (Wk.d (Wk.k (Wk.k (Wk.k (Wk.k (Wk.k (Wk.k (Wk.k (Wk.k (Wk.k Wk.n)))))))))))))).conv)))) (Wk.k (Wk.k (Wk.k (Wk.k (Wk.k (Wk.k (Wk.k (Wk.k (Wk.k (Wk.k (Wk.k (Wk.k (Wk.k (Wk.k Wk.n)))))))))))))).conv) fun b8 => (pssAsg2 (i := 5) (j := 6) scF.nd rfl (pdTup (paC (pdC rfl c__law_relations hr (by decide) (paC (pdv 1) paN)) (paC (pdLst paN) paN))) fun v10_relations v11_bad => (pssC (β := D) (en := fun b13 => [.dat (.opq 0), .dat .st, .dat v5_turn, .dat v6_word, .no, .dat v10_relations, .dat b13, .no, .no, .no, .no, .no, .no, .no]) (psFor1 (β := D) (enb := fun b13 => [.dat (.opq 0), .dat .st, .dat v5_turn, .dat v6_word, .no, .dat v10_relations, .dat b13, .no, .no, .no, .no, .no, .no, .no]) (b0 := v11_bad) (i := 4) PassesOwn.never scF.nd (piD (pdAdd (pdLst (paC (pdv 5) (paC (pdRev (pdv 5)) (paC (pdMul (pdv 5) pdi) paN)))) (pdLc1 (i := 12) scF.nd (blkOk_by (by rfl)) (piR1 gm.z_range (paC pdi paN)) (fun s H C cl fp => pgN (i := 12) scF.nd) (fun s H C cl fp v12_lap => ptsN) (fun s H C cl fp v12_lap => (pdC rfl c__law_near hr (by decide) (paC (pdv 1) (paC (pdv 5) paN))))))) (fun b13 v14_value => (pssC (β := Unit) (en := fun b15 => [.dat (.opq 0), .dat .st, .dat v5_turn, .dat v6_word, .dat v14_value, .dat v10_relations, .dat b13, .no, .no, .no, .no, .no, .no, .no]) (psIf (ptNot (ptv (pdC rfl c__law_says hr (by decide) (paC (pdC rfl c_is_relations hr (by decide) (paC (pdv 4) paN)) (paC (pdC rfl c__law_is_relations hr (by decide) (paC (pdv 4) paN)) paN))))) (pssRet pdb) (pssN (b := ()) (Wk.k (Wk.k (Wk.k (Wk.k (Wk.k (Wk.k (Wk.k (Wk.k (Wk.k (Wk.k (Wk.k (Wk.k (Wk.k (Wk.k Wk.n)))))))))))))).conv)) fun b15 => (pssSet (i := 6) scF.nd (pdAdd (pdv 6) (pdIf (ptv (pdC rfl c__law_is_relations hr (by decide) (paC (pdv 4) paN))) (pdLst paN) (pdLst (paC (pdv 4) paN)))) fun v16_bad => (pssN (b := v16_bad) (Wk.k (Wk.k (Wk.k (Wk.k (Wk.d (Wk.k (Wk.k (Wk.k (Wk.k (Wk.k (Wk.k (Wk.k (Wk.k (Wk.k Wk.n)))))))))))))).conv)))) (Wk.k (Wk.k (Wk.k (Wk.k (Wk.k (Wk.k (Wk.k (Wk.k (Wk.k (Wk.k (Wk.k (Wk.k (Wk.k (Wk.k Wk.n)))))))))))))).conv) fun b13 => (pssSet (i := 7) scF.nd (pdLc1 (i := 12) scF.nd (blkOk_by (by rfl)) (piR1 gm.z_range (paC (pdC rfl c__law_draw hr (by decide) (paC (pdv 1) (paC pdi paN))) paN)) (fun s H C cl fp => pgN (i := 12) scF.nd) (fun s H C cl fp v18_lap => ptsN) (fun s H C cl fp v18_lap => (pdC rfl c__law_pick hr (by decide) (paC (pdv 1) (paC (pdLst (paC (pdC rfl c__law_draw hr (by decide) (paC (pdv 1) (paC pdi paN))) (paC (pdC rfl c__law_pick hr (by decide) (paC (pdv 1) (paC (pdLst (paC pds (paC pds (paC pds (paC pds paN))))) paN))) paN))) paN))))) fun v17_some => (pssSwap2 (i := 8) (j := 9) scF.nd rfl (pdLc1 (i := 13) scF.nd (blkOk_by (by rfl)) (piR1 gm.z_range (paC pdi paN)) (fun s H C cl fp => pgN (i := 13) scF.nd) (fun s H C cl fp v21_one => (ptsO (ptCmp (dop_in rfl (hu65 hr)) (pdv 13) (pdv 7) (by rfl)))) (fun s H C cl fp v21_one => (pdv 13))) (pdLc1 (i := 13) scF.nd (blkOk_by (by rfl)) (piD (pdLst (paC pds (paC pds (paC pds (paC pds paN)))))) (fun s H C cl fp => pgN (i := 13) scF.nd) (fun s H C cl fp v22_one => (ptsO (ptCmp (dop_in rfl (hu65 hr)) (pdv 13) (pdv 7) (by rfl)))) (fun s H C cl fp v22_one => (pdv 13))) fun v19_numbers v20_names => (pssC (β := Unit) (en := fun b23 => [.dat (.opq 0), .dat .st, .dat v5_turn, .dat v6_word, .no, .dat v10_relations, .dat b13, .dat v17_some, .dat v19_numbers, .dat v20_names, .no, .no, .no, .no]) (psIf (ptNot (ptv (pdCG rfl hA c__law_is hr (by decide) (paC (pdCK rfl ck_in_sequence_terms hr (by decide) (pkC (pdv 7) pkN)) (paC (pdAdd (pdv 8) (pdv 9)) paN))))) (pssRet pdb) (pssN (b := ()) (Wk.k (Wk.k (Wk.k (Wk.k (Wk.k (Wk.k (Wk.k (Wk.k (Wk.k (Wk.k (Wk.k (Wk.k (Wk.k (Wk.k Wk.n)))))))))))))).conv)) fun b23 => (pssSet (i := 10) scF.nd (pdC rfl c__law_pick hr (by decide) (paC (pdv 1) (paC (pdAdd (pdv 6) (pdLst (paC pdn (paC (pdTup paN) (paC pds (paC (pdTup (paC (pdTup (paC pds (paC pdi paN))) paN)) (paC (pdTup (paC (pdTup (paC pds (paC pdi paN))) paN)) (paC (pdLst (paC (pdTup (paC pds (paC pdi paN))) paN)) paN)))))))) paN))) fun v24_wrong => (pssC (β := Unit) (en := fun b25 => [.dat (.opq 0), .dat .st, .dat v5_turn, .dat v6_word, .no, .dat v10_relations, .dat b13, .dat v17_some, .dat v19_numbers, .dat v20_names, .dat v24_wrong, .no, .no, .no]) (psFor1 (β := Unit) (enb := fun b25 => [.dat (.opq 0), .dat .st, .dat v5_turn, .dat v6_word, .no, .dat v10_relations, .dat b13, .dat v17_some, .dat v19_numbers, .dat v20_names, .dat v24_wrong, .no, .no, .no]) (b0 := ()) (i := 11) PassesOwn.never scF.nd (piD (pdLst (paC (pdLam (n := 33) (L := ⟨_, _, _⟩) (hlam 0 _ rfl) TB hcode hmT hu (lam_ls (i := 0) rfl)) (paC (pdLam (n := 34) (L := ⟨_, _, _⟩) (hlam 1 _ rfl) TB hcode hmT hu (lam_ls (i := 1) rfl)) (paC (pdLam (n := 35) (L := ⟨_, _, _⟩) (hlam 2 _ rfl) TB hcode hmT hu (lam_ls (i := 2) rfl)) (paC (pdLam (n := 36) (L := ⟨_, _, _⟩) (hlam 3 _ rfl) TB hcode hmT hu (lam_ls (i := 3) rfl)) (paC (pdLam (n := 37) (L := ⟨_, _, _⟩) (hlam 4 _ rfl) TB hcode hmT hu (lam_ls (i := 4) rfl)) (paC (pdLam (n := 38) (L := ⟨_, _, _⟩) (hlam 5 _ rfl) TB hcode hmT hu (lam_ls (i := 5) rfl)) (paC (pdLam (n := 39) (L := ⟨_, _, _⟩) (hlam 6 _ rfl) TB hcode hmT hu (lam_ls (i := 6) rfl)) (paC (pdLam (n := 40) (L := ⟨_, _, _⟩) (hlam 7 _ rfl) TB hcode hmT hu (lam_ls (i := 7) rfl)) (paC (pdLam (n := 41) (L := ⟨_, _, _⟩) (hlam 8 _ rfl) TB hcode hmT hu (lam_ls (i := 8) rfl)) (paC (pdLam (n := 42) (L := ⟨_, _, _⟩) (hlam 9 _ rfl) TB hcode hmT hu (lam_ls (i := 9) rfl)) (paC (pdLam (n := 43) (L := ⟨_, _, _⟩) (hlam 10 _ rfl) TB hcode hmT hu (lam_ls (i := 10) rfl)) (paC (pdLam (n := 44) (L := ⟨_, _, _⟩) (hlam 11 _ rfl) TB hcode hmT hu (lam_ls (i := 11) rfl)) (paC (pdLam (n := 45) (L := ⟨_, _, _⟩) (hlam 12 _ rfl) TB hcode hmT hu (lam_ls (i := 12) rfl)) (paC (pdLam (n := 46) (L := ⟨_, _, _⟩) (hlam 13 _ rfl) TB hcode hmT hu (lam_ls (i := 13) rfl)) (paC (pdLam (n := 47) (L := ⟨_, _, _⟩) (hlam 14 _ rfl) TB hcode hmT hu (lam_ls (i := 14) rfl)) (paC (pdLam (n := 48) (L := ⟨_, _, _⟩) (hlam 15 _ rfl) TB hcode hmT hu (lam_ls (i := 15) rfl)) (paC (pdLam (n := 49) (L := ⟨_, _, _⟩) (hlam 16 _ rfl) TB hcode hmT hu (lam_ls (i := 16) rfl)) (paC (pdLam (n := 50) (L := ⟨_, _, _⟩) (hlam 17 _ rfl) TB hcode hmT hu (lam_ls (i := 17) rfl)) paN)))))))))))))))))))) (fun b25 v26_call => (pssOne (psIf (ptNot (ptv (pdIsX rfl gx.i_NoRelations.choose_spec.2 (pdActF (k := 6) (ms := [(opC (pure v24_wrong) (opC (pure .non) (pure []))) >>= fun ds => (ar2 f_is_rule) ds, (opC (pure v24_wrong) (opC (pure .non) (pure []))) >>= fun ds => (ar2 f_calm) ds, (opC (pure v24_wrong) (opC (pure .non) (opC (pure .non) (pure [])))) >>= fun ds => (ar3 f_is_calm_paper) ds, (opC (pure v24_wrong) (opC (pure .non) (pure []))) >>= fun ds => (ar2 f_is_store) ds, (opC (pure v24_wrong) (pure [])) >>= fun ds => (ar1 f_empty_store) ds, (opC (pure v24_wrong) (opC (pure .non) (opC (pure .non) (pure [])))) >>= fun ds => (ar3 f_added) ds, (opC (pure v24_wrong) (opC (pure .non) (opC (pure .non) (pure [])))) >>= fun ds => (ar3 f_within_store) ds, (opC (pure v24_wrong) (opC (pure .non) (opC (pure .non) (pure [])))) >>= fun ds => (ar3 f_answer) ds, (opC (pure v24_wrong) (opC (pure .non) (opC (pure .non) (opC (pure .non) (pure []))))) >>= fun ds => (ar4 f_witnesses) ds, (opC (pure v24_wrong) (opC (pure .non) (opC (pure .non) (pure [])))) >>= fun ds => (ar3 f_broken) ds, (opC (pure v24_wrong) (opC (pure .non) (pure []))) >>= fun ds => (ar2 f_question_text) ds, (opC (pure v24_wrong) (opC (pure .non) (pure []))) >>= fun ds => (ar2 f_rule_text) ds, (opC (pure v24_wrong) (opC (pure .non) (pure []))) >>= fun ds => (ar2 f_view_text) ds, (opC (pure v24_wrong) (opC (pure .non) (pure []))) >>= fun ds => (ar2 f_store_text) ds, (opC (pure v24_wrong) (opC (pure .non) (pure []))) >>= fun ds => (ar2 f_read_question) ds, (opC (pure v24_wrong) (opC (pure .non) (pure []))) >>= fun ds => (ar2 f_read_rule) ds, (opC (pure v24_wrong) (opC (pure .non) (pure []))) >>= fun ds => (ar2 f_read_view) ds, (opC (pure v24_wrong) (opC (pure .non) (pure []))) >>= fun ds => (ar2 f_read_store) ds]) rfl gx.ex FC mC sc_caught (FC.binds (ps := ["action"]) fun _ _ _ _ _ _ us hl => match us, hl with | [_], _ => rfl) (fun cdv L => caught_gives (by decide) rfl gx.v rfl rfl rfl rfl rfl rfl rfl) hr (by decide) (LamTs.cons ⟨hlam 0 _ rfl, lam_ls (i := 0) rfl, fun _ _ _ _ _ => rfl, fun A outer s H G0 H0 E f c1 hr => (pdCE rfl takes_lam c_is_rule hr (by decide) (paC (pdv 10) (paC pdn paN)))⟩ (LamTs.cons ⟨hlam 1 _ rfl, lam_ls (i := 1) rfl, fun _ _ _ _ _ => rfl, fun A outer s H G0 H0 E f c1 hr => (pdCE rfl takes_lam c_calm hr (by decide) (paC (pdv 10) (paC pdn paN)))⟩ (LamTs.cons ⟨hlam 2 _ rfl, lam_ls (i := 2) rfl, fun _ _ _ _ _ => rfl, fun A outer s H G0 H0 E f c1 hr => (pdCE rfl takes_lam c_is_calm_paper hr (by decide) (paC (pdv 10) (paC pdn (paC pdn paN))))⟩ (LamTs.cons ⟨hlam 3 _ rfl, lam_ls (i := 3) rfl, fun _ _ _ _ _ => rfl, fun A outer s H G0 H0 E f c1 hr => (pdCE rfl takes_lam c_is_store hr (by decide) (paC (pdv 10) (paC pdn paN)))⟩ (LamTs.cons ⟨hlam 4 _ rfl, lam_ls (i := 4) rfl, fun _ _ _ _ _ => rfl, fun A outer s H G0 H0 E f c1 hr => (pdCE rfl takes_lam c_empty_store hr (by decide) (paC (pdv 10) paN))⟩ (LamTs.cons ⟨hlam 5 _ rfl, lam_ls (i := 5) rfl, fun _ _ _ _ _ => rfl, fun A outer s H G0 H0 E f c1 hr => (pdCE rfl takes_lam c_added hr (by decide) (paC (pdv 10) (paC pdn (paC pdn paN))))⟩ (LamTs.cons ⟨hlam 6 _ rfl, lam_ls (i := 6) rfl, fun _ _ _ _ _ => rfl, fun A outer s H G0 H0 E f c1 hr => (pdCE rfl takes_lam c_within_store hr (by decide) (paC (pdv 10) (paC pdn (paC pdn paN))))⟩ (LamTs.cons ⟨hlam 7 _ rfl, lam_ls (i := 7) rfl, fun _ _ _ _ _ => rfl, fun A outer s H G0 H0 E f c1 hr => (pdCE rfl takes_lam c_answer hr (by decide) (paC (pdv 10) (paC pdn (paC pdn paN))))⟩ (LamTs.cons ⟨hlam 8 _ rfl, lam_ls (i := 8) rfl, fun _ _ _ _ _ => rfl, fun A outer s H G0 H0 E f c1 hr => (pdCE rfl takes_lam c_witnesses hr (by decide) (paC (pdv 10) (paC pdn (paC pdn (paC pdn paN)))))⟩ (LamTs.cons ⟨hlam 9 _ rfl, lam_ls (i := 9) rfl, fun _ _ _ _ _ => rfl, fun A outer s H G0 H0 E f c1 hr => (pdCE rfl takes_lam c_broken hr (by decide) (paC (pdv 10) (paC pdn (paC pdn paN))))⟩ (LamTs.cons ⟨hlam 10 _ rfl, lam_ls (i := 10) rfl, fun _ _ _ _ _ => rfl, fun A outer s H G0 H0 E f c1 hr => (pdCE rfl takes_lam c_question_text hr (by decide) (paC (pdv 10) (paC pdn paN)))⟩ (LamTs.cons ⟨hlam 11 _ rfl, lam_ls (i := 11) rfl, fun _ _ _ _ _ => rfl, fun A outer s H G0 H0 E f c1 hr => (pdCE rfl takes_lam c_rule_text hr (by decide) (paC (pdv 10) (paC pdn paN)))⟩ (LamTs.cons ⟨hlam 12 _ rfl, lam_ls (i := 12) rfl, fun _ _ _ _ _ => rfl, fun A outer s H G0 H0 E f c1 hr => (pdCE rfl takes_lam c_view_text hr (by decide) (paC (pdv 10) (paC pdn paN)))⟩ (LamTs.cons ⟨hlam 13 _ rfl, lam_ls (i := 13) rfl, fun _ _ _ _ _ => rfl, fun A outer s H G0 H0 E f c1 hr => (pdCE rfl takes_lam c_store_text hr (by decide) (paC (pdv 10) (paC pdn paN)))⟩ (LamTs.cons ⟨hlam 14 _ rfl, lam_ls (i := 14) rfl, fun _ _ _ _ _ => rfl, fun A outer s H G0 H0 E f c1 hr => (pdCE rfl takes_lam c_read_question hr (by decide) (paC (pdv 10) (paC pdn paN)))⟩ (LamTs.cons ⟨hlam 15 _ rfl, lam_ls (i := 15) rfl, fun _ _ _ _ _ => rfl, fun A outer s H G0 H0 E f c1 hr => (pdCE rfl takes_lam c_read_rule hr (by decide) (paC (pdv 10) (paC pdn paN)))⟩ (LamTs.cons ⟨hlam 16 _ rfl, lam_ls (i := 16) rfl, fun _ _ _ _ _ => rfl, fun A outer s H G0 H0 E f c1 hr => (pdCE rfl takes_lam c_read_view hr (by decide) (paC (pdv 10) (paC pdn paN)))⟩ (LamTs.cons ⟨hlam 17 _ rfl, lam_ls (i := 17) rfl, fun _ _ _ _ _ => rfl, fun A outer s H G0 H0 E f c1 hr => (pdCE rfl takes_lam c_read_store hr (by decide) (paC (pdv 10) (paC pdn paN)))⟩ LamTs.nil)))))))))))))))))) (pdv 11)) gm.z_isinstance gx.i_NoRelations.choose_spec.1))) (pssRet pdb) (pssN (b := ()) (Wk.k (Wk.k (Wk.k (Wk.k (Wk.k (Wk.k (Wk.k (Wk.k (Wk.k (Wk.k (Wk.k (Wk.d (Wk.k (Wk.k Wk.n)))))))))))))).conv)))) (Wk.k (Wk.k (Wk.k (Wk.k (Wk.k (Wk.k (Wk.k (Wk.k (Wk.k (Wk.k (Wk.k (Wk.k (Wk.k (Wk.k Wk.n)))))))))))))).conv) fun b25 => (pssN (b := ()) (Wk.k (Wk.k (Wk.d (Wk.d (Wk.k (Wk.d (Wk.d (Wk.d (Wk.d (Wk.d (Wk.d (Wk.k (Wk.k (Wk.k Wk.n)))))))))))))).conv))))))))))) (Wk.k (Wk.k (Wk.k (Wk.k (Wk.k (Wk.k (Wk.k (Wk.k (Wk.k (Wk.k (Wk.k (Wk.k (Wk.k (Wk.k Wk.n)))))))))))))).conv) fun b4 => (pssRet pdb)))), rfl⟩
theorem kw_is_term_thing {P : Program} {w : World} {mg : Str → Option Value} {base : Heap} {Ω : Om} {f : Addr} {fd : FuncData} (Fn : Fun Ω.K "is_term" "is_term" (topS 17) f fd) (hm : mg "is_term" = some (.ref f)) {k : Nat} {m : List D → M D} (c : Cd P w mg base Ω k "is_term" ["thing"] m) : CdK P w mg base Ω k "is_term" ["thing"] ["thing"] [0] m := by
  obtain ⟨f2, fd2, G, hm2, kp2, b2, lk2⟩ := c.ex
  obtain rfl : f = f2 := by rw [hm] at hm2; cases hm2; rfl
  have e := lk_one (fun_lk Fn) lk2
  subst e
  obtain ⟨oc, od, kV, doc, pm, an, cdv, ct, osl, rfl, lk, hcd⟩ := Fn.ex
  refine ⟨⟨f, _, G, hm, kp2, ⟨fun s us ws _ hl => ?_, fun r rz => kp_vals (by decide) r rz⟩⟩, c.ar, by decide⟩
  match us, ws, hl with
  | [], [z0], _ => exact .of_eq rfl
theorem kw_in_sequence_terms {P : Program} {w : World} {mg : Str → Option Value} {base : Heap} {Ω : Om} {f : Addr} {fd : FuncData} (Fn : Fun Ω.K "in_sequence" "in_sequence" (topS 24) f fd) (hm : mg "in_sequence" = some (.ref f)) {k : Nat} {m : List D → M D} (c : Cd P w mg base Ω k "in_sequence" ["terms"] m) : CdK P w mg base Ω k "in_sequence" ["terms"] ["terms"] [0] m := by
  obtain ⟨f2, fd2, G, hm2, kp2, b2, lk2⟩ := c.ex
  obtain rfl : f = f2 := by rw [hm] at hm2; cases hm2; rfl
  have e := lk_one (fun_lk Fn) lk2
  subst e
  obtain ⟨oc, od, kV, doc, pm, an, cdv, ct, osl, rfl, lk, hcd⟩ := Fn.ex
  refine ⟨⟨f, _, G, hm, kp2, ⟨fun s us ws _ hl => ?_, fun r rz => kp_vals (by decide) r rz⟩⟩, c.ar, by decide⟩
  match us, ws, hl with
  | [], [z0], _ => exact .of_eq rfl
end K1
set_option Elab.async false
set_option linter.all false
set_option maxRecDepth 100000
set_option autoImplicit false
namespace K1
open PySem PySem.Spec PyProof.Rows L2 DL
def ab (i : Int) : Int := if i < 0 then -i else i
def greatOf : List Int → List Int
  | [] => []
  | n :: ns => if 10 ^ 18 ≤ ab n then (ab n - 10 ^ 18) :: greatOf ns else greatOf ns
theorem greatOf_snoc : ∀ (ns : List Int) (n : Int), greatOf (ns ++ [n]) = if 10 ^ 18 ≤ ab n then greatOf ns ++ [ab n - 10 ^ 18] else greatOf ns
  | [], n => by simp only [List.nil_append, greatOf]
  | m :: ns, n => by
    simp only [List.cons_append, greatOf, greatOf_snoc ns n]
    split <;> split <;> rfl
theorem greatOf_len : ∀ ns : List Int, (greatOf ns).length ≤ ns.length
  | [] => Nat.le_refl _
  | n :: ns => by
    have := greatOf_len ns
    unfold greatOf
    split
    · simp only [List.length_cons]; omega
    · simp only [List.length_cons]; omega
def spBegun (K : PySem.W.Frag) : Sp := fun vs H Q _ => ∃ (a : Addr) (ns : List Int), vs = [.ref a] ∧ SqL K H a (ns.map V.int) ∧ ns.length ≤ 63 ∧ ∀ H' p g c, Same H H' → H p = none → H g = none → H c = none → g ≠ c →
  H' p = some (.dK [(.inr "great", .ref g), (.inr "cells", .ref c), (.inr "rest", .int 0), (.inr "turn", .int 0)]) → H' g = some (.lst ((greatOf ns).map V.int)) → H' c = some (.lst ((ns.map ab).map V.int)) → Q (.ref p) H'
theorem sc_begun : FnScope ["script", "great", "cell"] ["script"] (defScope (topS 113)) := ⟨rfl, rfl, rfl, by decide +kernel, rfl, by decide +kernel, by decide +kernel⟩
set_option maxHeartbeats 4000000 in
theorem ok_begun {P : Program} {w : World} {K : PySem.W.Frag} {mg : Str → Option Value} {base : Heap} (za : mg "abs" = none) {f : Addr} {fd : FuncData} (Fn : Fun K "_law_begun" "_law_begun" (topS 113) f fd) : FnOk P w K mg base CX0 1 f fd ["script"] (spBegun K) := by
  refine Fn.ok sc_begun (fun vs H Q E h => ?_) (fun cdv A outer s H vs Q E hr h => ?_)
  · obtain ⟨a, ns, rfl, _⟩ := h
    rfl
  · obtain ⟨a, ns, rfl, hS, hlen, q⟩ := h
    refine ⟨_, pss_cons (ps_setLc (i := 1) (own := [("cell", 2)]) rfl sc_begun.nd rfl rfl rfl (pi_list (pv 0)) (blkOk_by (by rfl)) (fun _ _ _ _ _ => pg_name (i := 2) sc_begun.nd rfl (.inl rfl))
        (fun _ _ _ _ _ => pts_one (pt_cmpR op_ge (pe_callB call_abs (by rfl) za (by decide +kernel) (pa_cons (pv 2) pa_nil)) (pe_op op_pow pe_int pe_int) (by rfl)))
        (fun _ _ _ _ _ => pe_op op_sub (pe_callB call_abs (by rfl) za (by decide +kernel) (pa_cons (pv 2) pa_nil)) (pe_op op_pow pe_int pe_int)))
      (pss_one (ps_ret (pe_disp (pps_cons pe_str (pv 1) (pps_cons pe_str (pe_lc (own := [("cell", 2)]) rfl sc_begun.nd (pi_list (pv 0)) (blkOk_by (by rfl)) (fun _ _ _ _ _ => pg_name (i := 2) sc_begun.nd rfl (.inl rfl)) (fun _ _ _ _ _ => pts_nil)
        (fun _ _ _ _ _ => pe_callB call_abs (by rfl) za (by decide +kernel) (pa_cons (pv 2) pa_nil))) (pps_cons pe_str pe_int (pps_cons pe_str pe_int pps_nil)))) rfl rfl (by decide) (by decide)))), ?_⟩
    have sl : ns.length < sizeLine := Nat.lt_of_le_of_lt hlen (by decide)
    refine ⟨.ref a, rfl, a, rfl, ⟨_, hS⟩, fun g hg => ?_⟩
    have ag : a ≠ g → True := fun _ => trivial
    refine lc_list (a := a) (xs := ns.map V.int) (fun i H' => H' = upd H g (.lst ((greatOf (ns.take i)).map V.int))) rfl (fun i H' _ e => by subst e; exact (same_upd hg).seq hS) (fun i x H' hx e => ?_) (fun H' e => ?_)
    · subst e
      rw [List.getElem?_map, Option.map_eq_some_iff] at hx
      obtain ⟨n, hn, rfl⟩ := hx
      have et : ns.take (i + 1) = ns.take i ++ [n] := by rw [List.take_add_one, hn]; rfl
      refine ⟨rfl, .int n, rfl, n, rfl, _, _, rfl, rfl, ⟨by decide, by decide, by decide⟩, ab n, 10 ^ 18, rfl, rfl, decide (10 ^ 18 ≤ ab n), rfl, ?_⟩
      rw [et, greatOf_snoc]
      by_cases hge : 10 ^ 18 ≤ ab n
      · rw [decide_eq_true hge]
        refine iteT ?_
        rw [if_pos hge]
        refine ⟨.int n, rfl, n, rfl, _, _, rfl, rfl, ⟨by decide, by decide, by decide⟩, ab n, 10 ^ 18, rfl, rfl, _, upd_same, ?_, ?_⟩
        · have := greatOf_len (ns.take i)
          rw [List.length_map]
          have := List.length_take_le i ns
          have h2 : (ns.take i).length ≤ ns.length := by rw [List.length_take]; omega
          omega
        · rw [upd_upd, List.map_append]; rfl
      · rw [decide_eq_false hge]
        refine iteF ?_
        rw [if_neg hge]
    · subst e
      rw [List.length_map, List.take_length]
      have s1 : Same H (upd H g (.lst ((greatOf ns).map V.int))) := same_upd hg
      generalize hH1 : upd H g (.lst ((greatOf ns).map V.int)) = H1 at s1 ⊢
      have eg : H1 g = some (.lst ((greatOf ns).map V.int)) := by rw [← hH1]; exact upd_same
      intro p hp
      have s2 : Same H1 (upd H1 p (.dK [])) := same_upd hp
      refine ⟨.ref g, rfl, .ref a, rfl, a, rfl, ⟨_, s2.seq (s1.seq hS)⟩, fun c hc => ?_⟩
      have pc : p ≠ c := fun e => by rw [e, upd_same] at hc; cases hc
      have s3 : ∀ o, Same (upd H1 p (.dK [])) (upd (upd H1 p (.dK [])) c o) := fun o => same_upd hc
      refine lc_list (a := a) (xs := ns.map V.int) (fun i H' => H' = upd (upd H1 p (.dK [])) c (.lst (((ns.take i).map ab).map V.int))) rfl (fun i H' _ e => by subst e; exact (s3 _).seq (s2.seq (s1.seq hS))) (fun i x H' hx e => ?_) (fun H' e => ?_)
      · subst e
        rw [List.getElem?_map, Option.map_eq_some_iff] at hx
        obtain ⟨n, hn, rfl⟩ := hx
        have et : ns.take (i + 1) = ns.take i ++ [n] := by rw [List.take_add_one, hn]; rfl
        refine ⟨rfl, ?_⟩
        refine ⟨.int n, rfl, n, rfl, _, upd_same, ?_, ?_⟩
        · have h2 : (ns.take i).length ≤ ns.length := by rw [List.length_take]; omega
          rw [List.length_map, List.length_map]
          omega
        · rw [upd_upd, et, List.map_append, List.map_append]; rfl
      · subst e
        rw [List.length_map, List.take_length]
        generalize hH2 : upd (upd H1 p (.dK [])) c (.lst ((ns.map ab).map V.int)) = H2
        have s4 : Same (upd H1 p (.dK [])) H2 := by rw [← hH2]; exact s3 _
        have ep : H2 p = some (.dK []) := s4 _ _ upd_same
        have ec : H2 c = some (.lst ((ns.map ab).map V.int)) := by rw [← hH2]; exact upd_same
        have eg2 : H2 g = some (.lst ((greatOf ns).map V.int)) := s4 _ _ (s2 _ _ eg)
        have pg : g ≠ p := fun e => by rw [e, ep] at eg2; cases eg2
        refine ⟨ep, [(.inr "great", .ref g), (.inr "cells", .ref c), (.inr "rest", .int 0), (.inr "turn", .int 0)], rfl, (by show 4 ≤ 15; decide), ?_⟩
        have hc0 : H c = none := by
          cases e0 : H c with
          | none => rfl
          | some o => rw [s2 _ _ (s1 _ _ e0)] at hc; cases hc
        refine q _ p g c (fun b o e0 => ?_) (s1.free hp) hg hc0 (fun e0 => by rw [← e0, s2 _ _ eg] at hc; cases hc) upd_same ?_ ?_
        · have np : b ≠ p := fun z => by subst z; rw [s1 _ _ e0] at hp; cases hp
          rw [upd_ne np]
          exact s4 _ _ (s2 _ _ (s1 _ _ e0))
        · rw [upd_ne pg]; exact eg2
        · rw [upd_ne (Ne.symm pc)]; exact ec
end K1
set_option linter.all false
set_option maxRecDepth 100000
set_option autoImplicit false
/-! P1: plain laws of the computations. -/
namespace DL
open PySem PySem.Spec PyProof.Rows L2
section
variable {α β : Type}
@[simp] theorem op2_pp (g : D → D → M D) (x y : D) : op2 g (pure x) (pure y) = g x y := rfl
@[simp] theorem op1_p (g : D → M D) (x : D) : op1 g (pure x) = g x := rfl
@[simp] theorem opC_pp (x : D) (xs : List D) : opC (pure x) (pure xs) = pure (x :: xs) := rfl
@[simp] theorem opSl_ppp (x : D) (a b : Option Int) : opSl (pure x) (pure a) (pure b) = dCut x a b := rfl
@[simp] theorem asB_bl (b : Bool) : asB (.bl b) = pure b := rfl
@[simp] theorem asI_int (b : Int) : asI (.int b) = pure (some b) := rfl
@[simp] theorem asS_str (b : Str) : asS (.str b) = pure b := rfl
@[simp] theorem ar1_one (g : D → M D) (x : D) : ar1 g [x] = g x := rfl
@[simp] theorem ar2_two (g : D → D → M D) (x y : D) : ar2 g [x, y] = g x y := rfl
@[simp] theorem ar3_three (g : D → D → D → M D) (x y z : D) : ar3 g [x, y, z] = g x y z := rfl
@[simp] theorem sr0_one (g : M D) : sr0 g [.st] = g := rfl
@[simp] theorem sr1_one (g : D → M D) (x : D) : sr1 g [.st, x] = g x := rfl
@[simp] theorem sr2_one (g : D → D → M D) (x y : D) : sr2 g [.st, x, y] = g x y := rfl
@[simp] theorem sr3_one (g : D → D → D → M D) (x y z : D) : sr3 g [.st, x, y, z] = g x y z := rfl
@[simp] theorem sr4_one (g : D → D → D → D → M D) (x y z u : D) : sr4 g [.st, x, y, z, u] = g x y z u := rfl
@[simp] theorem dAnd_p (b : Bool) (m : M D) : dAnd (pure (.bl b)) m = if b = true then m else pure (.bl false) := by cases b <;> rfl
@[simp] theorem dOr_p (b : Bool) (m : M D) : dOr (pure (.bl b)) m = if b = true then pure (.bl true) else m := by cases b <;> rfl
@[simp] theorem dNot_bl (b : Bool) : dNot (.bl b) = pure (.bl (!b)) := rfl
@[simp] theorem un2_t (k : D → D → M α) (t : Bool) (x y : D) : un2 k (.tup t [x, y]) = k x y := rfl
@[simp] theorem dIter_l (xs : List D) : dIter (.lst xs) = pure xs := rfl
@[simp] theorem dIter_t (t : Bool) (xs : List D) : dIter (.tup t xs) = pure xs := rfl
@[simp] theorem dIter_s (z : Str) : dIter (.str z) = pure (signsD z) := rfl
@[simp] theorem dEnum_l (xs : List D) : dEnum [.lst xs] = pure (enumD 0 xs) := rfl
@[simp] theorem dEnum_t (t : Bool) (xs : List D) : dEnum [.tup t xs] = pure (enumD 0 xs) := rfl
@[simp] theorem dLen_l (xs : List D) : dLen (.lst xs) = pure (.int xs.length) := rfl
@[simp] theorem dLen_t (t : Bool) (xs : List D) : dLen (.tup t xs) = pure (.int xs.length) := rfl
@[simp] theorem dTuple_l (xs : List D) : dTuple (.lst xs) = pure (.tup false xs) := rfl
@[simp] theorem dTupleX_l (xs : List D) : dTupleX (.lst xs) = pure (.tup true xs) := rfl
@[simp] theorem dList_t (t : Bool) (xs : List D) : dList (.tup t xs) = pure (.lst xs) := rfl
@[simp] theorem dList_l (xs : List D) : dList (.lst xs) = pure (.lst xs) := rfl
@[simp] theorem dInt_i (i : Int) : dInt (.int i) = pure (.int i) := rfl
@[simp] theorem dAdd_ii (i j : Int) : dAdd (.int i) (.int j) = pure (.int (i + j)) := rfl
@[simp] theorem dSub_ii (i j : Int) : dSub (.int i) (.int j) = pure (.int (i - j)) := rfl
@[simp] theorem dIx_t0 (t : Bool) (x : D) (xs : List D) : dIx (.tup t (x :: xs)) (.int 0) = pure x := by
  show (match atI (x :: xs) 0 with | some d => pure d | none => M.stuck) = _
  have : atI (x :: xs) 0 = some x := atI_nat (j := 0) rfl
  rw [this]
@[simp] theorem dIx_t1 (t : Bool) (x y : D) (xs : List D) : dIx (.tup t (x :: y :: xs)) (.int 1) = pure y := by
  show (match atI (x :: y :: xs) 1 with | some d => pure d | none => M.stuck) = _
  have : atI (x :: y :: xs) 1 = some y := atI_nat (j := 1) rfl
  rw [this]
theorem dIx_nat {t : Bool} {xs : List D} {j : Nat} {d : D} (h : xs[j]? = some d) : dIx (.tup t xs) (.int (j : Nat)) = pure d ∧ dIx (.lst xs) (.int (j : Nat)) = pure d := by
  have e : atI xs ((j : Nat) : Int) = some d := atI_nat h
  unfold dIx
  simp only [e]
  exact ⟨trivial, trivial⟩
theorem mkLst_p {xs : List D} (h : xs.length ≤ lim) : mkLst xs = pure (.lst xs) := gd_pos h
theorem mkTup_p {xs : List D} (h : xs.length ≤ lim) : mkTup xs = pure (.tup false xs) := gd_pos h
theorem mkTupX_p {xs : List D} (h : xs.length ≤ lim) : mkTupX xs = pure (.tup true xs) := gd_pos h
theorem lim_ge (n : Nat) (h : n ≤ 1000) : n ≤ lim := Nat.le_trans h (by decide)
@[simp] theorem ite_pure_bl (c : Prop) [Decidable c] (b b' : Bool) : (if c then (pure (.bl b) : M D) else pure (.bl b')) = pure (.bl (if c then b else b')) := by split <;> rfl
end
/-! ### comprehensions, loops that draw nothing -/
theorem lcM_pure {mt : D → M Bool} {me : D → M D} {t : D → Bool} {e : D → D} {d : D} (h : mt d = pure (t d)) (h2 : t d = true → me d = pure (e d)) : lcM mt me d = pure (if t d = true then some (e d) else none) := by
  unfold lcM
  rw [h]
  cases ht : t d with
  | false => rfl
  | true => rw [pure_bind, if_pos rfl, h2 ht]; rfl
theorem compM_pure {f : D → M (Option D)} {g : D → Option D} : ∀ {ds : List D}, (∀ d ∈ ds, f d = pure (g d)) → compM f ds = pure (ds.filterMap g)
  | [], _ => rfl
  | d :: ds, h => by
    unfold compM
    rw [h d (List.mem_cons_self ..), compM_pure fun x hx => h x (List.mem_cons_of_mem _ hx)]
    simp only [pure_bind, List.filterMap_cons]
    cases g d <;> rfl
theorem filterMap_if {t : D → Bool} {e : D → D} : ∀ ds : List D, (ds.filterMap fun d => if t d = true then some (e d) else none) = (ds.filter t).map e
  | [] => rfl
  | d :: ds => by
    rw [List.filterMap_cons, filterMap_if ds, List.filter_cons]
    cases t d <;> simp
theorem lcD_pure {mt : D → M Bool} {me : D → M D} {t : D → Bool} {e : D → D} {ds : List D} (hl : ds.length ≤ lim) (h : ∀ d ∈ ds, mt d = pure (t d)) (h2 : ∀ d ∈ ds, t d = true → me d = pure (e d)) : lcD mt me ds = pure (.lst ((ds.filter t).map e)) := by
  unfold lcD
  rw [gd_pos hl, compM_pure fun d hd => lcM_pure (h d hd) (h2 d hd), filterMap_if, pure_bind]
theorem lcD_map {me : D → M D} {e : D → D} {ds : List D} (hl : ds.length ≤ lim) (h2 : ∀ d ∈ ds, me d = pure (e d)) : lcD (fun _ => pure true) me ds = pure (.lst (ds.map e)) := by
  rw [lcD_pure (t := fun _ => true) hl (fun _ _ => rfl) fun d hd _ => h2 d hd]
  rw [List.filter_eq_self.mpr fun _ _ => rfl]
theorem bls_map {α : Type} (f : α → Bool) : ∀ l : List α, D.bls? (l.map fun x => .bl (f x)) = some (l.map f)
  | [] => rfl
  | x :: l => by simp [D.bls?, bls_map f l]
theorem dAll_map {α : Type} (f : α → Bool) (l : List α) : dAll (.lst (l.map fun x => .bl (f x))) = pure (.bl (l.all f)) := by
  show (match D.bls? (l.map fun x => D.bl (f x)) with | some bs => pure (D.bl (bs.all id)) | none => (M.stuck : M D)) = _
  rw [bls_map]
  simp [List.all_map, Function.comp_def]
theorem loop_all {γ : Type} {f : Unit → D → M (Fl Unit Unit)} {p : D → Bool} : ∀ {ds : List D}, (∀ d ∈ ds, f () d = if p d = true then pure (.nx ()) else pure (.rt (.bl false))) → (loopD f ds () : M (Fl Unit γ)) = if ds.all p = true then pure (.nx ()) else pure (.rt (.bl false))
  | [], _ => rfl
  | d :: ds, h => by
    unfold loopD
    rw [h d (List.mem_cons_self ..), List.all_cons]
    cases p d with
    | false => rfl
    | true =>
      rw [if_pos rfl, pure_bind]
      show loopD f ds () = _
      rw [loop_all fun x hx => h x (List.mem_cons_of_mem _ hx), Bool.true_and]
/-! ### data that is small -/
def nice (b : Nat) : Nat → D → Bool
  | _, .non => true
  | _, .bl _ => true
  | _, .int _ => true
  | _, .str x => decide (x.length ≤ b)
  | n + 1, .tup _ xs => decide (xs.length ≤ b) && xs.all (nice b n)
  | n + 1, .lst xs => decide (xs.length ≤ b) && xs.all (nice b n)
  | _, _ => false
theorem nice_mono {b b' : Nat} (hb : b ≤ b') : ∀ (n n' : Nat) (d : D), n ≤ n' → nice b n d = true → nice b' n' d = true
  | 0, n', d, _, h => by
    cases d <;> simp [nice] at h <;> cases n' <;> simp [nice] <;> omega
  | n + 1, 0, d, hn, _ => by omega
  | n + 1, n' + 1, d, hn, h => by
    cases d with
    | tup t xs =>
      simp only [nice, Bool.and_eq_true, decide_eq_true_eq, List.all_eq_true] at h ⊢
      exact ⟨by omega, fun x hx => nice_mono hb n n' x (by omega) (h.2 x hx)⟩
    | lst xs =>
      simp only [nice, Bool.and_eq_true, decide_eq_true_eq, List.all_eq_true] at h ⊢
      exact ⟨by omega, fun x hx => nice_mono hb n n' x (by omega) (h.2 x hx)⟩
    | str x => simp only [nice, decide_eq_true_eq] at h ⊢; omega
    | _ => first | rfl | (simp [nice] at h)
theorem nice_sh {b : Nat} : ∀ (n : Nat) (d : D), nice b n d = true → d.py.plain = true ∧ d.py.depth ≤ n
  | n, .non, _ => by simp [D.py, PyData.plain, PyData.depth]
  | n, .bl _, _ => by simp [D.py, PyData.plain, PyData.depth]
  | n, .int _, _ => by simp [D.py, PyData.plain, PyData.depth]
  | n, .str _, _ => by simp [D.py, PyData.plain, PyData.depth]
  | 0, .tup _ _, h => by simp [nice] at h
  | 0, .lst _, h => by simp [nice] at h
  | n, .dct _ _ _, h => by cases n <;> simp [nice] at h
  | n, .st, h => by cases n <;> simp [nice] at h
  | n, .opq _, h => by cases n <;> simp [nice] at h
  | n + 1, .tup t xs, h => by
    simp only [nice, Bool.and_eq_true, decide_eq_true_eq, List.all_eq_true] at h
    have ih : ∀ x ∈ xs, x.py.plain = true ∧ x.py.depth ≤ n := fun x hx => nice_sh n x (h.2 x hx)
    simp only [D.py, PyData.plain, PyData.depth]
    have hx := h.2
    clear h
    have : PyData.plainAll (D.pys xs) = true ∧ PyData.depthAll (D.pys xs) ≤ n := by
      clear hx
      induction xs with
      | nil => simp [D.pys, PyData.plainAll, PyData.depthAll]
      | cons x xs ihx =>
        obtain ⟨a, c⟩ := ihx fun y hy => ih y (List.mem_cons_of_mem _ hy)
        obtain ⟨a2, c2⟩ := ih x (List.mem_cons_self ..)
        simp only [D.pys, PyData.plainAll, PyData.depthAll, a, a2, Bool.and_self, true_and]
        omega
    exact ⟨this.1, by omega⟩
  | n + 1, .lst xs, h => by
    simp only [nice, Bool.and_eq_true, decide_eq_true_eq, List.all_eq_true] at h
    have ih : ∀ x ∈ xs, x.py.plain = true ∧ x.py.depth ≤ n := fun x hx => nice_sh n x (h.2 x hx)
    simp only [D.py, PyData.plain, PyData.depth]
    have hx := h.2
    clear h
    have : PyData.plainAll (D.pys xs) = true ∧ PyData.depthAll (D.pys xs) ≤ n := by
      clear hx
      induction xs with
      | nil => simp [D.pys, PyData.plainAll, PyData.depthAll]
      | cons x xs ihx =>
        obtain ⟨a, c⟩ := ihx fun y hy => ih y (List.mem_cons_of_mem _ hy)
        obtain ⟨a2, c2⟩ := ih x (List.mem_cons_self ..)
        simp only [D.pys, PyData.plainAll, PyData.depthAll, a, a2, Bool.and_self, true_and]
        omega
    exact ⟨this.1, by omega⟩
theorem nice_s {b n : Nat} {d : D} (h : nice b n d = true) (hn : n ≤ 60) : d.sh = true := by
  obtain ⟨a, c⟩ := nice_sh n d h
  unfold D.sh
  rw [a, decide_eq_true (by omega)]
  rfl
theorem nice_k {b n : Nat} {d : D} (h : nice b n d = true) : d.known = true := by
  cases d <;> first | rfl | (cases n <;> simp [nice] at h)
theorem dIsi_p {T : Ty} {d : D} (h : d.known = true) : dIsi T d = pure (.bl (d.isT T)) := gd_pos h
theorem dIsi2_p {T T' : Ty} {d : D} (h : d.known = true) : dIsi2 T T' d = pure (.bl (d.isT T || d.isT T')) := gd_pos h
theorem dEq_p {d e : D} (h : d.sh = true) (h' : e.sh = true) : dEq d e = pure (.bl (D.eqv d e)) := gd_pos ⟨h, h'⟩
theorem dNe_p {d e : D} (h : d.sh = true) (h' : e.sh = true) : dNe d e = pure (.bl (!D.eqv d e)) := gd_pos ⟨h, h'⟩
theorem eqv_ii (i j : Int) : D.eqv (.int i) (.int j) = decide (i = j) := by
  show PyData.eqv (.int i) (.int j) = _
  unfold PyData.eqv
  first | rfl | simp
theorem sh_i (i : Int) : (D.int i).sh = true := by simp [D.sh, D.py, PyData.plain, PyData.depth]
theorem sh_s (i : Str) : (D.str i).sh = true := by simp [D.sh, D.py, PyData.plain, PyData.depth]
theorem lt_ii (i j : Int) : D.lt (.int i) (.int j) = decide (i < j) := by
  show PySem.W.dataLt (.int i) (.int j) = _
  unfold PySem.W.dataLt
  simp only [PySem.W.keyToks]
  rw [PySem.W.lex_one]
  rfl
theorem dLe_ii (i j : Int) : dLe (.int i) (.int j) = pure (.bl (decide (i ≤ j))) := by
  unfold dLe dCmp
  rw [gd_pos ⟨rfl, sh_i i, sh_i j, rfl⟩]
  show pure (D.bl (!D.lt (.int j) (.int i))) = _
  rw [lt_ii]
  by_cases h : j < i
  · rw [decide_eq_true h, decide_eq_false (by omega)]; rfl
  · rw [decide_eq_false h, decide_eq_true (by omega)]; rfl
theorem dGt_ii (i j : Int) : dGt (.int i) (.int j) = pure (.bl (decide (j < i))) := by
  unfold dGt dCmp
  rw [gd_pos ⟨rfl, sh_i i, sh_i j, rfl⟩]
  show pure (D.bl (D.lt (.int j) (.int i))) = _
  rw [lt_ii]
theorem chain_le (i j k : Int) : dChain dLe dLe (pure (.int i)) (pure (.int j)) (pure (.int k)) = pure (.bl (decide (i ≤ j) && decide (j ≤ k))) := by
  unfold dChain
  simp only [pure_bind, dLe_ii]
  by_cases h : i ≤ j
  · rw [decide_eq_true h]; simp only [pure_bind, dLe_ii, Bool.true_and]
  · rw [decide_eq_false h]; rfl
end DL
set_option linter.all false
set_option maxRecDepth 100000
set_option autoImplicit false
/-! P8: computations that draw: what they lead to, how many numbers are mixed at most. -/
namespace DL
open PySem PySem.Spec PyProof.Rows L2
def Dr {α : Type} (k : Nat) (m : M α) (P : α → Prop) : Prop := ∀ (S : DS) (c : Int), 0 ≤ S.turn → S.turn ≤ c → c + (k : Nat) ≤ 2 ^ 40 → m.wp (fun a S' => P a ∧ 0 ≤ S'.turn ∧ S'.turn ≤ c + (k : Nat)) (fun _ _ => False) S
section
variable {α β γ : Type}
theorem Dr.pure {P : α → Prop} {a : α} (h : P a) : Dr 0 (pure a : M α) P := fun S c h0 h1 h2 => by
  rw [wp_pure]
  exact ⟨h, h0, by simpa using h1⟩
theorem Dr.bind {k1 k2 : Nat} {m : M α} {f : α → M β} {P : α → Prop} {Q : β → Prop} (h : Dr k1 m P) (h' : ∀ a, P a → Dr k2 (f a) Q) : Dr (k1 + k2) (m >>= f) Q := fun S c h0 h1 h2 => by
  rw [wp_bind]
  refine (h S c h0 h1 (by omega)).imp fun a S1 ⟨p, q0, q1⟩ => ?_
  refine (h' a p S1 (c + (k1 : Nat)) q0 q1 (by omega)).imp fun b S2 ⟨r, s0, s1⟩ => ⟨r, s0, by omega⟩
theorem Dr.mono {k k' : Nat} {m : M α} {P Q : α → Prop} (h : Dr k m P) (hk : k ≤ k') (hp : ∀ a, P a → Q a) : Dr k' m Q := fun S c h0 h1 h2 =>
  (h S c h0 h1 (by omega)).imp fun a S1 ⟨p, q0, q1⟩ => ⟨hp a p, q0, by omega⟩
theorem Dr.noErr {k : Nat} {m : M α} {P : α → Prop} (h : Dr k m P) : Dr k (noErr m) P := fun S c h0 h1 h2 => by
  rw [wp_noErr]
  exact h S c h0 h1 h2
theorem Dr.gd {k : Nat} {m : M α} {P : α → Prop} {c : Prop} [Decidable c] (hc : c) (h : Dr k m P) : Dr k (gd c m) P := by rw [gd_pos hc]; exact h
/-- first what draws nothing -/
theorem Dr.pbind {k : Nat} {m : M α} {a : α} {f : α → M β} {Q : β → Prop} (e : m = Pure.pure a) (h : Dr k (f a) Q) : Dr k (m >>= f) Q := by rw [e, pure_bind]; exact h
theorem Dr.loop {k : Nat} {f : β → D → M (Fl β β)} (I : List D → β → Prop) (h : ∀ d ds b, I (d :: ds) b → Dr k (f b d) fun fl => ∃ b', fl = .nx b' ∧ I ds b') : ∀ (ds : List D) (b : β), I ds b → Dr (k * ds.length) (loopD f ds b : M (Fl β γ)) fun fl => ∃ b', fl = .nx b' ∧ I [] b'
  | [], b, hi => Dr.pure ⟨b, rfl, hi⟩
  | d :: ds, b, hi => by
    unfold loopD
    have e : k * (d :: ds).length = k + k * ds.length := by rw [List.length_cons, Nat.mul_succ]; omega
    rw [e]
    refine (h d ds b hi).bind fun fl hf => ?_
    obtain ⟨b', rfl, hi'⟩ := hf
    exact Dr.loop I h ds b' hi'
theorem Dr.seq {β' : Type} {k1 k2 : Nat} {m : M (Fl β γ)} {f : β → M (Fl β' γ)} {P : β → Prop} {Q : Fl β' γ → Prop} (h : Dr k1 m fun fl => ∃ b, fl = .nx b ∧ P b) (h' : ∀ b, P b → Dr k2 (f b) Q) : Dr (k1 + k2) (Fl.seq m f) Q := by
  unfold Fl.seq
  refine h.bind fun fl hf => ?_
  obtain ⟨b, rfl, hb⟩ := hf
  exact h' b hb
theorem Dr.fin {k : Nat} {m : M (Fl Unit Unit)} {P : D → Prop} (h : Dr k m fun fl => ∃ d, fl = .rt d ∧ P d) : Dr k (Fl.fin m) P := by
  unfold Fl.fin
  rw [← Nat.add_zero k]
  refine h.bind fun fl hf => ?_
  obtain ⟨d, rfl, hd⟩ := hf
  exact Dr.pure hd
/-- a comprehension without a test -/
theorem Dr.lc {k : Nat} {me : D → M D} {P : D → Prop} {ds : List D} (hl : ds.length ≤ lim) (h : ∀ d ∈ ds, Dr k (me d) P) : Dr (k * ds.length) (lcD (fun _ => Pure.pure true) me ds) fun d => ∃ rs, d = .lst rs ∧ rs.length = ds.length ∧ ∀ r ∈ rs, P r := by
  unfold lcD
  rw [gd_pos hl]
  have key : ∀ ds : List D, (∀ d ∈ ds, Dr k (me d) P) → Dr (k * ds.length) (compM (lcM (fun _ => Pure.pure true) me) ds) fun rs => rs.length = ds.length ∧ ∀ r ∈ rs, P r := fun ds => by
    induction ds with
    | nil => intro _; exact Dr.pure ⟨rfl, fun r hr => nomatch hr⟩
    | cons d ds ih =>
      intro h
      unfold compM
      have e : k * (d :: ds).length = k + (k * ds.length + 0) := by rw [List.length_cons, Nat.mul_succ]; omega
      rw [e]
      have e1 : lcM (fun _ => Pure.pure true) me d = DL.noErr (me d >>= fun x => Pure.pure (some x)) := rfl
      rw [e1]
      have h1 : Dr k (DL.noErr (me d >>= fun x => Pure.pure (some x))) fun o => ∃ x, o = some x ∧ P x := by
        refine Dr.noErr ?_
        rw [← Nat.add_zero k]
        exact (h d (List.mem_cons_self ..)).bind fun x hx => Dr.pure ⟨x, rfl, hx⟩
      refine h1.bind fun o ho => ?_
      obtain ⟨x, rfl, hx⟩ := ho
      refine (ih fun z hz => h z (List.mem_cons_of_mem _ hz)).bind fun rs hrs => Dr.pure ⟨by simp [hrs.1], fun r hr => ?_⟩
      rcases List.mem_cons.mp (by simpa using hr) with rfl | hr
      · exact hx
      · exact hrs.2 r hr
  rw [← Nat.add_zero (k * ds.length)]
  exact (key ds h).bind fun rs hrs => Dr.pure ⟨rs, rfl, hrs.1, hrs.2⟩
end
theorem dMul_small {i j : Int} (h : -(2 ^ 64) < j ∧ j < 2 ^ 64) : dMul (.int i) (.int j) = pure (.int (i * j)) := gd_pos (.inr h)
theorem dMul_small' {i j : Int} (h : -(2 ^ 64) < i ∧ i < 2 ^ 64) : dMul (.int i) (.int j) = pure (.int (i * j)) := gd_pos (.inl h)
theorem dMod_p {i j : Int} (h : 0 < j) : dMod (.int i) (.int j) = pure (.int (i % j)) := gd_pos h
theorem dFdiv_p {i j : Int} (h : 0 < j ∧ j < 1073741824) : dFdiv (.int i) (.int j) = pure (.int (i / j)) := gd_pos h
theorem dPow_p {i j : Int} (h : 0 ≤ j ∧ j ≤ 1000000 ∧ i.natAbs < 2 ^ 64) : dPow (.int i) (.int j) = pure (.int (i ^ j.toNat)) := gd_pos h
/-- a number below n -/
def Below (n : Nat) (d : D) : Prop := ∃ i : Nat, d = .int (i : Nat) ∧ i < n
end DL
set_option linter.all false
set_option maxRecDepth 100000
set_option autoImplicit false
namespace K1
open PySem PySem.Spec PyProof.Rows L2 DL
theorem greatOf_nn : ∀ (ns : List Int), ∀ g ∈ greatOf ns, 0 ≤ g
  | [], _, h => nomatch h
  | n :: ns, g, h => by
    unfold greatOf at h
    split at h
    · rcases List.mem_cons.mp h with rfl | h
      · omega
      · exact greatOf_nn ns g h
    · exact greatOf_nn ns g h
def letterP (c : Nat) : Bool := decide (c ∈ ("abcdefghijklmnopqrstuvwxyz" : Str).cps.toList)
def isName (x : Str) : Bool := (decide ((1 : Int) ≤ (x.length : Nat)) && decide (((x.length : Nat) : Int) ≤ 8)) && (!(D.anyEqv (.str x) k_KEPT) && x.cps.toList.all letterP)
def nm : D → Bool
  | .str x => isName x
  | _ => false
def nu : D → Bool
  | .int i => decide (0 ≤ i) && decide (i ≤ 999)
  | _ => false
theorem kept_sh : k_KEPT.all D.sh = true := by decide +kernel
theorem dLen_s {x : Str} (h : x.length ≤ lim) : dLen (.str x) = pure (.int x.length) := gd_pos h
theorem dIn_t {d : D} {t : Bool} {xs : List D} (h : d.sh = true) (h' : xs.all D.sh = true) : dIn d (.tup t xs) = pure (.bl (D.anyEqv d xs)) := by
  have e : dInB d (.tup t xs) = pure (D.anyEqv d xs) := gd_pos ⟨h, h'⟩
  unfold dIn
  rw [e]; rfl
theorem dIn_l {d : D} {xs : List D} (h : d.sh = true) (h' : xs.all D.sh = true) : dIn d (.lst xs) = pure (.bl (D.anyEqv d xs)) := by
  have e : dInB d (.lst xs) = pure (D.anyEqv d xs) := gd_pos ⟨h, h'⟩
  unfold dIn
  rw [e]; rfl
theorem dNotIn_t {d : D} {t : Bool} {xs : List D} (h : d.sh = true) (h' : xs.all D.sh = true) : dNotIn d (.tup t xs) = pure (.bl (!D.anyEqv d xs)) := by
  have e : dInB d (.tup t xs) = pure (D.anyEqv d xs) := gd_pos ⟨h, h'⟩
  unfold dNotIn
  rw [e]; rfl
theorem dNotIn_l {d : D} {xs : List D} (h : d.sh = true) (h' : xs.all D.sh = true) : dNotIn d (.lst xs) = pure (.bl (!D.anyEqv d xs)) := by
  have e : dInB d (.lst xs) = pure (D.anyEqv d xs) := gd_pos ⟨h, h'⟩
  unfold dNotIn
  rw [e]; rfl
theorem dIn_c (c : Nat) (z : Str) : dIn (.str ⟨#[c]⟩) (.str z) = pure (.bl (decide (c ∈ z.cps.toList))) := by
  have e : dInB (.str ⟨#[c]⟩) (.str z) = pure (decide (c ∈ z.cps.toList)) := gd_pos rfl
  unfold dIn
  rw [e]; rfl
theorem dNotIn_c (c : Nat) (z : Str) : dNotIn (.str ⟨#[c]⟩) (.str z) = pure (.bl (!decide (c ∈ z.cps.toList))) := by
  have e : dInB (.str ⟨#[c]⟩) (.str z) = pure (decide (c ∈ z.cps.toList)) := gd_pos rfl
  unfold dNotIn
  rw [e]; rfl
theorem signs_len (x : Str) : (signsD x).length = x.length := by simp [signsD, Str.length]
theorem f_is_name_str {x : Str} (h : x.length ≤ 1000) : f_is_name (.str x) = pure (.bl (isName x)) := by
  have hl : x.length ≤ lim := lim_ge _ h
  have hs : lcD (fun _ => pure true) (fun d => op2 dIn (pure d) (pure (.str "abcdefghijklmnopqrstuvwxyz"))) (signsD x) = pure (.lst (x.cps.toList.map fun c => .bl (letterP c))) := by
    unfold signsD
    unfold lcD
    rw [gd_pos (by rw [List.length_map]; simpa [Str.length] using hl)]
    have : ∀ l : List Nat, compM (lcM (fun _ => pure true) fun d => op2 dIn (pure d) (pure (.str "abcdefghijklmnopqrstuvwxyz"))) (l.map fun c => D.str ⟨#[c]⟩) = pure (l.map fun c => .bl (letterP c)) := fun l => by
      induction l with
      | nil => rfl
      | cons c l ih =>
        rw [List.map_cons]
        unfold compM
        have e : lcM (fun _ => pure true) (fun d => op2 dIn (pure d) (pure (.str "abcdefghijklmnopqrstuvwxyz"))) (D.str ⟨#[c]⟩) = pure (some (.bl (letterP c))) := by
          unfold lcM
          simp only [pure_bind, op2_pp, dIn_c]
          rfl
        rw [e, ih]
        rfl
    rw [this]
    rfl
  unfold f_is_name
  simp only [pure_bind, bind_assoc, dIsi_p (d := .str x) rfl, D.isT, asB_bl, Bool.not_true, Bool.not_false, opC_pp, ar1_one, dLen_s hl, chain_le, dIn_t (sh_s x) kept_sh, dIter_s, hs, dAll_map, if_true, if_false, Bool.false_eq_true, if_neg Bool.false_ne_true]
  unfold isName
  generalize (decide ((1 : Int) ≤ (x.length : Nat)) && decide (((x.length : Nat) : Int) ≤ 8)) = P
  generalize D.anyEqv (.str x) k_KEPT = Q
  generalize x.cps.toList.all letterP = R
  cases P <;> cases Q <;> cases R <;> rfl
theorem f_is_name_d {b n : Nat} {d : D} (h : nice b n d = true) (hb : b ≤ 1000) : f_is_name d = pure (.bl (nm d)) := by
  cases d with
  | str x => exact f_is_name_str (by cases n <;> (simp [nice] at h; omega))
  | st => cases n <;> simp [nice] at h
  | opq _ => cases n <;> simp [nice] at h
  | _ => rfl
theorem f_is_number_d {b n : Nat} {d : D} (h : nice b n d = true) : f_is_number d = pure (.bl (nu d)) := by
  cases d with
  | int i =>
    unfold f_is_number
    simp only [pure_bind, bind_assoc, dIsi_p (d := .int i) rfl, D.isT, dAnd_p, op1_p, dNot_bl, chain_le, if_true, Bool.not_false]
    rfl
  | st => cases n <;> simp [nice] at h
  | opq _ => cases n <;> simp [nice] at h
  | _ => rfl
def tm (d : D) : Bool := nm d || nu d
theorem f_is_term_d {b n : Nat} {d : D} (h : nice b n d = true) (hb : b ≤ 1000) : f_is_term d = pure (.bl (tm d)) := by
  unfold f_is_term
  simp only [pure_bind, bind_assoc, opC_pp, ar1_one, f_is_name_d h hb, f_is_number_d h, noErr_pure, dOr_p]
  unfold tm
  generalize nm d = P
  generalize nu d = Q
  cases P <;> cases Q <;> rfl
/-! the law's own -/
theorem kept_split : dSplit ("ask base book come go head judge look no norule noview or patch plan question relation replica row rule same store to undo view when yes" : Str) [.str " "] = pure (.lst k_KEPT) := by
  have e : Txt.split ("ask base book come go head judge look no norule noview or patch plan question relation replica row rule same store to undo view when yes" : Str) " " = (["ask", "base", "book", "come", "go", "head", "judge", "look", "no", "norule", "noview", "or", "patch", "plan", "question", "relation", "replica", "row", "rule", "same", "store", "to", "undo", "view", "when", "yes"] : List Str) := by decide +kernel
  show gd _ _ = _
  rw [gd_pos (by decide +kernel), e]
  rfl
theorem filt_nil {l : List Nat} : D.eqv (.lst ((l.filter fun c => !letterP c).map fun c => .str ⟨#[c]⟩)) (.lst []) = l.all letterP := by
  induction l with
  | nil => decide +kernel
  | cons c l ih =>
    rw [List.filter_cons, List.all_cons]
    cases hc : letterP c with
    | true => simpa using ih
    | false => rfl
theorem strs_sh : ∀ l : List Str, (D.lst (l.map .str)).sh = true := fun l => by
  have : ∀ l : List Str, PyData.plainAll (D.pys (l.map .str)) = true ∧ PyData.depthAll (D.pys (l.map .str)) ≤ 1 := fun l => by
    induction l with
    | nil => simp [D.pys, PyData.plainAll, PyData.depthAll]
    | cons x l ih => simp only [List.map_cons, D.pys, D.py, PyData.plainAll, PyData.depthAll, PyData.plain, PyData.depth, ih.1, Bool.and_self, true_and]; omega
  obtain ⟨a, c⟩ := this l
  unfold D.sh
  simp only [D.py, PyData.plain, PyData.depth, a, Bool.true_and, decide_eq_true_eq]
  omega
theorem f_law_is_name_str {x : Str} (h : x.length ≤ 1000) : f__law_is_name (.str x) = pure (.bl (isName x)) := by
  have hl : x.length ≤ lim := lim_ge _ h
  have hs : lcD (fun d => dNotIn d (.str "abcdefghijklmnopqrstuvwxyz") >>= asB) (fun d => pure d) (signsD x) = pure (.lst ((x.cps.toList.filter fun c => !letterP c).map fun c => .str ⟨#[c]⟩)) := by
    unfold signsD
    unfold lcD
    rw [gd_pos (by rw [List.length_map]; simpa [Str.length] using hl)]
    have : ∀ l : List Nat, compM (lcM (fun d => dNotIn d (.str "abcdefghijklmnopqrstuvwxyz") >>= asB) fun d => pure d) (l.map fun c => D.str ⟨#[c]⟩) = pure ((l.filter fun c => !letterP c).map fun c => .str ⟨#[c]⟩) := fun l => by
      induction l with
      | nil => rfl
      | cons c l ih =>
        rw [List.map_cons]
        unfold compM
        have e : lcM (fun d => dNotIn d (.str "abcdefghijklmnopqrstuvwxyz") >>= asB) (fun d => pure d) (D.str ⟨#[c]⟩) = pure (if letterP c = true then none else some (.str ⟨#[c]⟩)) := by
          unfold lcM
          simp only [pure_bind, dNotIn_c, asB_bl]
          show noErr (if (!letterP c) = true then _ else _) = _
          cases letterP c <;> rfl
        rw [e, ih, List.filter_cons]
        cases letterP c <;> rfl
    rw [this]
    rfl
  have sh1 : (D.lst ((x.cps.toList.filter fun c => !letterP c).map fun c => .str ⟨#[c]⟩)).sh = true := by
    have := strs_sh ((x.cps.toList.filter fun c => !letterP c).map fun c => ⟨#[c]⟩)
    simpa [List.map_map, Function.comp_def] using this
  unfold f__law_is_name
  simp only [pure_bind, bind_assoc, asS_str, opC_pp, kept_split, dIsi_p (d := .str x) rfl, D.isT, asB_bl, Bool.not_true, ar1_one, op2_pp, dLen_s hl, chain_le, dIn_l (sh_s x) kept_sh, dIter_s, hs, mkLst_p (xs := []) (Nat.zero_le _), dEq_p sh1 (show (D.lst []).sh = true from strs_sh []), Bool.false_eq_true, if_false]
  rw [show D.eqv (.lst ((x.cps.toList.filter fun c => !letterP c).map fun c => .str ⟨#[c]⟩)) (.lst []) = _ from filt_nil]
  unfold isName
  generalize (decide ((1 : Int) ≤ (x.length : Nat)) && decide (((x.length : Nat) : Int) ≤ 8)) = P
  generalize D.anyEqv (.str x) k_KEPT = Q
  generalize x.cps.toList.all letterP = R
  cases P <;> cases Q <;> cases R <;> rfl
theorem f_law_is_name_d {b n : Nat} {d : D} (h : nice b n d = true) (hb : b ≤ 1000) : f__law_is_name d = pure (.bl (nm d)) := by
  have key : ∀ d : D, d.known = true → d.isT .str = false → f__law_is_name d = pure (.bl false) := fun d hk ht => by
    unfold f__law_is_name
    simp only [pure_bind, bind_assoc, asS_str, opC_pp, kept_split, dIsi_p hk, ht, asB_bl, Bool.not_false, if_true]
    rfl
  cases d with
  | str x => exact f_law_is_name_str (by cases n <;> (simp [nice] at h; omega))
  | st => cases n <;> simp [nice] at h
  | opq _ => cases n <;> simp [nice] at h
  | _ => exact key _ rfl rfl
theorem f_law_is_number_d {b n : Nat} {d : D} (h : nice b n d = true) : f__law_is_number d = pure (.bl (nu d)) := by
  cases d with
  | int i =>
    unfold f__law_is_number
    simp only [pure_bind, bind_assoc, dIsi_p (d := .int i) rfl, D.isT, dAnd_p, op2_pp, chain_le, if_true]
    show Fl.fin ((dAnd (pure (.bl true)) (dAnd (pure (.bl true)) _)) >>= _) = _
    simp only [dAnd_p, if_true]
    rfl
  | bl c => cases c <;> rfl
  | st => cases n <;> simp [nice] at h
  | opq _ => cases n <;> simp [nice] at h
  | _ => rfl
theorem f_law_is_term_d {b n : Nat} {d : D} (h : nice b n d = true) (hb : b ≤ 1000) : f__law_is_term d = pure (.bl (tm d)) := by
  unfold f__law_is_term
  simp only [pure_bind, bind_assoc, opC_pp, ar1_one, f_law_is_name_d h hb, f_law_is_number_d h, noErr_pure, dOr_p]
  unfold tm
  generalize nm d = P
  generalize nu d = Q
  cases P <;> cases Q <;> rfl
end K1
set_option linter.all false
set_option maxRecDepth 100000
set_option autoImplicit false
/-! S3: relations as data. -/
namespace K1
open PySem PySem.Spec PyProof.Rows L2 DL
abbrev Rel := List (Str × Int)
def relD (r : Rel) : D := .tup true (r.map fun p => .tup false [.str p.1, .int p.2])
theorem op2_pr (g : D → D → M D) (x : D) (m : M D) : op2 g (pure x) m = m >>= fun y => g x y := rfl
theorem lcD_pure2 {mt me : D → D → M D} {e : D → D} {ds : List D} (hl : ds.length ≤ lim) (h : ∀ d ∈ ds, un2 me d = pure (e d)) (ht : ∀ d ∈ ds, ∃ t x y, d = .tup t [x, y]) : lcD (un2 fun _ _ => pure true) (un2 me) ds = pure (.lst (ds.map e)) := by
  rw [lcD_pure (t := fun _ => true) hl (fun d hd => by obtain ⟨t, x, y, rfl⟩ := ht d hd; rfl) fun d hd _ => h d hd]
  rw [List.filter_eq_self.mpr fun _ _ => rfl]
theorem all_sh {b n : Nat} (hn : n ≤ 60) {xs : List D} (h : ∀ x ∈ xs, nice b n x = true) : xs.all D.sh = true := List.all_eq_true.mpr fun x hx => nice_s (h x hx) hn
theorem ones_nil {ts : List D} (p : D → Bool) : D.eqv (.lst ((ts.filter fun t => !p t).map fun _ => .int 1)) (.lst []) = ts.all p := by
  induction ts with
  | nil => show D.eqv (.lst []) (.lst []) = true; decide +kernel
  | cons c l ih =>
    rw [List.filter_cons, List.all_cons]
    cases hc : p c with
    | true => simpa using ih
    | false => rfl
theorem ones_sh (ts : List D) : (D.lst (ts.map fun _ => .int 1)).sh = true := by
  have : PyData.plainAll (D.pys (ts.map fun _ => .int 1)) = true ∧ PyData.depthAll (D.pys (ts.map fun _ => .int 1)) ≤ 1 := by
    induction ts with
    | nil => simp [D.pys, PyData.plainAll, PyData.depthAll]
    | cons x l ih => simp only [List.map_cons, D.pys, D.py, PyData.plainAll, PyData.depthAll, PyData.plain, PyData.depth, ih.1, Bool.and_self, true_and]; omega
  unfold D.sh
  simp only [D.py, PyData.plain, PyData.depth, this.1, Bool.true_and, decide_eq_true_eq]
  omega
theorem nil_sh : (D.lst []).sh = true := ones_sh []
theorem nice_t {b n : Nat} {t : Bool} {xs : List D} (h : nice b n (.tup t xs) = true) : ∃ k, n = k + 1 ∧ xs.length ≤ b ∧ ∀ x ∈ xs, nice b k x = true := by
  cases n with
  | zero => simp [nice] at h
  | succ k =>
    simp only [nice, Bool.and_eq_true, decide_eq_true_eq, List.all_eq_true] at h
    exact ⟨k, rfl, h.1, h.2⟩
theorem len_ne {n : Nat} (h : n ≠ 2) : D.eqv (.int (n : Nat)) (.int 2) = false := by
  rw [eqv_ii]
  exact decide_eq_false (by omega)
theorem eqv_nil_t (t t' : Bool) (xs : List D) : D.eqv (.tup t xs) (.tup t' []) = xs.isEmpty := by
  cases xs <;> rfl
theorem nil_sht : (D.tup false []).sh = true := by decide +kernel
def Okr (r : Rel) : Prop := (r.map (·.1)).Nodup ∧ ∀ p ∈ r, 1 ≤ p.2 ∧ p.2 ≤ 3
theorem cut_mem {α : Type} {xs : List α} {lo hi : Option Int} {x : α} (h : x ∈ cutD xs lo hi) : x ∈ xs := List.mem_of_mem_drop (List.mem_of_mem_take h)
theorem range_len (k : Int) (n : Nat) : (rangeD k n).length = n := by simp [rangeD]
theorem dRange1_p {n : Nat} (h : n ≤ 100000) : dRange1 [.int (n : Nat)] = pure (rangeD 0 n) := by
  show gd _ (pure (rangeD 0 ((n : Nat) : Int).toNat)) = _
  rw [gd_pos (by omega), Int.toNat_natCast]
end K1
set_option linter.all false
set_option maxRecDepth 100000
set_option autoImplicit false
/-! R1: texts in their order, are_rising. -/
namespace K1
open PySem PySem.Spec PyProof.Rows L2 DL
/-! ### texts in their order -/
theorem lt_ss (x y : Str) : D.lt (.str x) (.str y) = decide (x.cps.toList < y.cps.toList) := by
  have h : PySem.W.dataLe false (fun b : Str => .str b) y x = decide (y.cps.toList ≤ x.cps.toList) := congrFun (congrFun (PySem.W.dataLe_str (fun b : Str => b)) y) x
  have h2 : PySem.W.dataLe false (fun b : Str => PyData.str b) y x = !PySem.W.dataLt (.str x) (.str y) := congrFun (congrFun (PySem.W.dataLe_eq false (fun b : Str => PyData.str b)) y) x
  show PySem.W.dataLt (.str x) (.str y) = _
  rw [h2] at h
  by_cases q : x.cps.toList < y.cps.toList
  · rw [decide_eq_true q]
    rw [decide_eq_false (by rw [List.not_le]; exact q)] at h
    cases e : PySem.W.dataLt (.str x) (.str y) <;> simp [e] at h ⊢
  · rw [decide_eq_false q]
    rw [decide_eq_true (by rw [← List.not_lt]; exact q)] at h
    cases e : PySem.W.dataLt (.str x) (.str y) <;> simp [e] at h ⊢
theorem leD_ss (x y : Str) : leD (.str x) (.str y) = leS x y := by
  have h2 : leD (.str x) (.str y) = !D.lt (.str y) (.str x) := congrFun (congrFun (PySem.W.dataLe_eq false D.py) (.str x)) (.str y)
  rw [h2, lt_ss]
  by_cases q : y.cps.toList < x.cps.toList
  · rw [decide_eq_true q]
    cases e : leS x y with
    | false => rfl
    | true => exact absurd ((leS_iff x y).mp e) (by rw [List.not_le]; exact q)
  · rw [decide_eq_false q]
    exact ((leS_iff x y).mpr (by rw [← List.not_lt]; exact q)).symm
theorem sort_ss (l : List Str) : (l.map D.str).mergeSort leD = (l.mergeSort leS).map .str := by
  rw [List.map_mergeSort (r := leS) (s := leD) (f := D.str)]
  intro a _ b _
  exact (leD_ss a b).symm
theorem sortable_ss (l : List Str) : sortable (l.map D.str) = true := by
  unfold sortable
  simp only [Bool.and_eq_true, Bool.or_eq_true, List.all_eq_true]
  refine ⟨⟨fun x hx y hy => ?_, fun x hx => ?_⟩, .inr fun x hx => ?_⟩
  · obtain ⟨a, _, rfl⟩ := List.mem_map.mp hx
    obtain ⟨b, _, rfl⟩ := List.mem_map.mp hy
    rfl
  · obtain ⟨a, _, rfl⟩ := List.mem_map.mp hx
    simp [D.py, PyData.plain, PyData.depth]
  · obtain ⟨a, _, rfl⟩ := List.mem_map.mp hx
    rfl
theorem dSorted_ss {t : Bool} {l : List Str} (h : l.length ≤ lim) : dSorted (.tup t (l.map .str)) = pure (.lst ((l.mergeSort leS).map .str)) := by
  show dSortL (l.map .str) = _
  unfold dSortL
  rw [gd_pos ⟨by simpa using h, .inr (sortable_ss l)⟩, sort_ss]
theorem dLt_ss (x y : Str) : dLt (.str x) (.str y) = pure (.bl (decide (x.cps.toList < y.cps.toList))) := by
  unfold dLt dCmp
  rw [gd_pos ⟨rfl, sh_s x, sh_s y, rfl⟩]
  show pure (D.bl (D.lt (.str x) (.str y))) = _
  rw [lt_ss]
/-- each less than the next one -/
def risS : List Str → Bool
  | [] => true
  | x :: l => (match l with
    | [] => true
    | y :: _ => decide (x.cps.toList < y.cps.toList)) && risS l
theorem zip_tail : ∀ l : List Str, ((l.zip (l.drop 1)).all fun p => decide (p.1.cps.toList < p.2.cps.toList)) = risS l
  | [] => rfl
  | [x] => rfl
  | x :: y :: l => by
    have ih := zip_tail (y :: l)
    simp only [List.drop_succ_cons, List.drop_zero] at ih ⊢
    rw [List.zip_cons_cons, List.all_cons, ih]
    rfl
theorem cut1 {α : Type} (l : List α) : DL.cutD l (some 1) none = l.drop 1 := by
  unfold DL.cutD
  cases l with
  | nil => rfl
  | cons x l =>
    have h1 : HT.sIx (x :: l).length 0 (some 1) = 1 := by
      simp [HT.sIx]
    have h2 : HT.sIx (x :: l).length (x :: l).length none = (x :: l).length := by simp [HT.sIx]
    rw [h1, h2]
    simp
theorem f_are_rising_ss {l : List Str} (h : l.length ≤ 1000) : f_are_rising (.lst (l.map .str)) = pure (.bl (risS l)) := by
  unfold f_are_rising
  have e1 : dCut (.lst (l.map .str)) (some 1) none = pure (.lst ((l.drop 1).map .str)) := by
    show pure (D.lst (DL.cutD (l.map .str) (some 1) none)) = _
    rw [cut1, List.map_drop]
  simp only [pure_bind, bind_assoc, asI_int, opSl_ppp, e1, opC_pp]
  have e2 : dZip [.lst (l.map .str), .lst ((l.drop 1).map .str)] = pure ((l.zip (l.drop 1)).map fun p => .tup false [.str p.1, .str p.2]) := by
    show pure (zipD _ _) = _
    unfold zipD
    rw [List.zip_map, List.map_map]
    rfl
  rw [e2, pure_bind, lcD_pure2 (mt := fun _ _ => M.stuck) (e := fun d => match d with
    | .tup _ [.str x, .str y] => D.bl (decide (x.cps.toList < y.cps.toList))
    | d => d) (lim_ge _ ?h0) ?h1 ?h2]
  · have e3 : (((l.zip (l.drop 1)).map fun p => D.tup false [.str p.1, .str p.2]).map fun d => match d with
      | .tup _ [.str x, .str y] => D.bl (decide (x.cps.toList < y.cps.toList))
      | d => d) = (l.zip (l.drop 1)).map fun p => .bl (decide (p.1.cps.toList < p.2.cps.toList)) := by
      rw [List.map_map]
      rfl
    rw [e3]
    simp only [pure_bind, opC_pp, ar1_one, dAll_map, zip_tail]
    rfl
  · rw [List.length_map, List.length_zip]; omega
  · intro d hd
    obtain ⟨p, _, rfl⟩ := List.mem_map.mp hd
    simp only [un2_t, op2_pp, dLt_ss]
  · intro d hd
    obtain ⟨p, _, rfl⟩ := List.mem_map.mp hd
    exact ⟨_, _, _, rfl⟩
/-! ### rising is: none twice -/
theorem ris_pair : ∀ l : List Str, risS l = true ↔ l.Pairwise (fun a b => a.cps.toList < b.cps.toList)
  | [] => by simp [risS]
  | [x] => by simp [risS]
  | x :: y :: l => by
    have ih := ris_pair (y :: l)
    unfold risS
    rw [Bool.and_eq_true, ih, decide_eq_true_eq, List.pairwise_cons (a := x)]
    refine ⟨fun ⟨h1, h2⟩ => ⟨fun z hz => ?_, h2⟩, fun ⟨h1, h2⟩ => ⟨h1 y (List.mem_cons_self ..), h2⟩⟩
    rcases List.mem_cons.mp hz with rfl | hz
    · exact h1
    · exact List.lt_trans h1 ((List.pairwise_cons.mp h2).1 z hz)
theorem str_ext {x y : Str} (h : x.cps.toList = y.cps.toList) : x = y := by
  obtain ⟨⟨a⟩⟩ := x
  obtain ⟨⟨b⟩⟩ := y
  cases h
  rfl
theorem ris_nodup (l : List Str) : risS (l.mergeSort leS) = decide l.Nodup := by
  have ps : (l.mergeSort leS).Pairwise fun a b => leS a b = true := List.pairwise_mergeSort (fun a b c => leS_trans a b c) (fun a b => leS_total a b) l
  have pm := List.mergeSort_perm l leS
  by_cases h : l.Nodup
  · rw [decide_eq_true h, ris_pair]
    have nd : (l.mergeSort leS).Nodup := pm.nodup_iff.mpr h
    refine (ps.and nd).imp fun {a b} ⟨h1, h2⟩ => ?_
    have := (leS_iff a b).mp h1
    rcases List.le_iff_lt_or_eq.mp this with q | q
    · exact q
    · exact absurd (str_ext q) h2
  · rw [decide_eq_false h]
    cases e : risS (l.mergeSort leS) with
    | false => rfl
    | true =>
      refine absurd ?_ h
      have := (ris_pair _).mp e
      refine pm.nodup_iff.mp (this.imp fun {a b} q => ?_)
      rintro rfl
      exact List.lt_irrefl _ q
end K1
set_option linter.all false
set_option maxRecDepth 100000
set_option autoImplicit false
namespace K1
open PySem PySem.Spec PyProof.Rows L2 DL
variable {Ω : Om}
theorem mixed_in {γ : Type} (p t : Int) (hp : 0 < p) : ∀ (cells : List Int) (b0 : Int), ∃ b1 : Int, (b1 = b0 ∨ (0 ≤ b1 ∧ b1 < p)) ∧
    (loopD (fun (b6 : D) v7 => (op2 dMod ((opC (op2 dAdd (op2 dAdd (op2 dMul (pure b6) (pure (.int 48271))) (pure v7)) (pure (.int t))) (pure [])) >>= ar1 dInt) (pure (.int p))) >>= fun v8 => pure (.nx v8)) (cells.map .int) (.int b0) : M (Fl D γ)) = pure (.nx (.int b1))
  | [], b0 => ⟨b0, .inl rfl, rfl⟩
  | c :: cells, b0 => by
    have e : (op2 dMod ((opC (op2 dAdd (op2 dAdd (op2 dMul (pure (.int b0)) (pure (.int 48271))) (pure (.int c))) (pure (.int t))) (pure [])) >>= ar1 dInt) (pure (.int p))) = pure (.int ((b0 * 48271 + c + t) % p)) := by
      simp only [op2_pp, dMul_small (show -(2 ^ 64) < (48271 : Int) ∧ (48271 : Int) < 2 ^ 64 by decide), dAdd_ii, opC_pp, pure_bind, ar1_one, dInt_i, dMod_p hp]
    obtain ⟨b1, h1, h2⟩ := mixed_in (γ := γ) p t hp cells ((b0 * 48271 + c + t) % p)
    refine ⟨b1, ?_, ?_⟩
    · rcases h1 with rfl | h1
      · exact .inr ⟨Int.emod_nonneg _ (by omega), Int.emod_lt_of_pos _ hp⟩
      · exact .inr h1
    · rw [List.map_cons]
      unfold loopD
      rw [e, pure_bind, pure_bind]
      exact h2
theorem mixed_one (p t : Int) (hp : 0 < p ∧ p < 2147483659) (ht : 0 ≤ t ∧ t ≤ 2 ^ 41) (cells : List Int) (i : Int) : ∃ j : Int,
    ((op2 dAdd (op2 dMul (pure (.int 69621)) (pure (.int t))) (op2 dFdiv (pure (.int p)) (pure (.int 41)))) >>= fun v5 => Fl.seq (((pure (.lst (cells.map .int))) >>= dIter) >>= fun ds => (loopD (fun (b6 : D) v7 => (op2 dMod ((opC (op2 dAdd (op2 dAdd (op2 dMul (pure b6) (pure (.int 48271))) (pure v7)) (pure (.int t))) (pure [])) >>= ar1 dInt) (pure (.int p))) >>= fun v8 => pure (.nx v8)) ds v5 : M (Fl D D)))
      fun (b6 : D) => (op2 dAdd (op2 dMul (pure (.int i)) (pure (.int 2147483659))) (op2 dMod ((opC (op2 dPow (pure b6) (pure (.int 5))) (pure [])) >>= ar1 dInt) (pure (.int p)))) >>= fun v9 => (pure (.nx v9) : M (Fl D D))) = pure (.nx (D.int j)) := by
  have e : (op2 dAdd (op2 dMul (pure (.int 69621)) (pure (.int t))) (op2 dFdiv (pure (.int p)) (pure (.int 41)))) = pure (.int (69621 * t + p / 41)) := by
    simp only [op2_pp, dMul_small' (show -(2 ^ 64) < (69621 : Int) ∧ (69621 : Int) < 2 ^ 64 by decide), dFdiv_p (show (0 : Int) < 41 ∧ (41 : Int) < 1073741824 by decide), dAdd_ii]
  obtain ⟨b1, h1, h2⟩ := mixed_in (γ := D) p t hp.1 cells (69621 * t + p / 41)
  have hb : 0 ≤ b1 ∧ b1 < 2 ^ 63 := by
    have := Int.ediv_nonneg (show 0 ≤ p by omega) (show (0 : Int) ≤ 41 by decide)
    have : p / 41 ≤ p := Int.ediv_le_self _ (by omega)
    rcases h1 with rfl | h1 <;> omega
  have e2 : (op2 dAdd (op2 dMul (pure (.int i)) (pure (.int 2147483659))) (op2 dMod ((opC (op2 dPow (pure (.int b1)) (pure (.int 5))) (pure [])) >>= ar1 dInt) (pure (.int p)))) = pure (.int (i * 2147483659 + b1 ^ (5 : Int).toNat % p)) := by
    simp only [op2_pp, dMul_small (show -(2 ^ 64) < (2147483659 : Int) ∧ (2147483659 : Int) < 2 ^ 64 by decide), dPow_p (i := b1) (j := 5) ⟨by decide, by decide, by omega⟩, opC_pp, pure_bind, ar1_one, dInt_i, dMod_p hp.1, dAdd_ii]
  refine ⟨i * 2147483659 + b1 ^ (5 : Int).toNat % p, ?_⟩
  rw [e, pure_bind, pure_bind, dIter_l, pure_bind, h2, seq_nx, e2, pure_bind]
theorem mixed_wp (S : DS) (h0 : 0 ≤ S.turn) (h1 : S.turn ≤ 2 ^ 40) : ∃ i : Int, f__law_mixed Ω S = .ok (.int i) { S with turn := S.turn + 1 } := by
  have key : ∀ t : Int, 0 ≤ t ∧ t ≤ 2 ^ 41 → ∃ j : Int, (Fl.seq ((((opC (pure (.int 2147483629)) (opC (pure (.int 2147483587)) (opC (pure (.int 2147483579)) (opC (pure (.int 2147483563)) (pure []))))) >>= mkLst) >>= dIter) >>= fun ds => (loopD (fun (b3 : D) v4_prime => (op2 dAdd (op2 dMul (pure (.int 69621)) (pure (.int t))) (op2 dFdiv (pure v4_prime) (pure (.int 41)))) >>= fun v5_blend => Fl.seq (((pure (.lst (Ω.cells.map .int))) >>= dIter) >>= fun ds => (loopD (fun (b6 : D) v7_cell => (op2 dMod ((opC (op2 dAdd (op2 dAdd (op2 dMul (pure b6) (pure (.int 48271))) (pure v7_cell)) (pure (.int t))) (pure [])) >>= ar1 dInt) (pure v4_prime)) >>= fun v8_blend => pure (.nx v8_blend)) ds v5_blend : M (Fl D D))) fun (b6 : D) => (op2 dAdd (op2 dMul (pure b3) (pure (.int 2147483659))) (op2 dMod ((opC (op2 dPow (pure b6) (pure (.int 5))) (pure [])) >>= ar1 dInt) (pure v4_prime))) >>= fun v9_found => pure (.nx v9_found)) ds (.int 0) : M (Fl D Unit))) fun (b3 : D) => (pure b3) >>= fun d => (pure (.rt d) : M (Fl Unit Unit))) = pure (.rt (.int j)) := fun t ht => by
    obtain ⟨j1, e1⟩ := mixed_one 2147483629 t (by decide) ht Ω.cells 0
    obtain ⟨j2, e2⟩ := mixed_one 2147483587 t (by decide) ht Ω.cells j1
    obtain ⟨j3, e3⟩ := mixed_one 2147483579 t (by decide) ht Ω.cells j2
    obtain ⟨j4, e4⟩ := mixed_one 2147483563 t (by decide) ht Ω.cells j3
    refine ⟨j4, ?_⟩
    simp only [opC_pp, pure_bind]
    rw [mkLst_p (by decide)]
    simp only [pure_bind, dIter_l]
    unfold loopD
    simp only [pure_bind, dIter_l] at e1 e2 e3 e4
    rw [e1, pure_bind]
    show Fl.seq (loopD _ _ (D.int j1)) _ = _
    unfold loopD
    rw [e2, pure_bind]
    show Fl.seq (loopD _ _ (D.int j2)) _ = _
    unfold loopD
    rw [e3, pure_bind]
    show Fl.seq (loopD _ _ (D.int j3)) _ = _
    unfold loopD
    rw [e4, pure_bind]
    rfl
  obtain ⟨j, e⟩ := key (S.turn + 1) ⟨by omega, by omega⟩
  refine ⟨j, ?_⟩
  have e' := congrFun (congrArg Fl.fin e) { S with turn := S.turn + 1 }
  exact e'
theorem bind_ok {α β : Type} {m : M α} {f : α → M β} {S S1 : DS} {a : α} (h : m S = .ok a S1) : (m >>= f) S = f a S1 := by
  show M.bind m f S = _
  unfold M.bind
  rw [h]
theorem draw_eq {r : Nat} (h0 : 0 < r) (h1 : r < 1073741824) (S : DS) (t0 : 0 ≤ S.turn) (t1 : S.turn ≤ 2 ^ 40) : ∃ (x : Int) (S' : DS), f__law_draw Ω (.int (r : Nat)) S = .ok (.int (x % (r : Nat))) S' ∧ 0 ≤ S'.turn ∧ S'.turn ≤ S.turn + 1 := by
  have em : ∀ i : Int, dMod (.int i) (.int (r : Nat)) = pure (.int (i % (r : Nat))) := fun i => dMod_p (by omega)
  have ed : ∀ i : Int, dFdiv (.int i) (.int (r : Nat)) = pure (.int (i / (r : Nat))) := fun i => dFdiv_p ⟨by omega, by omega⟩
  have tail : ∀ S1 : DS, ((op2 dMod ((opC (getRest) (pure [])) >>= ar1 dInt) (pure (.int (r : Nat)))) >>= fun v2_found => (op2 dFdiv (getRest) (pure (.int (r : Nat)))) >>= fun d => putRest d >>= fun _ => (pure v2_found) >>= fun d => (pure (.rt d) : M (Fl Unit Unit))) S1 = .ok (.rt (.int (S1.rest % (r : Nat)))) { S1 with rest := S1.rest / (r : Nat) } := fun S1 => by
    have a1 : (op2 dMod ((opC (getRest) (pure [])) >>= ar1 dInt) (pure (.int (r : Nat)))) S1 = .ok (.int (S1.rest % (r : Nat))) S1 := by
      show dMod (.int S1.rest) (.int (r : Nat)) S1 = _
      rw [em]; rfl
    have a2 : (op2 dFdiv (getRest) (pure (.int (r : Nat)))) S1 = .ok (.int (S1.rest / (r : Nat))) S1 := by
      show dFdiv (.int S1.rest) (.int (r : Nat)) S1 = _
      rw [ed]; rfl
    rw [bind_ok a1, bind_ok a2]
    rfl
  have head : (((op2 dEq (getRest) (pure (.int 0))) >>= asB)) S = .ok (decide (S.rest = 0)) S := by
    show (dEq (.int S.rest) (.int 0) >>= asB) S = _
    rw [dEq_p (sh_i _) (sh_i _), eqv_ii]; rfl
  have whole : ∀ S1 : DS, ((((op2 dEq (getRest) (pure (.int 0))) >>= asB) >>= fun b => if b = true then (((anyGreat) >>= fun x => if x = true then (popGreat) else ((opC (pure .st) (pure [])) >>= fun ds => noErr ((sr0 (f__law_mixed Ω)) ds))) >>= fun d => putRest d >>= fun _ => pure (.nx ())) else (pure (.nx ()) : M (Fl Unit Unit)))) S = .ok (.nx ()) S1 → f__law_draw Ω (.int (r : Nat)) S = .ok (.int (S1.rest % (r : Nat))) { S1 with rest := S1.rest / (r : Nat) } := fun S1 h => by
    have e1 : f__law_draw Ω (.int (r : Nat)) S = Fl.fin (Fl.seq (fun _ => .ok (.nx ()) S1) fun (_ : Unit) => (op2 dMod ((opC (getRest) (pure [])) >>= ar1 dInt) (pure (.int (r : Nat)))) >>= fun v2_found => (op2 dFdiv (getRest) (pure (.int (r : Nat)))) >>= fun d => putRest d >>= fun _ => (pure v2_found) >>= fun d => (pure (.rt d) : M (Fl Unit Unit))) S := by
      unfold f__law_draw Fl.fin Fl.seq
      show M.bind (M.bind _ _) _ S = M.bind (M.bind _ _) _ S
      unfold M.bind
      rw [show (((op2 dEq (getRest) (pure (.int 0))) >>= asB) >>= fun b => if b = true then (((anyGreat) >>= fun x => if x = true then (popGreat) else ((opC (pure .st) (pure [])) >>= fun ds => noErr ((sr0 (f__law_mixed Ω)) ds))) >>= fun d => putRest d >>= fun _ => pure (.nx ())) else (pure (.nx ()) : M (Fl Unit Unit))) S = .ok (.nx ()) S1 from h]
    rw [e1]
    unfold Fl.fin Fl.seq
    show M.bind (M.bind _ _) _ S = _
    unfold M.bind
    simp only [tail]
    rfl
  by_cases hz : S.rest = 0
  · have hd : decide (S.rest = 0) = true := decide_eq_true hz
    cases hg : S.great with
    | cons g gs =>
      refine ⟨g, _, whole { S with great := gs, rest := g } ?_, t0, by show S.turn ≤ S.turn + 1; omega⟩
      rw [bind_ok head, hd, if_pos rfl]
      have a1 : anyGreat S = .ok true S := by unfold anyGreat; rw [hg]; rfl
      have a2 : popGreat S = .ok (.int g) { S with great := gs } := by unfold popGreat; rw [hg]
      have a3 : ((anyGreat) >>= fun x => if x = true then (popGreat) else ((opC (pure .st) (pure [])) >>= fun ds => noErr ((sr0 (f__law_mixed Ω)) ds))) S = .ok (.int g) { S with great := gs } := by
        rw [bind_ok a1, if_pos rfl, a2]
      rw [bind_ok a3]
      rfl
    | nil =>
      obtain ⟨i, hi⟩ := mixed_wp (Ω := Ω) S t0 t1
      refine ⟨i, _, whole { S with turn := S.turn + 1, rest := i } ?_, by show 0 ≤ S.turn + 1; omega, Int.le_refl _⟩
      rw [bind_ok head, hd, if_pos rfl]
      have a1 : anyGreat S = .ok false S := by unfold anyGreat; rw [hg]; rfl
      have a3 : ((anyGreat) >>= fun x => if x = true then (popGreat) else ((opC (pure .st) (pure [])) >>= fun ds => noErr ((sr0 (f__law_mixed Ω)) ds))) S = .ok (.int i) { S with turn := S.turn + 1 } := by
        rw [bind_ok a1, if_neg Bool.false_ne_true]
        show noErr (f__law_mixed Ω) S = _
        unfold noErr
        rw [hi]
      rw [bind_ok a3]
      rfl
  · have hd : decide (S.rest = 0) = false := decide_eq_false hz
    refine ⟨S.rest, _, whole S ?_, t0, by show S.turn ≤ S.turn + 1; omega⟩
    rw [bind_ok head, hd, if_neg Bool.false_ne_true]
    rfl
theorem draw_dr {r : Nat} (h0 : 0 < r) (h1 : r < 1073741824) : Dr 1 (f__law_draw Ω (.int (r : Nat))) (Below r) := fun S c t0 t1 tc => by
  obtain ⟨x, S', e, q0, q1⟩ := draw_eq (Ω := Ω) h0 h1 S t0 (by omega)
  unfold M.wp
  rw [e]
  have nn := Int.emod_nonneg x (show ((r : Nat) : Int) ≠ 0 by omega)
  have lt := Int.emod_lt_of_pos x (show (0 : Int) < (r : Nat) by omega)
  exact ⟨⟨(x % (r : Nat)).toNat, by rw [Int.toNat_of_nonneg nn], by omega⟩, q0, by omega⟩
end K1
set_option linter.all false
set_option maxRecDepth 100000
set_option autoImplicit false
namespace K1
open PySem PySem.Spec PyProof.Rows L2 DL
variable {Ω : Om}
theorem mkTup2 (a b : D) : mkTup [a, b] = pure (.tup false [a, b]) := mkTup_p (show 2 ≤ lim by decide)
theorem mkLst1 (a : D) : mkLst [a] = pure (.lst [a]) := mkLst_p (show 1 ≤ lim by decide)
theorem mkLst0 : mkLst [] = pure (.lst []) := mkLst_p (show 0 ≤ lim by decide)
theorem opC_pm2 (a : D) (m : M D) : opC (pure a) (opC m (pure [])) = m >>= fun y => pure [a, y] := by
  show (m >>= fun x => pure [x]) >>= (fun xs => pure (a :: xs)) = _
  rw [bind_assoc]
  rfl
theorem opC_m1 (m : M D) : opC m (pure []) = m >>= fun y => pure [y] := rfl
theorem pick_dr {xs : List D} (h0 : xs ≠ []) (h1 : xs.length < 1073741824) : Dr 1 (f__law_pick Ω (.lst xs)) (fun d => d ∈ xs) := by
  unfold f__law_pick
  refine Dr.fin ?_
  simp only [opC_pp, pure_bind, ar1_one, dLen_l, sr1_one, op2_pr, bind_assoc]
  refine Dr.bind (k1 := 1) (k2 := 0) (Dr.noErr (draw_dr (List.length_pos_iff.mpr h0) h1)) fun y hy => ?_
  obtain ⟨i, rfl, hi⟩ := hy
  rw [(dIx_nat (t := false) (List.getElem?_eq_getElem hi)).2, pure_bind]
  exact Dr.pure ⟨_, rfl, List.getElem_mem hi⟩
theorem pick_ls {xs : List D} (h0 : xs ≠ []) (h1 : xs.length ≤ 1000) {P : D → Prop} (hp : ∀ d ∈ xs, P d) : Dr 1 (f__law_pick Ω (.lst xs)) P := (pick_dr h0 (by omega)).mono (Nat.le_refl _) hp
def relE (p : Str × Int) : D := .tup false [.str p.1, .int p.2]
theorem relD_eq (r : Rel) : relD r = .tup true (r.map relE) := rfl
structure RelOk (r : Rel) : Prop where
  ok : Okr r
  ne : 1 ≤ r.length
  le : r.length ≤ 3
  nm : ∀ p ∈ r, isName p.1 = true ∧ p.1.length ≤ 8
  rs : risS (r.map (·.1)) = true
theorem names_cut : ∀ n1 n2 : Nat, n1 < 3 → n2 < 3 → ∃ L : List Str, cutD (cutD [D.str "child", .str "par", .str "r", .str "s", .str "t"] (some (n1 : Nat)) none) none (some (1 + (n2 : Nat))) = L.map .str ∧ L.Nodup ∧ 1 ≤ L.length ∧ L.length ≤ 3 ∧ (∀ x ∈ L, isName x = true ∧ x.length ≤ 8) ∧ risS L = true
  | 0, 0, _, _ => ⟨["child"], rfl, by decide, by decide, by decide, by decide +kernel, by decide +kernel⟩
  | 0, 1, _, _ => ⟨["child", "par"], rfl, by decide, by decide, by decide, by decide +kernel, by decide +kernel⟩
  | 0, 2, _, _ => ⟨["child", "par", "r"], rfl, by decide, by decide, by decide, by decide +kernel, by decide +kernel⟩
  | 1, 0, _, _ => ⟨["par"], rfl, by decide, by decide, by decide, by decide +kernel, by decide +kernel⟩
  | 1, 1, _, _ => ⟨["par", "r"], rfl, by decide, by decide, by decide, by decide +kernel, by decide +kernel⟩
  | 1, 2, _, _ => ⟨["par", "r", "s"], rfl, by decide, by decide, by decide, by decide +kernel, by decide +kernel⟩
  | 2, 0, _, _ => ⟨["r"], rfl, by decide, by decide, by decide, by decide +kernel, by decide +kernel⟩
  | 2, 1, _, _ => ⟨["r", "s"], rfl, by decide, by decide, by decide, by decide +kernel, by decide +kernel⟩
  | 2, 2, _, _ => ⟨["r", "s", "t"], rfl, by decide, by decide, by decide, by decide +kernel, by decide +kernel⟩
theorem relations_dr : Dr 5 (f__law_relations Ω) fun d => ∃ r, d = relD r ∧ RelOk r := by
  unfold f__law_relations opSl
  refine Dr.fin ?_
  simp only [opC_pp, pure_bind, ar1_one, sr1_one, op2_pr, bind_assoc]
  refine Dr.gd (by decide) ?_
  rw [mkLst_p (by decide)]
  simp only [pure_bind]
  refine Dr.seq (k1 := 5) (k2 := 0) (P := fun b => ∃ r, b = r.map relE ∧ RelOk r) ?_ ?_
  · refine Dr.bind (k1 := 1) (k2 := 4) (Dr.noErr (draw_dr (r := 3) (by decide) (by decide))) fun y hy => ?_
    obtain ⟨n1, rfl, h1⟩ := hy
    simp only [asI_int, pure_bind]
    show Dr 4 (pure (D.lst (cutD _ _ _)) >>= _) _
    rw [pure_bind]
    refine Dr.bind (k1 := 1) (k2 := 3) (Dr.noErr (draw_dr (r := 3) (by decide) (by decide))) fun y hy => ?_
    obtain ⟨n2, rfl, h2⟩ := hy
    simp only [dAdd_ii, asI_int, pure_bind]
    show Dr 3 (pure (D.lst (cutD _ _ _)) >>= _) _
    obtain ⟨L, e, nd, l1, l3, hL, hris⟩ := names_cut n1 n2 h1 h2
    rw [pure_bind, dIter_l, pure_bind, e]
    refine Dr.mono (k := 1 * (L.map D.str).length) (Dr.loop (γ := Unit) (fun ds b => ∃ (r : Rel) (xs : List Str), b = r.map relE ∧ ds = xs.map .str ∧ r.map (·.1) ++ xs = L ∧ ∀ p ∈ r, 1 ≤ p.2 ∧ p.2 ≤ 3) (fun d ds b hi => ?_) _ _ ⟨[], L, rfl, rfl, rfl, fun p hp => nomatch hp⟩) (by rw [List.length_map]; omega) (fun fl hf => ?_)
    · obtain ⟨r, xs, rfl, hds, hr, hp⟩ := hi
      cases xs with
      | nil => simp at hds
      | cons x xs =>
        rw [List.map_cons, List.cons.injEq] at hds
        obtain ⟨rfl, rfl⟩ := hds
        rw [mkLst_p (by decide)]
        simp only [pure_bind, opC_pp, sr1_one, bind_assoc]
        rw [show opC (pure (D.str x)) (opC (noErr (f__law_pick Ω (.lst [.int 1, .int 2, .int 2, .int 3]))) (pure [])) = (noErr (f__law_pick Ω (.lst [.int 1, .int 2, .int 2, .int 3])) >>= fun y => pure [D.str x, y]) from opC_pm2 _ _, bind_assoc]
        refine Dr.mono (k := 1 + 0) ?_ (Nat.le_refl _) fun _ h => h
        refine Dr.bind (Dr.noErr (pick_ls (P := fun d => ∃ i : Int, d = .int i ∧ 1 ≤ i ∧ i ≤ 3) (by simp) (by decide) fun d hd => ?_)) fun y hy => ?_
        · simp only [List.mem_cons, List.not_mem_nil, or_false] at hd
          rcases hd with rfl | rfl | rfl | rfl
          · exact ⟨1, rfl, by decide, by decide⟩
          · exact ⟨2, rfl, by decide, by decide⟩
          · exact ⟨2, rfl, by decide, by decide⟩
          · exact ⟨3, rfl, by decide, by decide⟩
        · obtain ⟨i, rfl, i1, i3⟩ := hy
          rw [pure_bind, mkTup2, pure_bind]
          have hlen : r.length ≤ 3 := by
            have := congrArg List.length hr
            rw [List.length_append, List.length_map, List.length_cons] at this
            omega
          refine Dr.gd (Nat.lt_of_le_of_lt (show (r.map relE).length ≤ 3 by rw [List.length_map]; exact hlen) (by decide)) (Dr.pure ⟨_, rfl, r ++ [(x, i)], xs, by simp [relE], rfl, by simpa using hr, fun p hp' => ?_⟩)
          rcases List.mem_append.mp hp' with hp' | hp'
          · exact hp p hp'
          · simp at hp'; subst hp'; exact ⟨i1, i3⟩
    · obtain ⟨b', rfl, r, xs, rfl, hds, hr, hp⟩ := hf
      have : xs = [] := by cases xs <;> simp at hds ⊢
      subst this
      rw [List.append_nil] at hr
      have hlen : r.length = L.length := by rw [← hr, List.length_map]
      exact ⟨_, rfl, r, rfl, ⟨⟨by rw [hr]; exact nd, hp⟩, by omega, by omega, fun p hp' => hL p.1 (by rw [← hr]; exact List.mem_map.mpr ⟨p, hp', rfl⟩), by rw [hr]; exact hris⟩⟩
  · rintro b ⟨r, rfl, hr⟩
    simp only [dTupleX_l, pure_bind]
    exact Dr.pure ⟨_, rfl, r, rfl, hr⟩
end K1
set_option linter.all false
set_option maxRecDepth 100000
set_option autoImplicit false
namespace K1
open PySem PySem.Spec PyProof.Rows L2 DL
variable {Ω : Om}
theorem cut_len {α : Type} (xs : List α) (lo hi : Option Int) : (DL.cutD xs lo hi).length ≤ xs.length := by
  unfold DL.cutD
  rw [List.length_take, List.length_drop]
  omega
theorem cutS_len (z : Str) (lo hi : Option Int) : (cutS z lo hi).length ≤ z.length := by
  exact cutS_length z lo hi
theorem dCut_tt (t : Bool) (xs : List D) (lo hi : Option Int) : ∃ t', dCut (.tup t xs) lo hi = pure (.tup t' (DL.cutD xs lo hi)) := by
  by_cases h : HT.sIx xs.length 0 lo = 0 ∧ HT.sIx xs.length xs.length hi = xs.length
  · refine ⟨t, ?_⟩
    show pure (if _ then _ else _) = _
    rw [if_pos h]
    unfold DL.cutD
    rw [h.1, h.2]
    simp
  · refine ⟨false, ?_⟩
    show pure (if _ then _ else _) = _
    rw [if_neg h]
theorem dAdd_tt (t t' : Bool) (xs ys : List D) (h : xs.length + ys.length ≤ lim) : ∃ t2, dAdd (.tup t xs) (.tup t' ys) = pure (.tup t2 (xs ++ ys)) := by
  have e : dAdd (.tup t xs) (.tup t' ys) = pure (if xs.isEmpty then .tup t' ys else if ys.isEmpty then .tup t xs else .tup false (xs ++ ys)) := gd_pos h
  rw [e]
  cases xs with
  | nil => exact ⟨t', rfl⟩
  | cons x xs =>
    cases ys with
    | nil => exact ⟨t, by simp⟩
    | cons y ys => exact ⟨false, rfl⟩
theorem niceT {b k : Nat} {t : Bool} {xs : List D} : nice b (k + 1) (.tup t xs) = true ↔ xs.length ≤ b ∧ ∀ x ∈ xs, nice b k x = true := by
  simp only [nice, Bool.and_eq_true, decide_eq_true_eq, List.all_eq_true]
theorem niceL {b k : Nat} {xs : List D} : nice b (k + 1) (.lst xs) = true ↔ xs.length ≤ b ∧ ∀ x ∈ xs, nice b k x = true := by
  simp only [nice, Bool.and_eq_true, decide_eq_true_eq, List.all_eq_true]
theorem niceS {b k : Nat} {z : Str} : nice b k (.str z) = true ↔ z.length ≤ b := by
  cases k <;> simp [nice]
theorem niceI {b k : Nat} {z : Int} : nice b k (.int z) = true := by
  cases k <;> simp [nice]
theorem niceB {b k : Nat} {z : Bool} : nice b k (.bl z) = true := by
  cases k <;> simp [nice]
theorem niceN {b k : Nat} : nice b k .non = true := by
  cases k <;> simp [nice]
theorem mkTup0 : mkTup [] = pure (.tup false []) := mkTup_p (show 0 ≤ lim by decide)
theorem mkTup1 (x : D) : mkTup [x] = pure (.tup false [x]) := mkTup_p (show 1 ≤ lim by decide)
theorem ret_pick {β γ : Type} {ml : M (List D)} {xs : List D} {P : D → Prop} (e : ml = pure xs) (h0 : xs ≠ []) (h1 : xs.length ≤ 1000) (hp : ∀ d ∈ xs, P d) :
    Dr 1 (((opC (pure .st) (opC (ml >>= mkLst) (pure []))) >>= fun ds => noErr ((sr1 (f__law_pick Ω)) ds)) >>= fun d => (pure (.rt d) : M (Fl β γ))) fun fl => ∃ d, fl = .rt d ∧ P d := by
  subst e
  rw [pure_bind, mkLst_p (lim_ge _ h1), opC_pp, opC_pp, pure_bind, sr1_one]
  exact Dr.bind (k1 := 1) (k2 := 0) (Dr.noErr (pick_ls h0 h1 hp)) fun y hy => Dr.pure ⟨y, rfl, hy⟩
theorem seqRt {β β' γ : Type} {k : Nat} {m : M (Fl β γ)} {f : β → M (Fl β' γ)} {P : D → Prop} (h : Dr k m fun fl => ∃ d, fl = .rt d ∧ P d) : Dr k (Fl.seq m f) fun fl => ∃ d, fl = .rt d ∧ P d := by
  unfold Fl.seq
  refine Dr.mono (k := k + 0) (h.bind fun fl hf => ?_) (Nat.le_refl _) fun _ h => h
  obtain ⟨d, rfl, hd⟩ := hf
  exact Dr.pure ⟨d, rfl, hd⟩
theorem near_small {n k b : Nat} {v : D} (hv : v = .non ∨ ∃ c, v = .bl c) : Dr 1 (f__law_near Ω (n + 1) v) fun d => nice (3 * b + 30) (k + 1) d = true := by
  unfold f__law_near
  refine Dr.fin ?_
  have e : ((((op2 dIs (pure v) (pure .non)) >>= asB) >>= fun x => if x = true then pure true else (((pure v) >>= dIsi .bool) >>= asB))) = pure true := by
    rcases hv with rfl | ⟨c, rfl⟩
    · rfl
    · rfl
  rw [e, pure_bind, if_pos rfl]
  refine seqRt (ret_pick (xs := [.int 0, .str "", .tup false [], .int 1, .non]) ?_ (by simp) (show 5 ≤ 1000 by decide) fun d hd => ?_)
  · rfl
  · simp only [List.mem_cons, List.not_mem_nil, or_false] at hd
    rcases hd with rfl | rfl | rfl | rfl | rfl
    · exact niceI
    · exact niceS.mpr (Nat.zero_le _)
    · exact niceT.mpr ⟨Nat.zero_le _, fun x hx => nomatch hx⟩
    · exact niceI
    · exact niceN
theorem nice_one {b k : Nat} {x : D} (h : ∀ j, nice b j x = true) (hb : 1 ≤ b) : nice b (k + 1) (.tup false [x]) = true := niceT.mpr ⟨hb, fun y hy => by
  simp only [List.mem_cons, List.not_mem_nil, or_false] at hy
  subst hy; exact h k⟩
theorem near_str {n k b : Nat} {z : Str} (hz : z.length ≤ b) (hb : b ≤ 300) : Dr 1 (f__law_near Ω (n + 1) (.str z)) fun d => nice (3 * b + 30) (k + 1) d = true := by
  unfold f__law_near
  refine Dr.fin ?_
  have e : ((((op2 dIs (pure (.str z)) (pure .non)) >>= asB) >>= fun x => if x = true then pure true else (((pure (.str z)) >>= dIsi .bool) >>= asB))) = pure false := rfl
  have e2 : (((pure (.str z)) >>= dIsi .str) >>= asB) = pure true := rfl
  rw [e, pure_bind, if_neg Bool.false_ne_true, seq_nx, e2, pure_bind, if_pos rfl]
  have ll : (1000 : Nat) ≤ lim := by decide
  have a1 : op2 dAdd (pure (.str z)) (pure (.str "x")) = pure (.str (z ++ "x")) := gd_pos (show z.length + 1 ≤ lim by omega)
  have a2 : opSl (pure (.str z)) ((pure (.int 1)) >>= asI) (pure none) = pure (.str (cutS z (some 1) none)) := gd_pos (show z.length ≤ lim by omega)
  have a3 : ((pure (.str z)) >>= asS >>= fun z => dUpper z []) = pure (.str (Txt.upper z)) := gd_pos (show z.length ≤ 5592405 by omega)
  refine seqRt (ret_pick (xs := [.str "", .str (z ++ "x"), .str (cutS z (some 1) none), .str "zz", .str (Txt.upper z), .non, .int 0, .tup false [.str z], .str "x", .str "y", .str "r", .str "par", .str "same", .str "row"]) ?_ (by simp) (show 14 ≤ 1000 by decide) fun d hd => ?_)
  · rw [a1, a2, a3]
    simp only [opC_pp, pure_bind, mkTup1]
  · have l1 := cutS_len z (some 1) none
    have l2 := len_upper z
    have l3 : (z ++ ("x" : Str)).length ≤ 3 * b + 30 := by
      rw [Str.length_append]
      show z.length + 1 ≤ _
      omega
    simp only [List.mem_cons, List.not_mem_nil, or_false] at hd
    rcases hd with rfl | rfl | rfl | rfl | rfl | rfl | rfl | rfl | rfl | rfl | rfl | rfl | rfl | rfl
    · exact niceS.mpr (Nat.zero_le _)
    · exact niceS.mpr l3
    · exact niceS.mpr (by omega)
    · exact niceS.mpr (show 2 ≤ 3 * b + 30 by omega)
    · exact niceS.mpr (by omega)
    · exact niceN
    · exact niceI
    · exact nice_one (fun j => niceS.mpr (by omega)) (by omega)
    · exact niceS.mpr (show 1 ≤ 3 * b + 30 by omega)
    · exact niceS.mpr (show 1 ≤ 3 * b + 30 by omega)
    · exact niceS.mpr (show 1 ≤ 3 * b + 30 by omega)
    · exact niceS.mpr (show 3 ≤ 3 * b + 30 by omega)
    · exact niceS.mpr (show 4 ≤ 3 * b + 30 by omega)
    · exact niceS.mpr (show 3 ≤ 3 * b + 30 by omega)
theorem near_int {n k b : Nat} {z : Int} : Dr 1 (f__law_near Ω (n + 1) (.int z)) fun d => nice (3 * b + 30) (k + 1) d = true := by
  unfold f__law_near
  refine Dr.fin ?_
  have e : ((((op2 dIs (pure (.int z)) (pure .non)) >>= asB) >>= fun x => if x = true then pure true else (((pure (.int z)) >>= dIsi .bool) >>= asB))) = pure false := rfl
  have e2 : (((pure (.int z)) >>= dIsi .str) >>= asB) = pure false := rfl
  have e3 : (((pure (.int z)) >>= dIsi .int) >>= asB) = pure true := rfl
  rw [e, pure_bind, if_neg Bool.false_ne_true, seq_nx, e2, pure_bind, if_neg Bool.false_ne_true, seq_nx, e3, pure_bind, if_pos rfl]
  refine seqRt (ret_pick (xs := [.int (z + 1), .int (z - 1), .bl true, .non, .int 1000, .tup false [.int z], .str "x"]) ?_ (by simp) (show 7 ≤ 1000 by decide) fun d hd => ?_)
  · simp only [opC_pp, pure_bind, mkTup1, op2_pp, dAdd_ii, dSub_ii]
  · simp only [List.mem_cons, List.not_mem_nil, or_false] at hd
    rcases hd with rfl | rfl | rfl | rfl | rfl | rfl | rfl
    · exact niceI
    · exact niceI
    · exact niceB
    · exact niceN
    · exact niceI
    · exact nice_one (fun j => niceI) (by omega)
    · exact niceS.mpr (show 1 ≤ 3 * b + 30 by omega)
end K1
set_option linter.all false
set_option maxRecDepth 100000
set_option autoImplicit false
namespace K1
open PySem PySem.Spec PyProof.Rows L2 DL
variable {Ω : Om}
theorem tail_near {β γ : Type} {b k : Nat} {v : D} {xs : List D} (hv : dList v = pure (.lst xs)) (hl : xs.length ≤ b) (hx : ∀ x ∈ xs, nice b k x = true) (hb : b ≤ 300) :
    Dr 1 (((opC (pure v) (pure [])) >>= ar1 dList) >>= fun v6_some => ((opC (pure .st) (opC ((opC (pure v6_some) (opC ((opC (op2 dAdd (pure v6_some) ((opC (pure (.int 0)) (pure [])) >>= mkLst)) (pure [])) >>= ar1 dTuple) (opC ((opC (opSl (pure v6_some) (pure none) ((op1 dNeg (pure (.int 1))) >>= asI)) (pure [])) >>= ar1 dTuple) (opC (pure .non) (opC ((opC (op2 dAdd (pure v6_some) (opSl (pure v6_some) ((op1 dNeg (pure (.int 1))) >>= asI) (pure none))) (pure [])) >>= ar1 dTuple) (opC ((opC (op1 dRevL (pure v6_some)) (pure [])) >>= ar1 dTuple) (opC ((pure []) >>= mkTup) (pure [])))))))) >>= mkLst) (pure []))) >>= fun ds => noErr ((sr1 (f__law_pick Ω)) ds)) >>= fun d => (pure (.rt d) : M (Fl β γ))) fun fl => ∃ d, fl = .rt d ∧ nice (3 * b + 30) (k + 1 + 1) d = true := by
  rw [opC_pp, pure_bind, ar1_one, hv, pure_bind]
  have ll : (1000 : Nat) ≤ lim := by decide
  have c1 := cut_len xs (some (-1)) none
  have c2 := cut_len xs none (some (-1))
  have a1 : op2 dAdd (pure (.lst xs)) ((opC (pure (.int 0)) (pure [])) >>= mkLst) = pure (.lst (xs ++ [.int 0])) := gd_pos (show xs.length + 1 ≤ lim by omega)
  have a2 : opSl (pure (.lst xs)) (pure none) ((op1 dNeg (pure (.int 1))) >>= asI) = pure (.lst (DL.cutD xs none (some (-1)))) := rfl
  have a3 : opSl (pure (.lst xs)) ((op1 dNeg (pure (.int 1))) >>= asI) (pure none) = pure (.lst (DL.cutD xs (some (-1)) none)) := rfl
  have a4 : op2 dAdd (pure (.lst xs)) (pure (.lst (DL.cutD xs (some (-1)) none))) = pure (.lst (xs ++ DL.cutD xs (some (-1)) none)) := gd_pos (show xs.length + (DL.cutD xs (some (-1)) none).length ≤ lim by omega)
  have a5 : op1 dRevL (pure (.lst xs)) = pure (.lst xs.reverse) := rfl
  have up : ∀ x ∈ xs, nice (3 * b + 30) k x = true := fun x hx' => nice_mono (by omega) k k x (Nat.le_refl _) (hx x hx')
  have big : ∀ ys : List D, ys.length ≤ 3 * b + 30 → (∀ y ∈ ys, nice (3 * b + 30) k y = true) → nice (3 * b + 30) (k + 1 + 1) (.tup false ys) = true := fun ys h1 h2 => nice_mono (Nat.le_refl _) (k + 1) (k + 1 + 1) _ (Nat.le_succ _) (niceT.mpr ⟨h1, h2⟩)
  refine ret_pick (xs := [.lst xs, .tup false (xs ++ [.int 0]), .tup false (DL.cutD xs none (some (-1))), .non, .tup false (xs ++ DL.cutD xs (some (-1)) none), .tup false xs.reverse, .tup false []]) ?_ (by simp) (show 7 ≤ 1000 by decide) fun d hd => ?_
  · rw [a1, a2, a3, a4, a5]
    simp only [opC_pp, pure_bind, ar1_one, dTuple_l, mkTup0]
  · simp only [List.mem_cons, List.not_mem_nil, or_false] at hd
    rcases hd with rfl | rfl | rfl | rfl | rfl | rfl | rfl
    · exact nice_mono (Nat.le_refl _) (k + 1) (k + 1 + 1) _ (Nat.le_succ _) (niceL.mpr ⟨by omega, up⟩)
    · refine big _ (by rw [List.length_append]; simp only [List.length_cons, List.length_nil]; omega) fun y hy => ?_
      rcases List.mem_append.mp hy with hy | hy
      · exact up y hy
      · simp only [List.mem_cons, List.not_mem_nil, or_false] at hy
        subst hy; exact niceI
    · exact big _ (by omega) fun y hy => up y (cut_mem hy)
    · exact niceN
    · refine big _ (by rw [List.length_append]; omega) fun y hy => ?_
      rcases List.mem_append.mp hy with hy | hy
      · exact up y hy
      · exact up y (cut_mem hy)
    · exact big _ (by rw [List.length_reverse]; omega) fun y hy => up y (List.mem_reverse.mp hy)
    · exact big _ (Nat.zero_le _) fun y hy => nomatch hy
theorem op2_mp (g : D → D → M D) (m : M D) (y : D) : op2 g m (pure y) = m >>= fun x => g x y := by
  show (m >>= fun x => pure y >>= fun y => g x y) = _
  simp only [pure_bind]
theorem seqD {β' γ : Type} {k1 k2 : Nat} {m : M (Fl Unit γ)} {f : Unit → M (Fl β' γ)} {P : D → Prop} (h : Dr k1 m fun fl => (∃ d, fl = .rt d ∧ P d) ∨ fl = .nx ()) (h' : Dr k2 (f ()) fun fl => ∃ d, fl = .rt d ∧ P d) : Dr (k1 + k2) (Fl.seq m f) fun fl => ∃ d, fl = .rt d ∧ P d := by
  unfold Fl.seq
  refine h.bind fun fl hf => ?_
  rcases hf with ⟨d, rfl, hd⟩ | rfl
  · exact (Dr.pure ⟨d, rfl, hd⟩ : Dr 0 _ _).mono (Nat.zero_le _) fun _ h => h
  · exact h'
theorem draws {k : Nat} (h0 : 0 < k) (h1 : k < 1073741824) : Dr 1 ((opC (pure .st) (opC (pure (.int (k : Nat))) (pure []))) >>= fun ds => noErr ((sr1 (f__law_draw Ω)) ds)) (Below k) := by
  rw [opC_pp, opC_pp, pure_bind, sr1_one]
  exact Dr.noErr (draw_dr h0 h1)
theorem near_dr {b : Nat} (hb : b ≤ 300) (hb1 : 1 ≤ b) : ∀ (n k : Nat) (v : D), nice b k v = true → k < n → k ≤ 50 → Dr (4 * n) (f__law_near Ω n v) fun d => nice (3 * b + 30) (k + 1) d = true
  | 0, k, v, _, h, _ => by omega
  | n + 1, k, v, hv, hk, hk5 => by
    cases v with
    | non => exact (near_small (.inl rfl)).mono (by omega) fun _ h => h
    | bl c => exact (near_small (.inr ⟨c, rfl⟩)).mono (by omega) fun _ h => h
    | int z => exact near_int.mono (by omega) fun _ h => h
    | str z => exact (near_str (niceS.mp hv) hb).mono (by omega) fun _ h => h
    | dct _ _ _ => cases k <;> simp [nice] at hv
    | st => cases k <;> simp [nice] at hv
    | opq _ => cases k <;> simp [nice] at hv
    | lst xs =>
      cases k with
      | zero => simp [nice] at hv
      | succ k =>
        obtain ⟨hl, hx⟩ := niceL.mp hv
        unfold f__law_near
        refine Dr.fin ?_
        have e : ((((op2 dIs (pure (.lst xs)) (pure .non)) >>= asB) >>= fun x => if x = true then pure true else (((pure (.lst xs)) >>= dIsi .bool) >>= asB))) = pure false := rfl
        have e2 : (((pure (.lst xs)) >>= dIsi .str) >>= asB) = pure false := rfl
        have e3 : (((pure (.lst xs)) >>= dIsi .int) >>= asB) = pure false := rfl
        have e4 : (((pure (.lst xs)) >>= dIsi .tuple) >>= asB) = pure false := rfl
        rw [e, pure_bind, if_neg Bool.false_ne_true, seq_nx, e2, pure_bind, if_neg Bool.false_ne_true, seq_nx, e3, pure_bind, if_neg Bool.false_ne_true, seq_nx, e4, pure_bind, if_neg Bool.false_ne_true, pure_bind, if_neg Bool.false_ne_true, seq_nx]
        exact (tail_near rfl hl hx hb).mono (by omega) fun _ h => h
    | tup t xs =>
      cases k with
      | zero => simp [nice] at hv
      | succ k =>
        have shv := nice_s hv (by omega)
        obtain ⟨hl, hx⟩ := niceT.mp hv
        unfold f__law_near
        refine Dr.fin ?_
        have e : ((((op2 dIs (pure (.tup t xs)) (pure .non)) >>= asB) >>= fun x => if x = true then pure true else (((pure (.tup t xs)) >>= dIsi .bool) >>= asB))) = pure false := rfl
        have e2 : (((pure (.tup t xs)) >>= dIsi .str) >>= asB) = pure false := rfl
        have e3 : (((pure (.tup t xs)) >>= dIsi .int) >>= asB) = pure false := rfl
        have e4 : (((pure (.tup t xs)) >>= dIsi .tuple) >>= asB) = pure true := rfl
        have e5 : ((op2 dNe (pure (.tup t xs)) ((pure []) >>= mkTup)) >>= asB) = pure (!xs.isEmpty) := by
          rw [pure_bind, mkTup0, op2_pp, dNe_p shv nil_sht, pure_bind, asB_bl, eqv_nil_t]
        rw [e, pure_bind, if_neg Bool.false_ne_true, seq_nx, e2, pure_bind, if_neg Bool.false_ne_true, seq_nx, e3, pure_bind, if_neg Bool.false_ne_true, seq_nx, e4, pure_bind, if_pos rfl, e5, pure_bind]
        have last := fun γ => tail_near (Ω := Ω) (β := Unit) (γ := γ) (v := .tup t xs) rfl hl hx hb
        cases xs with
        | nil =>
          rw [show (!([] : List D).isEmpty) = false from rfl, if_neg Bool.false_ne_true, pure_bind, if_neg Bool.false_ne_true, seq_nx]
          exact (last _).mono (by omega) fun _ h => h
        | cons y ys =>
          rw [show (!(y :: ys).isEmpty) = true from rfl, if_pos rfl]
          generalize hxs : y :: ys = xs at *
          have pos : 1 ≤ xs.length := by rw [← hxs]; simp
          have G : Dr 1 ((op2 dGt ((opC (pure .st) (opC (pure (.int 5)) (pure []))) >>= fun ds => noErr ((sr1 (f__law_draw Ω)) ds)) (pure (.int 0))) >>= asB) (fun _ => True) := by
            rw [op2_mp, bind_assoc]
            refine Dr.bind (k1 := 1) (k2 := 0) (draws (k := 5) (by decide) (by decide)) fun y hy => ?_
            obtain ⟨i, rfl, _⟩ := hy
            rw [dGt_ii, pure_bind, asB_bl]
            exact Dr.pure trivial
          refine Dr.mono (k := (1 + (4 * n + 1)) + 1) (seqD (P := fun d => nice (3 * b + 30) (k + 1 + 1) d = true) (G.bind fun c _ => ?_) (last _)) (by omega) fun _ h => h
          cases c with
          | false => rw [if_neg Bool.false_ne_true]; exact (Dr.pure (.inr rfl) : Dr 0 _ _).mono (Nat.zero_le _) fun _ h => h
          | true =>
            rw [if_pos rfl]
            have dl : ((opC (pure (.tup t xs)) (pure [])) >>= ar1 dLen) = pure (.int (xs.length : Nat)) := rfl
            rw [dl]
            refine Dr.mono (k := 1 + (4 * n + 0)) (Dr.bind (P := Below xs.length) (draws pos (by omega)) fun y hy => ?_) (by omega) fun _ h => h
            obtain ⟨i, rfl, hi⟩ := hy
            obtain ⟨t1, c1⟩ := dCut_tt t xs none (some (i : Nat))
            obtain ⟨t2, c2⟩ := dCut_tt t xs (some ((i : Nat) + 1)) none
            have l1 : (DL.cutD xs none (some (i : Nat))).length ≤ b := Nat.le_trans (cut_len ..) hl
            have l2 : (DL.cutD xs (some ((i : Nat) + 1)) none).length ≤ b := Nat.le_trans (cut_len ..) hl
            have ll : (1000 : Nat) ≤ lim := by decide
            have s1 : opSl (pure (.tup t xs)) (pure none) ((pure (.int (i : Nat))) >>= asI) = pure (.tup t1 (DL.cutD xs none (some (i : Nat)))) := by rw [pure_bind, asI_int, opSl_ppp, c1]
            have s2 : opSl (pure (.tup t xs)) ((op2 dAdd (pure (.int (i : Nat))) (pure (.int 1))) >>= asI) (pure none) = pure (.tup t2 (DL.cutD xs (some ((i : Nat) + 1)) none)) := by rw [op2_pp, dAdd_ii, pure_bind, asI_int, opSl_ppp, c2]
            have ix : op2 dIx (pure (.tup t xs)) (pure (.int (i : Nat))) = pure xs[i] := (dIx_nat (t := t) (List.getElem?_eq_getElem hi)).1
            rw [s1, s2, ix, op2_mp, op2_pr, opC_pp, opC_pp, pure_bind, sr1_one, opC_m1]
            simp only [bind_assoc, pure_bind, mkTup1]
            refine Dr.bind (Dr.noErr (near_dr hb hb1 n k _ (hx _ (List.getElem_mem hi)) (by omega) (by omega))) fun y hy => ?_
            obtain ⟨t3, c3⟩ := dAdd_tt t1 false (DL.cutD xs none (some (i : Nat))) [y] (by simp only [List.length_cons, List.length_nil]; omega)
            obtain ⟨t4, c4⟩ := dAdd_tt t3 t2 (DL.cutD xs none (some (i : Nat)) ++ [y]) (DL.cutD xs (some ((i : Nat) + 1)) none) (by simp only [List.length_append, List.length_cons, List.length_nil]; omega)
            rw [c3, pure_bind, c4, pure_bind]
            refine Dr.pure (.inl ⟨_, rfl, niceT.mpr ⟨by simp only [List.length_append, List.length_cons, List.length_nil]; omega, fun z hz => ?_⟩⟩)
            have up : ∀ x ∈ xs, nice (3 * b + 30) (k + 1) x = true := fun x hx' => nice_mono (by omega) k (k + 1) x (Nat.le_succ _) (hx x hx')
            rcases List.mem_append.mp hz with hz | hz
            · rcases List.mem_append.mp hz with hz | hz
              · exact up z (cut_mem hz)
              · simp only [List.mem_cons, List.not_mem_nil, or_false] at hz
                subst hz; exact hy
            · exact up z (cut_mem hz)
end K1
set_option linter.all false
set_option maxRecDepth 100000
set_option autoImplicit false
/-! Q16: loops that check, values near, parts made. -/
namespace K1
open PySem PySem.Spec PyProof.Rows L2 DL
variable {Ω : Om}
theorem says_p (x : Bool) : f__law_says (.bl x) (.bl x) = pure (.bl true) := by cases x <;> rfl
theorem loop_nx {γ : Type} {f : Unit → D → M (Fl Unit Unit)} {ds : List D} (h : ∀ d ∈ ds, f () d = pure (.nx ())) : (loopD f ds () : M (Fl Unit γ)) = pure (.nx ()) := by
  rw [loop_all (p := fun _ => true) fun d hd => by rw [h d hd, if_pos rfl]]
  rw [if_pos (List.all_eq_true.mpr fun _ _ => rfl)]
theorem nice_tup1 {b n : Nat} {v : D} (h : nice b n v = true) (hb : 1 ≤ b) : nice b (n + 1) (.tup false [v]) = true := niceT.mpr ⟨hb, fun x hx => by
  simp only [List.mem_cons, List.not_mem_nil, or_false] at hx
  subst hx; exact h⟩
theorem nears {v : D} {k N : Nat} (hv : nice 8 k v = true) (hk : k ≤ 5) (hN : N ≤ 20) : Dr (24 * N) (((opC (pure (.int (N : Nat))) (pure [])) >>= dRange1) >>= lcD (fun _ => pure true) (fun _ => (opC (pure .st) (opC (pure v) (pure []))) >>= fun ds => noErr ((sr1 (f__law_near Ω 6)) ds))) fun d => ∃ rs, d = .lst rs ∧ rs.length ≤ 20 ∧ ∀ x ∈ rs, nice 54 6 x = true := by
  rw [opC_pp, pure_bind, dRange1_p (by omega), pure_bind]
  refine Dr.mono (k := 24 * (rangeD 0 N).length) (Dr.lc (P := fun d => nice 54 6 d = true) (by rw [range_len]; exact lim_ge _ (by omega)) fun d _ => ?_) (by rw [range_len]; exact Nat.le_refl _) fun d hd => ?_
  · rw [opC_pp, opC_pp, pure_bind, sr1_one]
    exact Dr.noErr ((near_dr (Ω := Ω) (b := 8) (by decide) (by decide) 6 k v hv (by omega) (by omega)).mono (Nat.le_refl _) fun d hd => nice_mono (by decide) (k + 1) 6 d (by omega) hd)
  · obtain ⟨rs, rfl, h1, h2⟩ := hd
    rw [range_len] at h1
    exact ⟨rs, rfl, by omega, h2⟩
theorem gather {k : Nat} {L : List D} {m ml : M D} (e : ml = pure (.lst L)) (hl : L.length ≤ 40) (hn : ∀ x ∈ L, nice 54 6 x = true) (h : Dr k m fun d => ∃ rs, d = .lst rs ∧ rs.length ≤ 20 ∧ ∀ x ∈ rs, nice 54 6 x = true) : Dr k ((op2 dAdd ml m) >>= dIter) fun ds => ∀ d ∈ ds, nice 54 6 d = true := by
  rw [e, op2_pr, bind_assoc]
  refine Dr.mono (k := k + 0) (h.bind fun d hd => ?_) (Nat.le_refl _) fun _ h => h
  obtain ⟨rs, rfl, h1, h2⟩ := hd
  have ll : (1000 : Nat) ≤ lim := by decide
  have a : dAdd (.lst L) (.lst rs) = pure (.lst (L ++ rs)) := gd_pos (show L.length + rs.length ≤ lim by omega)
  rw [a, pure_bind, dIter_l]
  exact Dr.pure fun d hd => (List.mem_append.mp hd).elim (hn d) (h2 d)
theorem checkLoop {γ : Type} {k : Nat} {m : M (List D)} {f : Unit → D → M (Fl Unit Unit)} {Q : D → Prop} (h : Dr k m fun ds => ∀ d ∈ ds, Q d) (hf : ∀ d, Q d → f () d = pure (.nx ())) : Dr k (m >>= fun ds => (loopD f ds () : M (Fl Unit γ))) fun fl => ∃ b, fl = .nx b ∧ True := by
  refine Dr.mono (k := k + 0) (h.bind fun ds hd => ?_) (Nat.le_refl _) fun _ h => h
  rw [loop_nx fun d hd' => hf d (hd d hd')]
  exact Dr.pure ⟨(), rfl, trivial⟩
theorem opC_pl (a : D) (m : M (List D)) : opC (pure a) m = m >>= fun xs => pure (a :: xs) := rfl
theorem rel_made : Dr 5 ((opC (pure .st) (pure [])) >>= fun ds => noErr ((sr0 (f__law_relations Ω)) ds)) fun d => ∃ r, d = relD r ∧ RelOk r := by
  rw [opC_pp, pure_bind, sr0_one]
  exact Dr.noErr relations_dr
theorem turns_p : ∃ N : Nat, N ≤ 14 ∧ ((opC (op2 dAdd (pure (.int 6)) ((opC (pure (.int (Ω.cells.length : Nat))) (opC (pure (.int 8)) (pure []))) >>= ar2 dMin2)) (pure [])) >>= dRange1) = pure (rangeD 0 N) := by
  refine ⟨6 + (if Ω.cells.length ≤ 8 then Ω.cells.length else 8), by split <;> omega, ?_⟩
  rw [opC_pp, opC_pp, pure_bind, ar2_two]
  show ((opC (op2 dAdd (pure (.int 6)) (pure (.int (if (8 : Int) < (Ω.cells.length : Nat) then 8 else (Ω.cells.length : Nat))))) (pure [])) >>= dRange1) = _
  rw [op2_pp, dAdd_ii, opC_pp, pure_bind]
  have : (6 : Int) + (if (8 : Int) < (Ω.cells.length : Nat) then (8 : Int) else ((Ω.cells.length : Nat) : Int)) = ((6 + (if Ω.cells.length ≤ 8 then Ω.cells.length else 8) : Nat) : Int) := by
    split <;> split <;> omega
  rw [this, dRange1_p (by split <;> omega)]
theorem ll40 {n : Nat} (h : n ≤ 1000) : n ≤ lim := lim_ge _ h
theorem dAdd_tf {xs ys : List D} (h : xs.length + ys.length ≤ lim) : dAdd (.tup false xs) (.tup false ys) = pure (.tup false (xs ++ ys)) := by
  have : dAdd (.tup false xs) (.tup false ys) = pure (if xs.isEmpty then .tup false ys else if ys.isEmpty then .tup false xs else .tup false (xs ++ ys)) := gd_pos h
  rw [this]
  cases xs with
  | nil => rfl
  | cons x xs =>
    cases ys with
    | nil => simp
    | cons y ys => rfl
theorem dAdd_ll {xs ys : List D} (h : xs.length + ys.length ≤ lim) : dAdd (.lst xs) (.lst ys) = pure (.lst (xs ++ ys)) := gd_pos h
end K1
set_option linter.all false
set_option maxRecDepth 100000
set_option autoImplicit false
namespace K1
open PySem PySem.Spec PyProof.Rows L2 DL
theorem lst_sh {b n : Nat} {l : List D} (h : ∀ x ∈ l, nice b n x = true) (hl : l.length ≤ b) (hn : n ≤ 50) : (D.lst l).sh = true := nice_s (niceL.mpr ⟨hl, h⟩) (by omega)
theorem eqv_nil_l (xs : List D) : D.eqv (.lst xs) (.lst []) = xs.isEmpty := by
  cases xs <;> rfl
end K1
set_option linter.all false
set_option maxRecDepth 100000
set_option autoImplicit false
/-! R3: law_is of data. -/
namespace K1
open PySem PySem.Spec PyProof.Rows L2 DL
/-- data whose text is short and plain -/
def lw (b : Nat) : Nat → D → Bool
  | _, .non => true
  | _, .bl _ => true
  | _, .int i => decide (i.natAbs < 2 ^ 64)
  | _, .str x => decide (x.length ≤ b) && x.cps.toList.all fun c => decide (c < 16 ^ 8)
  | n + 1, .tup _ xs => decide (xs.length ≤ b) && xs.all (lw b n)
  | n + 1, .lst xs => decide (xs.length ≤ b) && xs.all (lw b n)
  | _, _ => false
theorem lw_nice {b : Nat} : ∀ (n : Nat) (d : D), lw b n d = true → nice b n d = true
  | n, .non, _ => niceN
  | n, .bl _, _ => niceB
  | n, .int _, _ => niceI
  | n, .str x, h => by
    refine niceS.mpr ?_
    cases n <;> (simp only [lw, Bool.and_eq_true, decide_eq_true_eq] at h; exact h.1)
  | 0, .tup _ _, h => by simp [lw] at h
  | 0, .lst _, h => by simp [lw] at h
  | n, .dct _ _ _, h => by cases n <;> simp [lw] at h
  | n, .st, h => by cases n <;> simp [lw] at h
  | n, .opq _, h => by cases n <;> simp [lw] at h
  | n + 1, .tup t xs, h => by
    simp only [lw, Bool.and_eq_true, decide_eq_true_eq, List.all_eq_true] at h
    exact niceT.mpr ⟨h.1, fun x hx => lw_nice n x (h.2 x hx)⟩
  | n + 1, .lst xs, h => by
    simp only [lw, Bool.and_eq_true, decide_eq_true_eq, List.all_eq_true] at h
    exact niceL.mpr ⟨h.1, fun x hx => lw_nice n x (h.2 x hx)⟩
theorem roks_all : ∀ xs : List D, (∀ x ∈ xs, x.rok = true) → D.roks xs = true
  | [], _ => by simp [D.roks]
  | x :: xs, h => by
    rw [D.roks, h x (List.mem_cons_self ..), roks_all xs fun y hy => h y (List.mem_cons_of_mem _ hy)]
    rfl
theorem lw_rok {b : Nat} : ∀ (n : Nat) (d : D), lw b n d = true → d.rok = true
  | n, .non, _ => by simp [D.rok]
  | n, .bl _, _ => by simp [D.rok]
  | n, .int _, h => by cases n <;> simpa [lw, D.rok] using h
  | n, .str x, h => by
    cases n <;> (simp only [lw, Bool.and_eq_true] at h; simp only [D.rok]; exact h.2)
  | 0, .tup _ _, h => by simp [lw] at h
  | 0, .lst _, h => by simp [lw] at h
  | n, .dct _ _ _, h => by cases n <;> simp [lw] at h
  | n, .st, h => by cases n <;> simp [lw] at h
  | n, .opq _, h => by cases n <;> simp [lw] at h
  | n + 1, .tup t xs, h => by
    simp only [lw, Bool.and_eq_true, decide_eq_true_eq, List.all_eq_true] at h
    rw [D.rok]
    exact roks_all xs fun x hx => lw_rok n x (h.2 x hx)
  | n + 1, .lst xs, h => by
    simp only [lw, Bool.and_eq_true, decide_eq_true_eq, List.all_eq_true] at h
    rw [D.rok]
    exact roks_all xs fun x hx => lw_rok n x (h.2 x hx)
theorem eqv_all_refl : ∀ xs : List D, (∀ x ∈ xs, D.eqv x x = true) → PyData.eqvAll (D.pys xs) (D.pys xs) = true
  | [], _ => by simp [D.pys, PyData.eqvAll]
  | x :: xs, h => by
    simp only [D.pys, PyData.eqvAll, eqv_all_refl xs fun y hy => h y (List.mem_cons_of_mem _ hy), Bool.and_true]
    exact h x (List.mem_cons_self ..)
theorem eqv_ss (x : Str) : D.eqv (.str x) (.str x) = true := by
  show PyData.eqv (.str x) (.str x) = true
  unfold PyData.eqv
  simp
theorem lw_refl {b : Nat} : ∀ (n : Nat) (d : D), lw b n d = true → D.eqv d d = true
  | n, .non, _ => rfl
  | n, .bl c, _ => by cases c <;> rfl
  | n, .int i, h => by rw [eqv_ii]; simp
  | n, .str x, h => eqv_ss x
  | 0, .tup _ _, h => by simp [lw] at h
  | 0, .lst _, h => by simp [lw] at h
  | n, .dct _ _ _, h => by cases n <;> simp [lw] at h
  | n, .st, h => by cases n <;> simp [lw] at h
  | n, .opq _, h => by cases n <;> simp [lw] at h
  | n + 1, .tup t xs, h => by
    simp only [lw, Bool.and_eq_true, decide_eq_true_eq, List.all_eq_true] at h
    show PyData.eqv (.tuple (D.pys xs)) (.tuple (D.pys xs)) = true
    unfold PyData.eqv
    exact eqv_all_refl xs fun x hx => lw_refl n x (h.2 x hx)
  | n + 1, .lst xs, h => by
    simp only [lw, Bool.and_eq_true, decide_eq_true_eq, List.all_eq_true] at h
    show PyData.eqv (.list (D.pys xs)) (.list (D.pys xs)) = true
    unfold PyData.eqv
    exact eqv_all_refl xs fun x hx => lw_refl n x (h.2 x hx)
theorem lw_plain {b : Nat} (hb : b ≤ 1000) : ∀ (n m : Nat) (d : D), n < m → lw b n d = true → f__law_plain m d = pure (.bl true) := by
  have seq : ∀ (m : Nat) (xs : List D), xs.length ≤ b → (∀ x ∈ xs, f__law_plain m x = pure (.bl true)) → lcD (fun v1_one => (((opC (pure v1_one) (pure [])) >>= fun ds => noErr ((ar1 (f__law_plain m)) ds)) >>= asB) >>= fun b => pure (!b)) (fun v1_one => pure (.int 1)) xs = pure (.lst []) := fun m xs hl h => by
    rw [lcD_pure (t := fun _ => false) (e := fun _ => .int 1) (lim_ge _ (by omega)) (fun d hd => by rw [opC_pp, pure_bind, ar1_one, h d hd]; rfl) (fun _ _ _ => rfl), List.filter_eq_nil_iff.mpr fun _ _ => Bool.false_ne_true]
    rfl
  intro n
  induction n with
  | zero =>
    intro m d hm h
    obtain ⟨m, rfl⟩ : ∃ k, m = k + 1 := ⟨m - 1, by omega⟩
    cases d <;> first | rfl | (simp [lw] at h)
  | succ n ih =>
    intro m d hm h
    obtain ⟨m, rfl⟩ : ∃ k, m = k + 1 := ⟨m - 1, by omega⟩
    cases d with
    | tup t xs =>
      simp only [lw, Bool.and_eq_true, decide_eq_true_eq, List.all_eq_true] at h
      unfold f__law_plain
      simp only [pure_bind, dIsi2_p (d := .tup t xs) rfl, dIter_t, seq m xs h.1 fun x hx => ih m x (by omega) (h.2 x hx), mkLst0]
      rfl
    | lst xs =>
      simp only [lw, Bool.and_eq_true, decide_eq_true_eq, List.all_eq_true] at h
      unfold f__law_plain
      simp only [pure_bind, dIsi2_p (d := .lst xs) rfl, dIter_l, seq m xs h.1 fun x hx => ih m x (by omega) (h.2 x hx), mkLst0]
      rfl
    | _ => first | rfl | (simp [lw] at h)
def D.seq : D → Bool
  | .tup _ _ => true
  | .lst _ => true
  | _ => false
theorem dRepr_p {d : D} (h : D.seq d = true) (h1 : d.rok = true) (h2 : d.sh = true) (h3 : d.rl ≤ lim) : dRepr d = pure (.str d.py.shown) := by
  cases d <;> first | exact gd_pos ⟨h1, h2, h3⟩ | cases h
theorem law_is_p {b n : Nat} {d e : D} (hb : b ≤ 1000) (hn : n < 4) (h : lw b n d = true) (h' : lw b n e = true) (s : D.seq d = true) (s' : D.seq e = true) (l : d.rl ≤ lim) (l' : e.rl ≤ lim) (he : e.py = d.py) : f__law_is d e = pure (.bl true) := by
  have sh := nice_s (lw_nice n d h) (by omega)
  have sh' := nice_s (lw_nice n e h') (by omega)
  have ev : D.eqv d d = true := lw_refl n d h
  have ev1 : D.eqv d e = true := by unfold D.eqv at ev ⊢; rw [he]; exact ev
  have ev2 : D.eqv e d = true := by unfold D.eqv at ev ⊢; rw [he]; exact ev
  unfold f__law_is
  simp only [opC_pp, pure_bind, ar1_one, lw_plain hb n 4 d hn h, noErr_pure, dAnd_p, if_true, op2_pp, dEq_p sh sh', dEq_p sh' sh, ev1, ev2, dRepr_p s (lw_rok n d h) sh l, dRepr_p s' (lw_rok n e h') sh' l', he, dEq_p (sh_s _) (sh_s _), eqv_ss]
  rfl
theorem rls_map {α : Type} (f : α → D) (m : Nat) : ∀ l : List α, (∀ x ∈ l, D.rl (f x) ≤ m) → D.rls (l.map f) ≤ (m + 2) * l.length
  | [], _ => by simp [D.rls]
  | x :: l, h => by
    have := rls_map f m l fun y hy => h y (List.mem_cons_of_mem _ hy)
    have := h x (List.mem_cons_self ..)
    rw [List.map_cons, D.rls, List.length_cons, Nat.mul_succ]
    omega
theorem letter_cp {x : Str} (h : isName x = true) : (x.cps.toList.all fun c => decide (c < 16 ^ 8)) = true := by
  unfold isName at h
  simp only [Bool.and_eq_true] at h
  refine List.all_eq_true.mpr fun c hc => ?_
  have := List.all_eq_true.mp h.2.2 c hc
  unfold letterP at this
  have m := of_decide_eq_true this
  have all : ∀ c ∈ ("abcdefghijklmnopqrstuvwxyz" : Str).cps.toList, c < 16 ^ 8 := by decide +kernel
  exact decide_eq_true (all c m)
/-- two lists of names -/
theorem law_is_names {l : List Str} (hl : l.length ≤ 60) (h : ∀ x ∈ l, x.length ≤ 8 ∧ isName x = true) : f__law_is (.lst (l.map .str)) (.lst (l.map .str)) = pure (.bl true) := by
  have hw : lw 60 1 (.lst (l.map .str)) = true := by
    simp only [lw, Bool.and_eq_true, decide_eq_true_eq, List.all_eq_true]
    refine ⟨by rw [List.length_map]; omega, fun x hx => ?_⟩
    obtain ⟨z, hz, rfl⟩ := List.mem_map.mp hx
    simp only [lw, Bool.and_eq_true, decide_eq_true_eq]
    exact ⟨by have := (h z hz).1; omega, letter_cp (h z hz).2⟩
  have rl : (D.lst (l.map .str)).rl ≤ lim := by
    have a := rls_map D.str 82 l fun x hx => by
      have := (h x hx).1
      simp only [D.rl]; omega
    have ll : (100000 : Nat) ≤ lim := by decide
    simp only [D.rl]
    omega
  exact law_is_p (b := 60) (n := 1) (by decide) (by decide) hw hw rfl rfl rl rl rfl
end K1
set_option linter.all false
set_option maxRecDepth 100000
set_option autoImplicit false
/-! S5: what relations are, by the package and by the law. -/
namespace K1
open PySem PySem.Spec PyProof.Rows L2 DL
def prB : D → Bool
  | .tup _ [x, _] => nm x
  | _ => false
def strOf : D → Str
  | .tup _ (.str x :: _) => x
  | _ => ""
def nmB : D → Bool
  | .tup _ xs => !decide ((5 : Int) < (xs.length : Nat)) && (xs.all prB && risS (xs.map strOf))
  | _ => false
def plB : D → Bool
  | .tup _ [_, .int i] => (decide (0 ≤ i) && decide (i ≤ 999)) && (decide (1 ≤ i) && decide (i ≤ 3))
  | _ => false
def relB : D → Bool
  | .tup t xs => nmB (.tup t xs) && (!xs.isEmpty && xs.all plB)
  | _ => false
theorem prB_form {d : D} (h : prB d = true) : ∃ t x y, d = .tup t [.str x, y] ∧ isName x = true := by
  unfold prB at h
  split at h
  · rename_i t x y
    cases x with
    | str x => exact ⟨t, x, y, rfl, h⟩
    | _ => cases h
  · cases h
theorem len2 {t : Bool} {xs : List D} (h : xs.length ≠ 2) : prB (.tup t xs) = false := by
  unfold prB
  split
  · rename_i e; cases e; exact absurd rfl h
  · rfl
theorem f_is_pair_d {b n : Nat} {d : D} (h : nice b n d = true) (hb : b ≤ 1000) : f_is_pair d = pure (.bl (prB d)) := by
  have off : d.isT .tuple = false → f_is_pair d = pure (.bl false) := fun ht => by
    unfold f_is_pair
    simp only [pure_bind, bind_assoc, dIsi_p (nice_k h), ht, dAnd_p]
    rfl
  cases d with
  | tup t xs =>
    obtain ⟨k, rfl, hl, hx⟩ := nice_t h
    by_cases h2 : xs.length = 2
    · match xs, h2, hx with
      | [a, c], _, hx =>
        have ha := hx a (by simp)
        unfold f_is_pair
        simp only [pure_bind, bind_assoc, dIsi_p (d := .tup t [a, c]) rfl, D.isT, dAnd_p, opC_pp, ar1_one, dLen_t, op2_pp, dEq_p (sh_i _) (sh_i _), eqv_ii, dIx_t0, f_is_name_d ha hb, noErr_pure, List.length_cons, List.length_nil, if_true]
        have two : (decide ((((0 + 1 + 1 : Nat) : Nat) : Int) = 2)) = true := by decide
        rw [two]
        rfl
    · rw [len2 h2]
      unfold f_is_pair
      simp only [pure_bind, bind_assoc, dIsi_p (d := .tup t xs) rfl, D.isT, dAnd_p, opC_pp, ar1_one, dLen_t, op2_pp, dEq_p (sh_i _) (sh_i _), len_ne h2, if_true, Bool.false_eq_true, if_false]
      rfl
  | _ => exact off rfl
theorem f_are_named_d {b n : Nat} {d : D} (h : nice b n d = true) (hb : b ≤ 1000) : f_are_named d (.int 5) = pure (.bl (nmB d)) := by
  have off : d.isT .tuple = false → f_are_named d (.int 5) = pure (.bl false) := fun ht => by
    unfold f_are_named
    simp only [pure_bind, bind_assoc, dIsi_p (nice_k h), ht, asB_bl, Bool.not_false, if_true]
    rfl
  cases d with
  | tup t xs =>
    obtain ⟨k, rfl, hl, hx⟩ := nice_t h
    have e1 : lcD (fun _ => pure true) (fun v => opC (pure v) (pure []) >>= fun ds => noErr (ar1 f_is_pair ds)) xs = pure (.lst (xs.map fun d => .bl (prB d))) :=
      lcD_map (e := fun d => .bl (prB d)) (lim_ge _ (by omega)) fun d hd => by rw [opC_pp, pure_bind, ar1_one, f_is_pair_d (hx d hd) hb, noErr_pure]
    unfold f_are_named
    simp only [pure_bind, bind_assoc, dIsi_p (d := .tup t xs) rfl, D.isT, asB_bl, Bool.not_true, opC_pp, ar1_one, dLen_t, op2_pp, dGt_ii, dIter_t, Bool.false_eq_true, if_false]
    simp only [opC_pp, pure_bind, ar1_one] at e1
    rw [e1]
    simp only [pure_bind, opC_pp, ar1_one, dAll_map, asB_bl]
    show _ = (pure (D.bl (!decide ((5 : Int) < (xs.length : Nat)) && (xs.all prB && risS (xs.map strOf)))) : M D)
    cases hQ : xs.all prB with
    | false =>
      generalize decide ((5 : Int) < (xs.length : Nat)) = P
      cases P <;> rfl
    | true =>
      have fm : ∀ d ∈ xs, ∃ t x y, d = .tup t [.str x, y] ∧ isName x = true := fun d hd => prB_form (List.all_eq_true.mp hQ d hd)
      have e2 : lcD (un2 fun _ _ => pure true) (un2 fun v _ => pure v) xs = pure (.lst ((xs.map strOf).map .str)) := by
        rw [lcD_pure2 (mt := fun _ _ => M.stuck) (e := fun d => .str (strOf d)) (lim_ge _ (by omega)) (fun d hd => by
          obtain ⟨t, x, y, rfl, _⟩ := fm d hd
          rfl) (fun d hd => by
          obtain ⟨t, x, y, rfl, _⟩ := fm d hd
          exact ⟨_, _, _, rfl⟩), List.map_map]
        rfl
      rw [e2]
      simp only [pure_bind, opC_pp, ar1_one, f_are_rising_ss (l := xs.map strOf) (by rw [List.length_map]; omega), noErr_pure]
      generalize decide ((5 : Int) < (xs.length : Nat)) = P
      cases P <;> rfl
  | _ => exact off rfl
theorem f_is_relations_d {b n : Nat} {d : D} (h : nice b n d = true) (hb : b ≤ 1000) (hn : n ≤ 50) : f_is_relations d = pure (.bl (relB d)) := by
  have hsh : d.sh = true := nice_s h (by omega)
  unfold f_is_relations
  simp only [opC_pp, pure_bind, ar2_two, f_are_named_d h hb, noErr_pure, asB_bl, mkTup0, op2_pp, dEq_p hsh nil_sht]
  cases hN : nmB d with
  | false =>
    have : relB d = false := by
      unfold relB
      split
      · rw [hN]; rfl
      · rfl
    rw [this]
    rfl
  | true =>
    cases d with
    | tup t xs =>
      obtain ⟨k, rfl, hl, hx⟩ := nice_t h
      simp only [Bool.not_true, Bool.false_eq_true, if_false, eqv_nil_t, pure_bind]
      have e0 : relB (.tup t xs) = (!xs.isEmpty && xs.all plB) := by
        show (nmB (.tup t xs) && _) = _
        rw [hN]; rfl
      rw [e0]
      unfold nmB at hN
      simp only [Bool.and_eq_true] at hN
      have fm : ∀ d ∈ xs, ∃ t x y, d = .tup t [.str x, y] ∧ isName x = true := fun d hd => prB_form (List.all_eq_true.mp hN.2.1 d hd)
      have e2 : lcD (un2 fun _ _ => pure true) (un2 fun _ v3 => dAnd (opC (pure v3) (pure []) >>= fun ds => noErr (ar1 f_is_number ds)) (dChain dLe dLe (pure (.int 1)) (pure v3) (pure (.int 3)))) xs = pure (.lst (xs.map fun d => .bl (plB d))) :=
        lcD_pure2 (mt := fun _ _ => M.stuck) (e := fun d => .bl (plB d)) (lim_ge _ (by omega)) (fun d hd => by
          obtain ⟨t, x, y, rfl, _⟩ := fm d hd
          have hy : nice b k (.tup t [.str x, y]) = true := hx _ hd
          obtain ⟨k2, rfl, _, hy2⟩ := nice_t hy
          rw [un2_t, opC_pp, pure_bind, ar1_one, f_is_number_d (hy2 y (by simp)), noErr_pure, dAnd_p]
          cases y with
          | int i =>
            rw [chain_le]
            show (if (decide (0 ≤ i) && decide (i ≤ 999)) = true then _ else _) = pure (D.bl ((decide (0 ≤ i) && decide (i ≤ 999)) && (decide (1 ≤ i) && decide (i ≤ 3))))
            generalize (decide (0 ≤ i) && decide (i ≤ 999)) = P
            cases P <;> rfl
          | _ => rfl) fun d hd => by
          obtain ⟨t, x, y, rfl, _⟩ := fm d hd
          exact ⟨_, _, _, rfl⟩
      simp only [dIter_t, pure_bind]
      cases hE : xs.isEmpty with
      | true => rfl
      | false =>
        simp only [opC_pp, pure_bind, ar1_one] at e2
        simp only [asB_bl, pure_bind, Bool.false_eq_true, if_false, seq_nx, e2, opC_pp, ar1_one, dAll_map]
        rfl
    | _ => cases hN
end K1
set_option linter.all false
set_option maxRecDepth 100000
set_option autoImplicit false
/-! S6: relations by the law. -/
namespace K1
open PySem PySem.Spec PyProof.Rows L2 DL
theorem dGe_ss (x y : Str) : dGe (.str x) (.str y) = pure (.bl (!decide (x.cps.toList < y.cps.toList))) := by
  unfold dGe dCmp
  rw [gd_pos ⟨rfl, sh_s x, sh_s y, rfl⟩]
  show pure (D.bl (!D.lt (.str x) (.str y))) = _
  rw [lt_ss]
def ltP : D → Bool
  | .tup _ [.str x, .str y] => decide (x.cps.toList < y.cps.toList)
  | _ => true
theorem f_law_are_named_d {b n : Nat} {d : D} (h : nice b n d = true) (hb : b ≤ 1000) : f__law_are_named d (.int 5) = pure (.bl (nmB d)) := by
  have off : d.isT .tuple = false → f__law_are_named d (.int 5) = pure (.bl false) := fun ht => by
    unfold f__law_are_named
    simp only [pure_bind, bind_assoc, dIsi_p (nice_k h), ht, asB_bl, Bool.not_false, if_true]
    rfl
  cases d with
  | tup t xs =>
    obtain ⟨k, rfl, hl, hx⟩ := nice_t h
    have e1 : lcD (fun v1 => ((((pure v1) >>= dIsi .tuple) >>= asB) >>= fun b => pure (!b)) >>= fun x => if x = true then pure true else (((op2 dNe ((opC (pure v1) (pure [])) >>= ar1 dLen) (pure (.int 2))) >>= asB) >>= fun x => if x = true then pure true else ((((opC (op2 dIx (pure v1) (pure (.int 0))) (pure [])) >>= fun ds => noErr ((ar1 f__law_is_name) ds)) >>= asB) >>= fun b => pure (!b)))) (fun _ => pure (.int 1)) xs = pure (.lst ((xs.filter fun d => !prB d).map fun _ => .int 1)) :=
      lcD_pure (t := fun d => !prB d) (e := fun _ => .int 1) (lim_ge _ (by omega)) (fun d hd => by
        have hdn := hx d hd
        cases d with
        | tup t3 ys =>
          obtain ⟨k3, rfl, hl3, hx3⟩ := nice_t hdn
          by_cases h2 : ys.length = 2
          · match ys, h2, hx3 with
            | [a, c], _, hx3 =>
              have ha := hx3 a (by simp)
              simp only [pure_bind, bind_assoc, dIsi_p (d := .tup t3 [a, c]) rfl, D.isT, asB_bl, Bool.not_true, opC_pp, ar1_one, dLen_t, op2_pp, dNe_p (sh_i _) (sh_i _), eqv_ii, dIx_t0, f_law_is_name_d ha hb, noErr_pure, List.length_cons, List.length_nil, Bool.false_eq_true, if_false]
              have two : (decide ((((0 + 1 + 1 : Nat) : Nat) : Int) = 2)) = true := by decide
              rw [two]
              rfl
          · rw [len2 h2]
            simp only [pure_bind, bind_assoc, dIsi_p (d := .tup t3 ys) rfl, D.isT, asB_bl, Bool.not_true, opC_pp, ar1_one, dLen_t, op2_pp, dNe_p (sh_i _) (sh_i _), len_ne h2, Bool.not_false, if_true, Bool.false_eq_true, if_false]
        | st => exact absurd (nice_k hdn) (fun z => nomatch z)
        | opq _ => exact absurd (nice_k hdn) (fun z => nomatch z)
        | _ => rfl) fun _ _ _ => rfl
    have e0 : ∀ {mt : D → M Bool} {me : D → M D} {r : M D}, lcD mt me xs = r → (((pure (D.tup t xs)) >>= dIter) >>= lcD mt me) = r := fun e => e
    unfold f__law_are_named
    rw [e0 e1]
    simp only [pure_bind, bind_assoc, dIsi_p (d := .tup t xs) rfl, D.isT, asB_bl, Bool.not_true, opC_pp, ar1_one, dLen_t, dIter_t, Bool.false_eq_true, if_false, op2_pp, dGt_ii, mkLst0, dNe_p (ones_sh _) nil_sh, ones_nil]
    show _ = (pure (D.bl (!decide ((5 : Int) < (xs.length : Nat)) && (xs.all prB && risS (xs.map strOf)))) : M D)
    cases hQ : xs.all prB with
    | false =>
      generalize decide ((5 : Int) < (xs.length : Nat)) = P
      cases P <;> rfl
    | true =>
      have fm : ∀ d ∈ xs, ∃ t x y, d = .tup t [.str x, y] ∧ isName x = true := fun d hd => prB_form (List.all_eq_true.mp hQ d hd)
      have e2 : lcD (fun _ => pure true) (fun v => op2 dIx (pure v) (pure (.int 0))) xs = pure (.lst ((xs.map strOf).map .str)) := by
        rw [lcD_map (e := fun d => .str (strOf d)) (lim_ge _ (by omega)) (fun d hd => by
          obtain ⟨t, x, y, rfl, _⟩ := fm d hd
          rw [op2_pp, dIx_t0]; rfl), List.map_map]
        rfl
      have hln : (xs.map strOf).length ≤ 1000 := by rw [List.length_map]; omega
      simp only [op2_pp] at e2
      generalize hL : xs.map strOf = l at e2 hln ⊢
      have e3 : dCut (.lst (l.map .str)) (some 1) none = pure (.lst ((l.drop 1).map .str)) := by
        show pure (D.lst (DL.cutD (l.map .str) (some 1) none)) = _
        rw [cut1, List.map_drop]
      have e4 : dZip [.lst (l.map .str), .lst ((l.drop 1).map .str)] = pure ((l.zip (l.drop 1)).map fun p => .tup false [.str p.1, .str p.2]) := by
        show pure (zipD _ _) = _
        unfold zipD
        rw [List.zip_map, List.map_map]
        rfl
      have e5 : lcD (un2 fun v5 v6 => (op2 dGe (pure v5) (pure v6)) >>= asB) (un2 fun _ _ => pure (.int 1)) ((l.zip (l.drop 1)).map fun p => .tup false [.str p.1, .str p.2]) = pure (.lst ((((l.zip (l.drop 1)).map fun p => D.tup false [.str p.1, .str p.2]).filter fun d => !ltP d).map fun _ => .int 1)) :=
        lcD_pure (t := fun d => !ltP d) (e := fun _ => .int 1) (lim_ge _ (by rw [List.length_map, List.length_zip]; omega)) (fun d hd => by
          obtain ⟨p, _, rfl⟩ := List.mem_map.mp hd
          rw [un2_t, op2_pp, dGe_ss]; rfl) fun d hd _ => by
          obtain ⟨p, _, rfl⟩ := List.mem_map.mp hd
          rfl
      have e6 : (((l.zip (l.drop 1)).map fun p => D.tup false [.str p.1, .str p.2]).all ltP) = risS l := by
        rw [List.all_map, ← zip_tail]
        rfl
      simp only [op2_pp] at e5
      simp only [Bool.not_true, seq_nx, e2, pure_bind, asI_int, opSl_ppp, e3, opC_pp, e4, e5, mkLst0, op2_pp, dEq_p (ones_sh _) nil_sh, ones_nil, e6]
      generalize decide ((5 : Int) < (xs.length : Nat)) = P
      generalize risS l = R
      cases P <;> cases R <;> rfl
  | _ => exact off rfl
theorem f_law_is_relations_d {b n : Nat} {d : D} (h : nice b n d = true) (hb : b ≤ 1000) (hn : n ≤ 50) : f__law_is_relations d = pure (.bl (relB d)) := by
  have hsh : d.sh = true := nice_s h (by omega)
  cases hN : nmB d with
  | false =>
    have : relB d = false := by
      unfold relB
      split
      · rw [hN]; rfl
      · rfl
    rw [this]
    unfold f__law_is_relations
    simp only [opC_pp, pure_bind, ar2_two, f_law_are_named_d h hb, noErr_pure, hN, dAnd_p]
    rfl
  | true =>
    cases d with
    | tup t xs =>
      obtain ⟨k, rfl, hl, hx⟩ := nice_t h
      have hN0 := hN
      have e0 : relB (.tup t xs) = (!xs.isEmpty && xs.all plB) := by
        show (nmB (.tup t xs) && _) = _
        rw [hN]; rfl
      rw [e0]
      unfold nmB at hN
      simp only [Bool.and_eq_true] at hN
      have fm : ∀ d ∈ xs, ∃ t x y, d = .tup t [.str x, y] ∧ isName x = true := fun d hd => prB_form (List.all_eq_true.mp hN.2.1 d hd)
      have e2 : lcD (un2 fun _ v2 => ((((opC (pure v2) (pure [])) >>= fun ds => noErr ((ar1 f__law_is_number) ds)) >>= asB) >>= fun b => pure (!b)) >>= fun x => if x = true then pure true else (((dChain dLe dLe (pure (.int 1)) (pure v2) (pure (.int 3))) >>= asB) >>= fun b => pure (!b))) (un2 fun _ _ => pure (.int 1)) xs = pure (.lst ((xs.filter fun d => !plB d).map fun _ => .int 1)) :=
        lcD_pure (t := fun d => !plB d) (e := fun _ => .int 1) (lim_ge _ (by omega)) (fun d hd => by
          obtain ⟨t, x, y, rfl, _⟩ := fm d hd
          have hy : nice b k (.tup t [.str x, y]) = true := hx _ hd
          obtain ⟨k2, rfl, _, hy2⟩ := nice_t hy
          rw [un2_t, opC_pp, pure_bind, ar1_one, f_law_is_number_d (hy2 y (by simp)), noErr_pure]
          cases y with
          | int i =>
            rw [chain_le]
            show ((pure (D.bl (decide (0 ≤ i) && decide (i ≤ 999))) >>= asB >>= fun b => pure (!b)) >>= _) = pure (!((decide (0 ≤ i) && decide (i ≤ 999)) && (decide (1 ≤ i) && decide (i ≤ 3))))
            generalize (decide (0 ≤ i) && decide (i ≤ 999)) = P
            generalize (decide (1 ≤ i) && decide (i ≤ 3)) = Q
            cases P <;> cases Q <;> rfl
          | _ => rfl) fun d hd _ => by
          obtain ⟨t, x, y, rfl, _⟩ := fm d hd
          rfl
      have e3 : ∀ {mt : D → M Bool} {me : D → M D} {r : M D}, lcD mt me xs = r → (((pure (D.tup t xs)) >>= dIter) >>= lcD mt me) = r := fun e => e
      unfold f__law_is_relations
      rw [e3 e2]
      simp only [opC_pp, pure_bind, ar2_two, f_law_are_named_d h hb, noErr_pure, hN0, mkTup0, op2_pp, dNe_p hsh nil_sht, dAnd_p, if_true, eqv_nil_t, mkLst0, dEq_p (ones_sh _) nil_sh, ones_nil]
      cases xs.isEmpty <;> rfl
    | _ => cases hN
end K1
set_option linter.all false
set_option maxRecDepth 100000
set_option autoImplicit false
/-! S7: terms in sequence. -/
namespace K1
open PySem PySem.Spec PyProof.Rows L2 DL
/-- the terms that are drawn, in sequence -/
def u (i : Nat) : D := if i < 20 then .int (i : Nat) else if i = 20 then .str "abc" else if i = 21 then .str "x" else if i = 22 then .str "y" else .str "z"
def ku (i : Nat) : D := if i < 20 then .tup false [.int 0, .int (i : Nat), .str ""] else .tup false [.int 1, .int 0, u i]
def Sm (l : List Nat) : Prop := ∀ i ∈ l, i < 24
theorem mkTup3 (a b c : D) : mkTup [a, b, c] = pure (.tup false [a, b, c]) := mkTup_p (show 3 ≤ lim by decide)
theorem key_int (n : Int) : f_term_key (.int n) = pure (.tup false [.int 0, .int n, .str ""]) := by
  unfold f_term_key
  simp only [pure_bind, bind_assoc, dIsi_p (d := .int n) rfl, D.isT, asB_bl, opC_pp, mkTup3, Bool.false_eq_true, if_false, seq_nx]
  rfl
theorem key_str (x : Str) : f_term_key (.str x) = pure (.tup false [.int 1, .int 0, .str x]) := by
  unfold f_term_key
  simp only [pure_bind, bind_assoc, dIsi_p (d := .str x) rfl, D.isT, asB_bl, opC_pp, mkTup3, Bool.false_eq_true, if_false, if_true, seq_nx]
  rfl
theorem u_str {i : Nat} (h : ¬ i < 20) : ∃ x : Str, u i = .str x := by
  unfold u
  rw [if_neg h]
  split
  · exact ⟨_, rfl⟩
  · split
    · exact ⟨_, rfl⟩
    · split <;> exact ⟨_, rfl⟩
theorem key_u (i : Nat) : f_term_key (u i) = pure (ku i) := by
  by_cases h : i < 20
  · rw [show u i = .int (i : Nat) from if_pos h, key_int, show ku i = _ from if_pos h]
  · obtain ⟨x, e⟩ := u_str h
    rw [show ku i = .tup false [.int 1, .int 0, u i] from if_neg h, e, key_str]
theorem ku_le : ∀ a, a < 24 → ∀ b, b < 24 → leD (ku a) (ku b) = decide (a ≤ b) := by decide +kernel
theorem ku_alk : ∀ a, a < 24 → ∀ b, b < 24 → D.alk (ku a) (ku b) = true := by decide +kernel
theorem ku_pl : ∀ a, a < 24 → ((ku a).py.plain && decide ((ku a).py.depth ≤ 8)) = true := by decide +kernel
theorem u_eqv : ∀ a, a < 24 → ∀ b, b < 24 → D.eqv (u a) (u b) = decide (a = b) := by decide +kernel
theorem u_lw : ∀ a, a < 24 → lw 24 0 (u a) = true := by decide +kernel
theorem u_rl : ∀ a, a < 24 → (u a).rl ≤ 100 := by decide +kernel
theorem u_sh {a : Nat} (h : a < 24) : (u a).sh = true := nice_s (lw_nice 0 _ (u_lw a h)) (by decide)
theorem us_sh {l : List Nat} (h : Sm l) (hl : l.length ≤ 1000) : (D.lst (l.map u)).sh = true := lst_sh (b := 1000) (n := 0) (fun x hx => by
  obtain ⟨i, hi, rfl⟩ := List.mem_map.mp hx
  exact nice_mono (by decide) 0 0 _ (Nat.le_refl _) (lw_nice 0 _ (u_lw i (h i hi)))) (by rw [List.length_map]; exact hl) (by decide)
theorem us_shA {l : List Nat} (h : Sm l) : (l.map u).all D.sh = true := List.all_eq_true.mpr fun x hx => by
  obtain ⟨i, hi, rfl⟩ := List.mem_map.mp hx
  exact u_sh (h i hi)
theorem sortable_u {l : List Nat} (h : Sm l) : sortable (l.map ku) = true := by
  unfold sortable
  simp only [Bool.and_eq_true, Bool.or_eq_true, List.all_eq_true]
  refine ⟨⟨fun x hx y hy => ?_, fun x hx => ?_⟩, .inl fun x hx => ?_⟩
  · obtain ⟨a, ha, rfl⟩ := List.mem_map.mp hx
    obtain ⟨b, hb, rfl⟩ := List.mem_map.mp hy
    exact ku_alk a (h a ha) b (h b hb)
  · obtain ⟨a, ha, rfl⟩ := List.mem_map.mp hx
    simpa using ku_pl a (h a ha)
  · obtain ⟨a, ha, rfl⟩ := List.mem_map.mp hx
    by_cases h2 : a < 20
    · rw [show ku a = _ from if_pos h2]
    · rw [show ku a = _ from if_neg h2]
theorem keys_u : ∀ l : List Nat, keysD (ar1 f_term_key) (l.map u) = pure (l.map ku)
  | [] => rfl
  | i :: l => by
    rw [List.map_cons, keysD, ar1_one, key_u, noErr_pure, pure_bind, keys_u l, pure_bind, List.map_cons]
def leN (a b : Nat) : Bool := decide (a ≤ b)
theorem sort_u {l : List Nat} (h : Sm l) : sortBy (l.map u) (l.map ku) = (l.mergeSort leN).map u := by
  unfold sortBy
  have e1 : (l.map u).zip (l.map ku) = l.map fun i => (u i, ku i) := by
    rw [List.zip_map']
  have e2 := List.map_mergeSort (r := leN) (s := fun p q : D × D => leD p.2 q.2) (f := fun i => (u i, ku i)) (l := l) fun a ha b hb => (ku_le a (h a ha) b (h b hb)).symm
  rw [e1, ← e2, List.map_map]
  rfl
/-! ### none twice -/
def stp (acc : List Nat) (i : Nat) : List Nat := if acc.getLast? = some i then acc else acc ++ [i]
theorem last_at {α : Type} (xs : List α) (x : α) : atI (xs ++ [x]) (-1) = some x := by
  unfold atI ixN
  rw [if_neg (by decide), List.length_append, List.length_cons, List.length_nil]
  split
  · have e : ((-1 : Int) + ((xs.length + (0 + 1) : Nat) : Int)).toNat = xs.length := by omega
    show (xs ++ [x])[((-1 : Int) + ((xs.length + (0 + 1) : Nat) : Int)).toNat]? = some x
    rw [e]
    simp
  · rename_i h
    exact absurd (show -(((xs.length + (0 + 1) : Nat)) : Int) ≤ -1 by omega) h
def qF : List D → D → M (Fl (List D) (List D)) := fun b2 v3_term => (((op2 dEq (pure (.lst b2)) ((pure []) >>= mkLst)) >>= asB) >>= fun x => if x = true then pure true else ((op2 dNe (op2 dIx (pure (.lst b2)) (op1 dNeg (pure (.int 1)))) (pure v3_term)) >>= asB)) >>= fun b => if b = true then ((pure v3_term) >>= fun v4_d => gd (b2.length < lim) (pure (.nx (b2 ++ [v4_d])))) else (pure (.nx b2))
theorem qF_p {acc : List Nat} {i : Nat} (ha : Sm acc) (hi : i < 24) (hn : acc.length < 1000) : qF (acc.map u) (u i) = pure (.nx ((stp acc i).map u)) := by
  have ll : (1000 : Nat) ≤ lim := by decide
  unfold qF
  simp only [pure_bind, mkLst0, op2_pp, dEq_p (us_sh ha (by omega)) nil_sh, eqv_nil_l, asB_bl, op1_p]
  rcases List.eq_nil_or_concat acc with rfl | ⟨as, j, rfl⟩
  · simp only [List.map_nil, List.isEmpty_nil, if_true, pure_bind]
    rw [gd_pos (by show 0 < lim; decide)]
    rfl
  · have hj := ha j (by simp)
    have e1 : ((as.concat j).map u).isEmpty = false := by simp
    have e2 : dIx (.lst ((as.concat j).map u)) (.int (-1)) = pure (u j) := by
      rw [List.concat_eq_append, List.map_append]
      show (match atI (as.map u ++ [u j]) (-1) with | some d => pure d | none => M.stuck) = _
      rw [last_at]
    have e3 : dNeg (.int 1) = pure (.int (-1)) := rfl
    simp only [e1, Bool.false_eq_true, if_false, e3, op2_pp, e2, dNe_p (u_sh hj) (u_sh hi), u_eqv j hj i hi, asB_bl, pure_bind]
    by_cases h : j = i
    · subst h
      have e4 : stp (as.concat j) j = as.concat j := by unfold stp; simp
      rw [e4]
      simp only [decide_true, Bool.not_true, Bool.false_eq_true, if_false]
    · have e4 : stp (as.concat j) i = as.concat j ++ [i] := by
        unfold stp
        rw [if_neg]
        simpa using h
      simp only [h, decide_false, Bool.not_false, if_true]
      rw [gd_pos (by rw [List.length_map]; omega), e4, List.map_append]
      rfl
theorem stp_sm {acc : List Nat} {i : Nat} (ha : Sm acc) (hi : i < 24) : Sm (stp acc i) := fun j hj => by
  unfold stp at hj
  split at hj
  · exact ha j hj
  · rcases List.mem_append.mp hj with h | h
    · exact ha j h
    · rw [List.mem_singleton.mp h]; exact hi
theorem stp_len (acc : List Nat) (i : Nat) : (stp acc i).length ≤ acc.length + 1 := by
  unfold stp
  split
  · omega
  · rw [List.length_append, List.length_cons, List.length_nil]
    exact Nat.le_refl _
theorem seq_loop : ∀ (l acc : List Nat), Sm l → Sm acc → acc.length + l.length ≤ 1000 → (loopD qF (l.map u) (acc.map u) : M (Fl (List D) Unit)) = pure (.nx ((l.foldl stp acc).map u))
  | [], acc, _, _, _ => rfl
  | i :: l, acc, hl, ha, hn => by
    have hi := hl i (List.mem_cons_self ..)
    rw [List.length_cons] at hn
    have := stp_len acc i
    rw [List.map_cons, loopD, qF_p ha hi (by omega), pure_bind, List.foldl_cons]
    exact seq_loop l (stp acc i) (fun j hj => hl j (List.mem_cons_of_mem _ hj)) (stp_sm ha hi) (by omega)
theorem in_seq {l : List Nat} (h : Sm l) (hl : l.length ≤ 100) : f_in_sequence (.lst (l.map u)) = pure (.lst (((l.mergeSort leN).foldl stp []).map u)) := by
  have ll : (1000 : Nat) ≤ lim := by decide
  have hS : Sm (l.mergeSort leN) := fun i hi => h i ((List.mergeSort_perm _ _).mem_iff.mp hi)
  have e1 : dSortKey (ar1 f_term_key) (.lst (l.map u)) = pure (.lst ((l.mergeSort leN).map u)) := by
    show (keysD (ar1 f_term_key) (l.map u) >>= sortFin (l.map u)) = _
    rw [keys_u, pure_bind]
    unfold sortFin
    rw [gd_pos ⟨by rw [List.length_map]; omega, sortable_u h⟩, sort_u h]
  have e2 := seq_loop (l.mergeSort leN) [] hS (fun i hi => nomatch hi) (by rw [List.length_mergeSort]; simp; omega)
  have e0 : ((((opC (pure (D.lst (l.map u))) (pure [])) >>= ar1 (dSortKey (ar1 f_term_key))) >>= dIter) >>= fun ds => (loopD qF ds [] : M (Fl (List D) Unit))) = pure (.nx (((l.mergeSort leN).foldl stp []).map u)) := by
    rw [opC_pp, pure_bind, ar1_one, e1, pure_bind, dIter_l, pure_bind]
    exact e2
  have fin : ∀ (m : M (Fl (List D) Unit)) (r : List D), m = pure (.nx r) → Fl.fin (Fl.seq m fun b2 => (pure (D.lst b2)) >>= fun d => (pure (.rt d) : M (Fl Unit Unit))) = pure (.lst r) := fun m r e => by rw [e]; rfl
  unfold f_in_sequence
  rw [pure_bind, gd_pos (by decide)]
  exact fin _ _ e0
/-! ### rising lists -/
theorem strict_ext : ∀ {l m : List Nat}, l.Pairwise (· < ·) → m.Pairwise (· < ·) → (∀ x, x ∈ l ↔ x ∈ m) → l = m
  | [], [], _, _, _ => rfl
  | [], b :: m, _, _, h => nomatch (h b).mpr (List.mem_cons_self ..)
  | a :: l, [], _, _, h => nomatch (h a).mp (List.mem_cons_self ..)
  | a :: l, b :: m, hl, hm, h => by
    rw [List.pairwise_cons] at hl hm
    have e : a = b := by
      rcases List.mem_cons.mp ((h a).mp (List.mem_cons_self ..)) with e | e
      · exact e
      · rcases List.mem_cons.mp ((h b).mpr (List.mem_cons_self ..)) with e2 | e2
        · exact e2.symm
        · have := hm.1 a e
          have := hl.1 b e2
          omega
    subst e
    congr 1
    refine strict_ext hl.2 hm.2 fun x => ⟨fun hx => ?_, fun hx => ?_⟩
    · rcases List.mem_cons.mp ((h x).mp (List.mem_cons_of_mem _ hx)) with e | e
      · have := hl.1 x hx; omega
      · exact e
    · rcases List.mem_cons.mp ((h x).mpr (List.mem_cons_of_mem _ hx)) with e | e
      · have := hm.1 x hx; omega
      · exact e
theorem fold_stp : ∀ (l acc : List Nat), acc.Pairwise (· < ·) → l.Pairwise (· ≤ ·) → (∀ a ∈ acc, ∀ b ∈ l, a ≤ b) → (l.foldl stp acc).Pairwise (· < ·) ∧ ∀ x, x ∈ l.foldl stp acc ↔ x ∈ acc ∨ x ∈ l
  | [], acc, ha, _, _ => ⟨ha, fun x => by simp⟩
  | i :: l, acc, ha, hl, hal => by
    rw [List.pairwise_cons] at hl
    rw [List.foldl_cons]
    by_cases h : acc.getLast? = some i
    · have e : stp acc i = acc := if_pos h
      rw [e]
      obtain ⟨h1, h2⟩ := fold_stp l acc ha hl.2 fun a hx b hb => hal a hx b (List.mem_cons_of_mem _ hb)
      have hm : i ∈ acc := List.mem_of_getLast? h
      refine ⟨h1, fun x => (h2 x).trans ⟨fun q => q.imp_right (List.mem_cons_of_mem _), fun q => q.elim .inl fun q => ?_⟩⟩
      rcases List.mem_cons.mp q with e | q
      · exact .inl (e ▸ hm)
      · exact .inr q
    · have e : stp acc i = acc ++ [i] := if_neg h
      rw [e]
      have lt : ∀ a ∈ acc, a < i := fun a hx => by
        rcases List.eq_nil_or_concat acc with rfl | ⟨as, j, rfl⟩
        · nomatch hx
        · rw [List.concat_eq_append] at ha hx h hal
          have h1 := hal j (by simp) i (List.mem_cons_self ..)
          have h2 : j ≠ i := by simpa using h
          rcases List.mem_append.mp hx with hx | hx
          · have := (List.pairwise_append.mp ha).2.2 a hx j (by simp)
            omega
          · rw [List.mem_singleton.mp hx]; omega
      obtain ⟨h1, h2⟩ := fold_stp l (acc ++ [i]) (List.pairwise_append.mpr ⟨ha, by simp, fun a hx b hb => by rw [List.mem_singleton.mp hb]; exact lt a hx⟩) hl.2 fun a hx b hb => by
        rcases List.mem_append.mp hx with hx | hx
        · exact hal a hx b (List.mem_cons_of_mem _ hb)
        · rw [List.mem_singleton.mp hx]; exact hl.1 b hb
      refine ⟨h1, fun x => (h2 x).trans ?_⟩
      rw [List.mem_append, List.mem_singleton, List.mem_cons]
      exact ⟨fun q => q.elim (fun q => q.elim .inl fun q => .inr (.inl q)) fun q => .inr (.inr q), fun q => q.elim (fun q => .inl (.inl q)) fun q => q.elim (fun q => .inl (.inr q)) .inr⟩
theorem dd_eq {l : List Nat} (h : Sm l) : (l.mergeSort leN).foldl stp [] = (List.range 24).filter (decide <| · ∈ l) := by
  have sp : (l.mergeSort leN).Pairwise (· ≤ ·) := (List.pairwise_mergeSort (le := leN) (fun a b c h1 h2 => by simp only [leN, decide_eq_true_eq] at *; omega) (fun a b => by simp only [leN, Bool.or_eq_true, decide_eq_true_eq]; omega) l).imp fun h => by simpa [leN] using h
  obtain ⟨h1, h2⟩ := fold_stp (l.mergeSort leN) [] .nil sp fun a ha => nomatch ha
  refine strict_ext h1 (List.pairwise_lt_range.filter _) fun x => (h2 x).trans ?_
  rw [List.mem_filter, List.mem_range, (List.mergeSort_perm l leN).mem_iff]
  simp only [List.not_mem_nil, false_or, decide_eq_true_eq]
  exact ⟨fun q => ⟨h x q, q⟩, fun q => q.2⟩
end K1
set_option linter.all false
set_option maxRecDepth 100000
set_option autoImplicit false
/-! S8: what takes relations refuses others. -/
namespace K1
open PySem PySem.Spec PyProof.Rows L2 DL
theorem need_bad {b n : Nat} {d : D} (h : nice b n d = true) (hb : b ≤ 1000) (hn : n ≤ 50) (hr : relB d = false) : f_need_relations d = M.raise ⟨0, []⟩ := by
  unfold f_need_relations
  simp only [opC_pp, pure_bind, ar1_one, f_is_relations_d h hb hn, hr, noErr_pure, asB_bl, Bool.not_false, if_true]
  rfl
def msOf (v24_wrong : D) : List (M D) := [(opC (pure v24_wrong) (opC (pure .non) (pure []))) >>= fun ds => (ar2 f_is_rule) ds, (opC (pure v24_wrong) (opC (pure .non) (pure []))) >>= fun ds => (ar2 f_calm) ds, (opC (pure v24_wrong) (opC (pure .non) (opC (pure .non) (pure [])))) >>= fun ds => (ar3 f_is_calm_paper) ds, (opC (pure v24_wrong) (opC (pure .non) (pure []))) >>= fun ds => (ar2 f_is_store) ds, (opC (pure v24_wrong) (pure [])) >>= fun ds => (ar1 f_empty_store) ds, (opC (pure v24_wrong) (opC (pure .non) (opC (pure .non) (pure [])))) >>= fun ds => (ar3 f_added) ds, (opC (pure v24_wrong) (opC (pure .non) (opC (pure .non) (pure [])))) >>= fun ds => (ar3 f_within_store) ds, (opC (pure v24_wrong) (opC (pure .non) (opC (pure .non) (pure [])))) >>= fun ds => (ar3 f_answer) ds, (opC (pure v24_wrong) (opC (pure .non) (opC (pure .non) (opC (pure .non) (pure []))))) >>= fun ds => (ar4 f_witnesses) ds, (opC (pure v24_wrong) (opC (pure .non) (opC (pure .non) (pure [])))) >>= fun ds => (ar3 f_broken) ds, (opC (pure v24_wrong) (opC (pure .non) (pure []))) >>= fun ds => (ar2 f_question_text) ds, (opC (pure v24_wrong) (opC (pure .non) (pure []))) >>= fun ds => (ar2 f_rule_text) ds, (opC (pure v24_wrong) (opC (pure .non) (pure []))) >>= fun ds => (ar2 f_view_text) ds, (opC (pure v24_wrong) (opC (pure .non) (pure []))) >>= fun ds => (ar2 f_store_text) ds, (opC (pure v24_wrong) (opC (pure .non) (pure []))) >>= fun ds => (ar2 f_read_question) ds, (opC (pure v24_wrong) (opC (pure .non) (pure []))) >>= fun ds => (ar2 f_read_rule) ds, (opC (pure v24_wrong) (opC (pure .non) (pure []))) >>= fun ds => (ar2 f_read_view) ds, (opC (pure v24_wrong) (opC (pure .non) (pure []))) >>= fun ds => (ar2 f_read_store) ds]
theorem ms_raise {w : D} (h : f_need_relations w = M.raise ⟨0, []⟩) : ∀ m ∈ msOf w, m = M.raise ⟨0, []⟩ := by
  unfold msOf
  intro m hm
  simp only [List.mem_cons, List.not_mem_nil, or_false] at hm
  rcases hm with rfl | rfl | rfl | rfl | rfl | rfl | rfl | rfl | rfl | rfl | rfl | rfl | rfl | rfl | rfl | rfl | rfl | rfl
  · simp only [opC_pp, pure_bind, ar1_one, ar2_two, ar3_three]
    unfold f_is_rule; rw [opC_pp, pure_bind, ar1_one, h]; rfl
  · simp only [opC_pp, pure_bind, ar1_one, ar2_two, ar3_three]
    unfold f_calm; rw [opC_pp, pure_bind, ar1_one, h]; rfl
  · simp only [opC_pp, pure_bind, ar1_one, ar2_two, ar3_three]
    unfold f_is_calm_paper; rw [opC_pp, pure_bind, ar1_one, h]; rfl
  · simp only [opC_pp, pure_bind, ar1_one, ar2_two, ar3_three]
    unfold f_is_store; rw [opC_pp, pure_bind, ar1_one, h]; rfl
  · simp only [opC_pp, pure_bind, ar1_one, ar2_two, ar3_three]
    unfold f_empty_store; rw [opC_pp, pure_bind, ar1_one, h]; rfl
  · simp only [opC_pp, pure_bind, ar1_one, ar2_two, ar3_three]
    unfold f_added; rw [opC_pp, pure_bind, ar1_one, h]; rfl
  · simp only [opC_pp, pure_bind, ar1_one, ar2_two, ar3_three]
    unfold f_within_store; rw [opC_pp, pure_bind, ar1_one, h]; rfl
  · simp only [opC_pp, pure_bind, ar1_one, ar2_two, ar3_three]
    unfold f_answer; rw [opC_pp, pure_bind, ar1_one, h]; rfl
  · simp only [opC_pp, pure_bind, ar1_one, ar2_two, ar3_three]
    show f_witnesses w .non .non .non = _; unfold f_witnesses; rw [opC_pp, pure_bind, ar1_one, h]; rfl
  · simp only [opC_pp, pure_bind, ar1_one, ar2_two, ar3_three]
    unfold f_broken; rw [opC_pp, pure_bind, ar1_one, h]; rfl
  · simp only [opC_pp, pure_bind, ar1_one, ar2_two, ar3_three]
    unfold f_question_text; rw [opC_pp, pure_bind, ar1_one, h]; rfl
  · simp only [opC_pp, pure_bind, ar1_one, ar2_two, ar3_three]
    unfold f_rule_text; rw [opC_pp, pure_bind, ar1_one, h]; rfl
  · simp only [opC_pp, pure_bind, ar1_one, ar2_two, ar3_three]
    unfold f_view_text; rw [opC_pp, pure_bind, ar1_one, h]; rfl
  · simp only [opC_pp, pure_bind, ar1_one, ar2_two, ar3_three]
    unfold f_store_text; rw [opC_pp, pure_bind, ar1_one, h]; rfl
  · simp only [opC_pp, pure_bind, ar1_one, ar2_two, ar3_three]
    unfold f_read_question; rw [opC_pp, pure_bind, ar1_one, h]; rfl
  · simp only [opC_pp, pure_bind, ar1_one, ar2_two, ar3_three]
    unfold f_read_rule; rw [opC_pp, pure_bind, ar1_one, h]; rfl
  · simp only [opC_pp, pure_bind, ar1_one, ar2_two, ar3_three]
    unfold f_read_view; rw [opC_pp, pure_bind, ar1_one, h]; rfl
  · simp only [opC_pp, pure_bind, ar1_one, ar2_two, ar3_three]
    unfold f_read_store; rw [opC_pp, pure_bind, ar1_one, h]; rfl
theorem ms_len (w : D) : (msOf w).length = 18 := rfl
theorem act_raise {w : D} (h : f_need_relations w = M.raise ⟨0, []⟩) {i : Nat} (hi : i < 18) : dAct (lamsM (msOf w)) (.opq (33 + i)) = pure (.opq 1) := by
  obtain ⟨m, hm⟩ : ∃ m, (msOf w)[i]? = some m := ⟨_, List.getElem?_eq_getElem (by rw [ms_len]; exact hi)⟩
  have e : lamsM (msOf w) (33 + i) = some m := by
    unfold lamsM
    rw [if_neg (by omega), show 33 + i - 33 = i by omega, hm]
  unfold dAct
  simp only [e]
  rw [ms_raise h m (List.mem_of_getElem? hm)]
  rfl
theorem calls_p {γ : Type} {w : D} (h : f_need_relations w = M.raise ⟨0, []⟩) {f : Unit → D → M (Fl Unit Unit)} (hf : ∀ c, f () c = ((((((opC (pure c) (pure [])) >>= ar1 (dAct (lamsM (msOf w)))) >>= dIsX is_NoRelations) >>= asB) >>= fun b => pure (!b)) >>= fun b => if b = true then ((pure (.bl false)) >>= fun d => pure (.rt d)) else (pure (.nx ())))) :
    (loopD f ((List.range 18).map fun i => D.opq (33 + i)) () : M (Fl Unit γ)) = pure (.nx ()) := loop_nx fun d hd => by
  obtain ⟨i, hi, rfl⟩ := List.mem_map.mp hd
  rw [hf, opC_pp, pure_bind, ar1_one, act_raise h (List.mem_range.mp hi)]
  rfl
end K1
set_option linter.all false
set_option maxRecDepth 100000
set_option autoImplicit false
/-! S9: the law's pieces. -/
namespace K1
open PySem PySem.Spec PyProof.Rows L2 DL
variable {Ω : Om}
def ws : List D := [.str "x", .str "abcdefgh", .str "abcdefghi", .str "", .str "X", .str "same", .str "samex", .str "a b", .str "yes", .str "new"]
def wb : List D := [.bl true, .bl true, .bl false, .bl false, .bl false, .bl false, .bl true, .bl false, .bl false, .bl true]
theorem ws_nice : ∀ d ∈ ws, nice 10 0 d = true := by decide +kernel
theorem wb_eq : ws.map (fun d => D.bl (nm d)) = wb := by
  have e : ws.map nm = [true, true, false, false, false, false, true, false, false, true] := by decide +kernel
  have e2 : ws.map (fun d => D.bl (nm d)) = (ws.map nm).map D.bl := by rw [List.map_map]; rfl
  rw [e2, e]; rfl
theorem wb_sh : (D.lst wb).sh = true := by decide +kernel
theorem wb_eqv : D.eqv (.lst wb) (.lst wb) = true := by decide +kernel
theorem head1 : ((((op2 dNe ((((opC (pure (.str "x")) (opC (pure (.str "abcdefgh")) (opC (pure (.str "abcdefghi")) (opC (pure (.str "")) (opC (pure (.str "X")) (opC (pure (.str "same")) (opC (pure (.str "samex")) (opC (pure (.str "a b")) (opC (pure (.str "yes")) (opC (pure (.str "new")) (pure []))))))))))) >>= mkLst) >>= dIter) >>= lcD (fun v1_word => pure true) (fun v1_word => (opC (pure v1_word) (pure [])) >>= fun ds => noErr ((ar1 f_is_name) ds))) ((opC (pure (.bl true)) (opC (pure (.bl true)) (opC (pure (.bl false)) (opC (pure (.bl false)) (opC (pure (.bl false)) (opC (pure (.bl false)) (opC (pure (.bl true)) (opC (pure (.bl false)) (opC (pure (.bl false)) (opC (pure (.bl true)) (pure []))))))))))) >>= mkLst)) >>= asB) >>= fun b => if b = true then ((pure (.bl false)) >>= fun d => pure (.rt d)) else (pure (.nx ()))) : M (Fl Unit Unit)) = pure (.nx ()) := by
  have e1 : (((pure ws >>= mkLst) >>= dIter) >>= lcD (fun _ => pure true) (fun v1 => (opC (pure v1) (pure [])) >>= fun ds => noErr ((ar1 f_is_name) ds))) = pure (.lst wb) := by
    rw [pure_bind, mkLst_p (show ws.length ≤ lim by decide), pure_bind, dIter_l, pure_bind, lcD_map (e := fun d => .bl (nm d)) (show ws.length ≤ lim by decide) (fun d hd => by rw [opC_pp, pure_bind, ar1_one, f_is_name_d (ws_nice d hd) (by decide), noErr_pure]), wb_eq]
  have e2 : (pure wb >>= mkLst) = pure (.lst wb) := by rw [pure_bind, mkLst_p (show wb.length ≤ lim by decide)]
  have e3 : (op2 dNe (((pure ws >>= mkLst) >>= dIter) >>= lcD (fun _ => pure true) (fun v1 => (opC (pure v1) (pure [])) >>= fun ds => noErr ((ar1 f_is_name) ds))) (pure wb >>= mkLst)) = pure (.bl false) := by
    rw [e1, e2, op2_pp, dNe_p wb_sh wb_sh, wb_eqv]; rfl
  have fin : ∀ m : M D, m = pure (.bl false) → ((m >>= asB) >>= fun b => if b = true then ((pure (D.bl false)) >>= fun d => (pure (.rt d) : M (Fl Unit Unit))) else (pure (.nx ()))) = pure (.nx ()) := fun m e => by rw [e]; rfl
  exact fin _ e3
theorem us_lw {l : List Nat} (h : Sm l) (hl : l.length ≤ 24) : lw 24 1 (.lst (l.map u)) = true := by
  simp only [lw, Bool.and_eq_true, decide_eq_true_eq, List.all_eq_true]
  refine ⟨by rw [List.length_map]; exact hl, fun x hx => ?_⟩
  obtain ⟨i, hi, rfl⟩ := List.mem_map.mp hx
  exact u_lw i (h i hi)
theorem law_is_u {l : List Nat} (h : Sm l) (hl : l.length ≤ 24) : f__law_is (.lst (l.map u)) (.lst (l.map u)) = pure (.bl true) := by
  have hw := us_lw h hl
  have rl : (D.lst (l.map u)).rl ≤ lim := by
    have a := rls_map u 100 l fun x hx => u_rl x (h x hx)
    have ll : (100000 : Nat) ≤ lim := by decide
    simp only [D.rl]
    omega
  exact law_is_p (b := 24) (n := 1) (by decide) (by decide) hw hw rfl rfl rl rl rfl
theorem filt_sm (l : List Nat) : Sm ((List.range 24).filter (decide <| · ∈ l)) := fun i hi => List.mem_range.mp (List.mem_filter.mp hi).1
theorem filt_len (l : List Nat) : ((List.range 24).filter (decide <| · ∈ l)).length ≤ 24 := by
  have := List.length_filter_le (decide <| · ∈ l) (List.range 24)
  rwa [List.length_range] at this
def parR : D := .tup true [.tup false [.str "par", .int 2]]
theorem head2 : (((((((opC ((opC ((opC (pure (.str "y")) (opC (pure (.int 3)) (opC (pure (.str "x")) (opC (pure (.int 0)) (opC (pure (.str "y")) (opC (pure (.int 11)) (opC (pure (.int 3)) (pure [])))))))) >>= mkLst) (pure [])) >>= fun ds => noErr ((ar1 f_in_sequence) ds)) (opC ((opC (pure (.int 0)) (opC (pure (.int 3)) (opC (pure (.int 11)) (opC (pure (.str "x")) (opC (pure (.str "y")) (pure [])))))) >>= mkLst) (pure []))) >>= fun ds => noErr ((ar2 f__law_is) ds)) >>= asB) >>= fun b => pure (!b)) >>= fun x => if x = true then pure true else ((op2 dIsNot ((opC ((opC ((opC (pure (.str "par")) (opC (pure (.int 2)) (pure []))) >>= mkTup) (pure [])) >>= mkTupX) (pure [])) >>= fun ds => noErr ((ar1 f_is_relations) ds)) (pure (.bl true))) >>= asB)) >>= fun b => if b = true then ((pure (.bl false)) >>= fun d => pure (.rt d)) else (pure (.nx ()))) : M (Fl Unit Unit)) = pure (.nx ()) := by
  have sm : Sm [22, 3, 21, 0, 22, 11, 3] := by intro i hi; revert i; decide
  have q1 : f_in_sequence (.lst ([22, 3, 21, 0, 22, 11, 3].map u)) = pure (.lst ([0, 3, 11, 21, 22].map u)) := by
    rw [in_seq sm (by decide), dd_eq sm]
    rfl
  have q2 : f__law_is (.lst ([0, 3, 11, 21, 22].map u)) (.lst ([0, 3, 11, 21, 22].map u)) = pure (.bl true) := law_is_u (by intro i hi; revert i; decide) (by decide)
  have q3 : f_is_relations parR = pure (.bl true) := by
    rw [f_is_relations_d (b := 10) (n := 2) (by decide +kernel) (by decide) (by decide)]
    rw [show relB parR = true by decide +kernel]
  have e1 : ((pure ([22, 3, 21, 0, 22, 11, 3].map u)) >>= mkLst) = pure (.lst ([22, 3, 21, 0, 22, 11, 3].map u)) := by rw [pure_bind, mkLst_p (by decide)]
  have e2 : ((pure ([0, 3, 11, 21, 22].map u)) >>= mkLst) = pure (.lst ([0, 3, 11, 21, 22].map u)) := by rw [pure_bind, mkLst_p (by decide)]
  have e3 : ((opC ((opC ((pure ([22, 3, 21, 0, 22, 11, 3].map u)) >>= mkLst) (pure [])) >>= fun ds => noErr ((ar1 f_in_sequence) ds)) (opC ((pure ([0, 3, 11, 21, 22].map u)) >>= mkLst) (pure []))) >>= fun ds => noErr ((ar2 f__law_is) ds)) = pure (.bl true) := by
    rw [e1, e2, opC_pp, pure_bind, ar1_one, q1, noErr_pure, opC_pp, opC_pp, pure_bind, ar2_two, q2, noErr_pure]
  have e4 : (op2 dIsNot ((opC ((opC ((opC (pure (.str "par")) (opC (pure (.int 2)) (pure []))) >>= mkTup) (pure [])) >>= mkTupX) (pure [])) >>= fun ds => noErr ((ar1 f_is_relations) ds)) (pure (.bl true))) = pure (.bl false) := by
    rw [opC_pp, opC_pp, pure_bind, mkTup2, opC_pp, pure_bind, mkTupX_p (by decide), opC_pp, pure_bind, ar1_one]
    rw [show f_is_relations (.tup true [.tup false [.str "par", .int 2]]) = pure (.bl true) from q3, noErr_pure, op2_pp]
    rfl
  have fin : ∀ m m2 : M D, m = pure (.bl true) → m2 = pure (.bl false) → ((((m >>= asB) >>= fun b => pure (!b)) >>= fun x => if x = true then pure true else (m2 >>= asB)) >>= fun b => if b = true then ((pure (D.bl false)) >>= fun d => (pure (.rt d) : M (Fl Unit Unit))) else (pure (.nx ()))) = pure (.nx ()) := fun m m2 e e2 => by rw [e, e2]; rfl
  exact fin _ _ e3 e4
/-! ### a drawn word -/
theorem pick_str {z : Str} (h0 : 0 < z.length) (h1 : z.length ≤ 1000) : Dr 1 (f__law_pick Ω (.str z)) fun d => ∃ c : Nat, d = .str ⟨#[c]⟩ := by
  unfold f__law_pick
  refine Dr.fin ?_
  simp only [opC_pp, pure_bind, ar1_one, dLen_s (lim_ge _ h1), sr1_one, op2_pr, bind_assoc]
  refine Dr.bind (k1 := 1) (k2 := 0) (Dr.noErr (draw_dr h0 (by omega))) fun y hy => ?_
  obtain ⟨i, rfl, hi⟩ := hy
  have hi' : i < z.cps.toList.length := by simpa [Str.length] using hi
  have e : dIx (.str z) (.int (i : Nat)) = pure (.str ⟨#[z.cps.toList[i]]⟩) := by
    show gd (z.length ≤ lim) (match atI z.cps.toList (i : Nat) with | some c => pure (D.str ⟨#[c]⟩) | none => M.stuck) = _
    rw [gd_pos (lim_ge _ h1), atI_nat (List.getElem?_eq_getElem hi')]
  rw [e, pure_bind]
  exact Dr.pure ⟨_, rfl, _, rfl⟩
theorem join_len : ∀ ys : List Str, (∀ y ∈ ys, y.length = 1) → (Txt.join "" ys).length = ys.length := fun ys h => by
  have e : ∀ ps : List (List Nat), (TL.joinL [] ps).length = (ps.map List.length).sum := fun ps => by
    induction ps with
    | nil => rfl
    | cons p ps ih =>
      cases ps with
      | nil => simp [TL.joinL]
      | cons q r => rw [TL.joinL, List.nil_append, List.length_append, ih, List.map_cons (l := q :: r), List.sum_cons]
  have e2 : (TL.tl (Str.join "" ys)).length = ys.length := by
    rw [TL.tl_join, show TL.tl ("" : Str) = [] from rfl, e, List.map_map]
    clear e
    induction ys with
    | nil => rfl
    | cons y ys ih =>
      rw [List.map_cons, List.sum_cons, ih fun z hz => h z (List.mem_cons_of_mem _ hz), List.length_cons]
      have := h y (List.mem_cons_self ..)
      have q : (TL.tl y).length = y.length := by simp [TL.tl, Str.length]
      show (TL.tl y).length + _ = _
      omega
  rw [TL.join_eq]
  have q : (TL.tl (Str.join "" ys)).length = (Str.join "" ys).length := by simp [TL.tl, Str.length]
  rw [← q, e2]
theorem strs_one : ∀ rs : List D, (∀ r ∈ rs, ∃ c : Nat, r = .str ⟨#[c]⟩) → ∃ ys : List Str, D.strs? rs = some ys ∧ ys.length = rs.length ∧ ∀ y ∈ ys, y.length = 1
  | [], _ => ⟨[], rfl, rfl, fun y hy => nomatch hy⟩
  | r :: rs, h => by
    obtain ⟨c, rfl⟩ := h r (List.mem_cons_self ..)
    obtain ⟨ys, e1, e2, e3⟩ := strs_one rs fun r hr => h r (List.mem_cons_of_mem _ hr)
    refine ⟨⟨#[c]⟩ :: ys, by rw [D.strs?, e1]; rfl, by rw [List.length_cons, List.length_cons, e2], fun y hy => ?_⟩
    rcases List.mem_cons.mp hy with rfl | hy
    · rfl
    · exact e3 y hy
theorem range_draw {n : Nat} (h0 : 0 < n) (h1 : n ≤ 1000) {me : D → M D} {k : Nat} {P : D → Prop} (h : ∀ d, Dr k (me d) P) :
    Dr (1 + k * n) (((opC ((opC (pure .st) (opC (pure (.int (n : Nat))) (pure []))) >>= fun ds => noErr ((sr1 (f__law_draw Ω)) ds)) (pure [])) >>= dRange1) >>= lcD (fun _ => pure true) me) fun d => ∃ rs, d = .lst rs ∧ rs.length < n ∧ ∀ r ∈ rs, P r := by
  rw [opC_m1, bind_assoc, bind_assoc]
  refine (draws h0 (by omega)).bind fun y hy => ?_
  obtain ⟨i, rfl, hi⟩ := hy
  rw [pure_bind, dRange1_p (by omega), pure_bind]
  refine Dr.mono (k := k * (rangeD 0 i).length) (Dr.lc (by rw [range_len]; exact lim_ge _ (by omega)) fun d _ => h d) (by rw [range_len]; exact Nat.mul_le_mul_left _ (by omega)) fun d hd => ?_
  obtain ⟨rs, rfl, h2, h3⟩ := hd
  rw [range_len] at h2
  exact ⟨rs, rfl, by omega, h3⟩
theorem word_dr : Dr 11 ((pure (.str "")) >>= asS >>= fun z => (opC (((opC ((opC (pure .st) (opC (pure (.int 10)) (pure []))) >>= fun ds => noErr ((sr1 (f__law_draw Ω)) ds)) (pure [])) >>= dRange1) >>= lcD (fun v7_lap => pure true) (fun v7_lap => (opC (pure .st) (opC (pure (.str "rowsamexq")) (pure []))) >>= fun ds => noErr ((sr1 (f__law_pick Ω)) ds))) (pure [])) >>= fun ds => dJoin z ds) fun d => ∃ z : Str, d = .str z ∧ z.length ≤ 10 := by
  rw [pure_bind, asS_str, pure_bind, opC_m1, bind_assoc]
  refine Dr.mono (k := (1 + 1 * 10) + 0) ((range_draw (Ω := Ω) (n := 10) (by decide) (by decide) (P := fun d => ∃ c : Nat, d = .str ⟨#[c]⟩) fun d => ?_).bind fun d hd => ?_) (by decide) fun _ h => h
  · rw [opC_pp, opC_pp, pure_bind, sr1_one]
    exact Dr.noErr (pick_str (by decide) (by decide))
  · obtain ⟨rs, rfl, h1, h2⟩ := hd
    obtain ⟨ys, e1, e2, e3⟩ := strs_one rs h2
    rw [pure_bind]
    have e4 : dJoin "" [.lst rs] = pure (.str (Txt.join "" ys)) := by
      unfold dJoin
      simp only [e1]
      refine gd_pos ?_
      have q : (ys.map (·.length)).sum ≤ ys.length := by
        clear e1 e2
        induction ys with
        | nil => exact Nat.le_refl _
        | cons y ys ih =>
          have := ih fun y hy => e3 y (List.mem_cons_of_mem _ hy)
          have := e3 y (List.mem_cons_self ..)
          rw [List.map_cons, List.sum_cons, List.length_cons]
          omega
      have q2 : ("" : Str).length = 0 := rfl
      rw [q2, Nat.mul_zero]
      omega
    rw [e4]
    exact Dr.pure ⟨_, rfl, by rw [join_len ys e3]; omega⟩
/-! ### drawn terms -/
theorem some_dr : Dr 28 (((opC ((opC (pure .st) (opC (pure (.int 9)) (pure []))) >>= fun ds => noErr ((sr1 (f__law_draw Ω)) ds)) (pure [])) >>= dRange1) >>= lcD (fun v18_lap => pure true) (fun v18_lap => (opC (pure .st) (opC ((opC ((opC (pure .st) (opC (pure (.int 20)) (pure []))) >>= fun ds => noErr ((sr1 (f__law_draw Ω)) ds)) (opC ((opC (pure .st) (opC ((opC (pure (.str "x")) (opC (pure (.str "y")) (opC (pure (.str "z")) (opC (pure (.str "abc")) (pure []))))) >>= mkLst) (pure []))) >>= fun ds => noErr ((sr1 (f__law_pick Ω)) ds)) (pure []))) >>= mkLst) (pure []))) >>= fun ds => noErr ((sr1 (f__law_pick Ω)) ds))) fun d => ∃ l : List Nat, d = .lst (l.map u) ∧ Sm l ∧ l.length ≤ 8 := by
  refine Dr.mono (k := 1 + 3 * 9) (range_draw (Ω := Ω) (n := 9) (by decide) (by decide) (P := fun d => ∃ i, i < 24 ∧ d = u i) fun d => ?_) (by decide) fun d hd => ?_
  · simp only [opC, pure_bind, bind_assoc]
    refine Dr.mono (k := 1 + (1 + 1)) (Dr.bind (Dr.noErr (draw_dr (r := 20) (by decide) (by decide))) fun y hy => ?_) (by decide) fun _ h => h
    obtain ⟨i, rfl, hi⟩ := hy
    rw [mkLst_p (by decide), pure_bind]
    refine Dr.bind (P := fun d => ∃ j, j < 24 ∧ d = u j) (Dr.noErr (pick_ls (by simp) (by decide) fun d hd => ?_)) fun y hy => ?_
    · simp only [List.mem_cons, List.not_mem_nil, or_false] at hd
      rcases hd with rfl | rfl | rfl | rfl
      · exact ⟨21, by decide, rfl⟩
      · exact ⟨22, by decide, rfl⟩
      · exact ⟨23, by decide, rfl⟩
      · exact ⟨20, by decide, rfl⟩
    · rw [mkLst_p (xs := [D.int (i : Nat), y]) (show 2 ≤ lim by decide), pure_bind]
      refine Dr.noErr (pick_ls (xs := [D.int (i : Nat), y]) (by simp) (show 2 ≤ 1000 by decide) fun d hd => ?_)
      simp only [List.mem_cons, List.not_mem_nil, or_false] at hd
      rcases hd with rfl | rfl
      · exact ⟨i, by omega, by unfold u; rw [if_pos hi]⟩
      · exact hy
  · obtain ⟨rs, rfl, h1, h2⟩ := hd
    have key : ∀ rs : List D, (∀ r ∈ rs, ∃ i, i < 24 ∧ r = u i) → ∃ l : List Nat, rs = l.map u ∧ Sm l := fun rs => by
      induction rs with
      | nil => intro _; exact ⟨[], rfl, fun i hi => nomatch hi⟩
      | cons r rs ih =>
        intro h
        obtain ⟨i, hi, rfl⟩ := h r (List.mem_cons_self ..)
        obtain ⟨l, rfl, hl⟩ := ih fun r hr => h r (List.mem_cons_of_mem _ hr)
        exact ⟨i :: l, rfl, fun j hj => (List.mem_cons.mp hj).elim (fun e => e ▸ hi) (hl j)⟩
    obtain ⟨l, rfl, hl⟩ := key rs h2
    rw [List.length_map] at h1
    exact ⟨l, rfl, hl, by omega⟩
theorem in_u {l : List Nat} (h : Sm l) {i : Nat} (hi : i < 24) : dIn (u i) (.lst (l.map u)) = pure (.bl (decide (i ∈ l))) := by
  rw [dIn_l (u_sh hi) (us_shA h)]
  congr 2
  unfold D.anyEqv
  rw [List.any_map]
  rw [Bool.eq_iff_iff, List.any_eq_true, decide_eq_true_eq]
  constructor
  · rintro ⟨x, hx, e⟩
    rw [Function.comp, u_eqv x (h x hx) i hi, decide_eq_true_eq] at e
    exact e ▸ hx
  · exact fun hx => ⟨i, hx, by rw [Function.comp, u_eqv i hi i hi]; exact decide_eq_true rfl⟩
theorem filt_u {l ds : List Nat} (h : Sm l) (hd : Sm ds) (hl : ds.length ≤ 1000) : lcD (fun v => (op2 dIn (pure v) (pure (.lst (l.map u)))) >>= asB) (fun v => pure v) (ds.map u) = pure (.lst ((ds.filter (decide <| · ∈ l)).map u)) := by
  have key : ∀ ds : List Nat, Sm ds → compM (lcM (fun v => (op2 dIn (pure v) (pure (.lst (l.map u)))) >>= asB) fun v => pure v) (ds.map u) = pure ((ds.filter (decide <| · ∈ l)).map u) := fun ds => by
    induction ds with
    | nil => intro _; rfl
    | cons i ds ih =>
      intro hd
      have e1 : lcM (fun v => (op2 dIn (pure v) (pure (.lst (l.map u)))) >>= asB) (fun v => pure v) (u i) = pure (if decide (i ∈ l) = true then some (u i) else none) :=
        lcM_pure (t := fun _ => decide (i ∈ l)) (e := fun d => d) (by rw [op2_pp, in_u h (hd i (List.mem_cons_self ..))]; rfl) fun _ => rfl
      rw [List.map_cons, compM, e1, pure_bind, ih fun j hj => hd j (List.mem_cons_of_mem _ hj), pure_bind]
      by_cases hi : i ∈ l
      · simp [hi]
      · simp [hi]
  unfold lcD
  rw [gd_pos (by rw [List.length_map]; exact lim_ge _ hl), key ds hd]
  rfl
theorem num_p {l : List Nat} (h : Sm l) : (fun v17_some => ((((opC (pure (.int 20)) (pure [])) >>= dRange1) >>= lcD (fun v21_one => (op2 dIn (pure v21_one) (pure v17_some)) >>= asB) (fun v21_one => pure v21_one)) : M D)) (.lst (l.map u)) = pure (.lst (((List.range 20).filter (decide <| · ∈ l)).map u)) := by
  show (((opC (pure (.int ((20 : Nat) : Int))) (pure [])) >>= dRange1) >>= _) = _
  rw [opC_pp, pure_bind, dRange1_p (by decide), pure_bind]
  have e : rangeD 0 20 = (List.range 20).map u := rfl
  rw [e]
  exact filt_u h (fun i hi => by have := List.mem_range.mp hi; omega) (by decide)
theorem nam_p {l : List Nat} (h : Sm l) : (fun v17_some => (((((opC (pure (.str "abc")) (opC (pure (.str "x")) (opC (pure (.str "y")) (opC (pure (.str "z")) (pure []))))) >>= mkLst) >>= dIter) >>= lcD (fun v22_one => (op2 dIn (pure v22_one) (pure v17_some)) >>= asB) (fun v22_one => pure v22_one)) : M D)) (.lst (l.map u)) = pure (.lst (([20, 21, 22, 23].filter (decide <| · ∈ l)).map u)) := by
  show (((pure ([20, 21, 22, 23].map u) >>= mkLst) >>= dIter) >>= _) = _
  rw [pure_bind, mkLst_p (by decide), pure_bind, dIter_l, pure_bind]
  exact filt_u h (by intro i hi; revert i; decide) (by decide)
theorem test_p {l : List Nat} (h : Sm l) (hl : l.length ≤ 8) : (fun v17_some v19_numbers v20_names => ((((((opC ((opC (pure v17_some) (pure [])) >>= fun ds => noErr ((ar1 f_in_sequence) (kp .non (List.length (α := Str) ["terms"]) [0] [] ds))) (opC (op2 dAdd (pure v19_numbers) (pure v20_names)) (pure []))) >>= fun ds => noErr ((ar2 f__law_is) ds)) >>= asB) >>= fun b => pure (!b)) >>= fun b => if b = true then ((pure (.bl false)) >>= fun d => pure (.rt d)) else (pure (.nx ()))) : M (Fl Unit Unit))) (.lst (l.map u)) (.lst (((List.range 20).filter (decide <| · ∈ l)).map u)) (.lst (([20, 21, 22, 23].filter (decide <| · ∈ l)).map u)) = pure (.nx ()) := by
  have e0 : (List.range 24).filter (decide <| · ∈ l) = (List.range 20).filter (decide <| · ∈ l) ++ [20, 21, 22, 23].filter (decide <| · ∈ l) := by
    rw [show List.range 24 = List.range 20 ++ [20, 21, 22, 23] from rfl, List.filter_append]
  have l1 := List.length_filter_le (decide <| · ∈ l) (List.range 20)
  have l2 := List.length_filter_le (decide <| · ∈ l) [20, 21, 22, 23]
  rw [List.length_range] at l1
  have e1 : dAdd (.lst (((List.range 20).filter (decide <| · ∈ l)).map u)) (.lst (([20, 21, 22, 23].filter (decide <| · ∈ l)).map u)) = pure (.lst (((List.range 24).filter (decide <| · ∈ l)).map u)) := by
    rw [dAdd_ll (lim_ge _ (by simp only [List.length_map]; simp only [List.length_cons, List.length_nil] at l2; omega)), e0, List.map_append]
  have e2 : f_in_sequence (.lst (l.map u)) = pure (.lst (((List.range 24).filter (decide <| · ∈ l)).map u)) := by rw [in_seq h (by omega), dd_eq h]
  have e3 : ((opC ((opC (pure (D.lst (l.map u))) (pure [])) >>= fun ds => noErr ((ar1 f_in_sequence) (kp .non (List.length (α := Str) ["terms"]) [0] [] ds))) (opC (op2 dAdd (pure (.lst (((List.range 20).filter (decide <| · ∈ l)).map u))) (pure (.lst (([20, 21, 22, 23].filter (decide <| · ∈ l)).map u)))) (pure []))) >>= fun ds => noErr ((ar2 f__law_is) ds)) = pure (.bl true) := by
    rw [opC_pp, pure_bind, show (ar1 f_in_sequence) (kp .non (List.length (α := Str) ["terms"]) [0] [] [D.lst (l.map u)]) = f_in_sequence (.lst (l.map u)) from rfl, e2, noErr_pure, op2_pp, e1, opC_pp, opC_pp, pure_bind, ar2_two, law_is_u (filt_sm l) (filt_len l), noErr_pure]
  have fin : ∀ m : M D, m = pure (.bl true) → (((m >>= asB) >>= fun b => pure (!b)) >>= fun b => if b = true then ((pure (D.bl false)) >>= fun d => (pure (.rt d) : M (Fl Unit Unit))) else (pure (.nx ()))) = pure (.nx ()) := fun m e => by rw [e]; rfl
  exact fin _ e3
end K1
set_option linter.all false
set_option maxRecDepth 100000
set_option autoImplicit false
/-! S10: the law of k00. -/
namespace K1
open PySem PySem.Spec PyProof.Rows L2 DL
variable {Ω : Om}
theorem opC_all {k1 k2 n : Nat} {m : M D} {ms : M (List D)} {P : D → Prop} (h : Dr k1 m P) (h' : Dr k2 ms fun l => l.length = n ∧ ∀ d ∈ l, P d) : Dr (k1 + k2) (opC m ms) fun l => l.length = n + 1 ∧ ∀ d ∈ l, P d :=
  h.bind fun x hx => Dr.mono (k := k2 + 0) (h'.bind fun xs hxs => Dr.pure ⟨by rw [List.length_cons, hxs.1], fun d hd => (List.mem_cons.mp hd).elim (fun e => e ▸ hx) (hxs.2 d)⟩) (Nat.le_refl _) fun _ h => h
theorem opC_none {P : D → Prop} : Dr 0 (pure [] : M (List D)) fun l => l.length = 0 ∧ ∀ d ∈ l, P d := Dr.pure ⟨rfl, fun d hd => nomatch hd⟩
theorem sayM {mA mB : M D} {x : Bool} (a : mA = pure (.bl x)) (b : mB = pure (.bl x)) : ((((opC mA (opC mB (pure []))) >>= fun ds => noErr ((ar2 f__law_says) ds)) >>= asB) >>= fun b => pure (!b)) = pure false := by
  rw [a, b, opC_pp, opC_pp, pure_bind, ar2_two, says_p, noErr_pure]
  rfl
theorem loop1_dr {z : Str} (hz : z.length ≤ 10) : Dr 26 ((fun v6_word => (((((opC (pure v6_word) (opC ((opC (pure .st) (opC ((opC (pure (.str "row")) (opC (pure (.str "or")) (opC (pure (.str "to")) (opC (pure (.str "rows")) (opC (pure (.str "relation")) (opC (pure (.str "a1")) (pure []))))))) >>= mkLst) (pure []))) >>= fun ds => noErr ((sr1 (f__law_pick Ω)) ds)) (opC ((opC (pure .st) (opC (pure v6_word) (pure []))) >>= fun ds => noErr ((sr1 (f__law_near Ω 6)) ds)) (opC (op2 dSub ((opC (pure .st) (opC (pure (.int 2000)) (pure []))) >>= fun ds => noErr ((sr1 (f__law_draw Ω)) ds)) (pure (.int 500))) (opC (pure (.bl true)) (opC (pure .non) (pure []))))))) >>= mkLst) >>= dIter) >>= fun ds => loopD (fun (b8 : Unit) v9_value => (((((opC ((opC (pure v9_value) (pure [])) >>= fun ds => noErr ((ar1 f_is_name) ds)) (opC ((opC (pure v9_value) (pure [])) >>= fun ds => noErr ((ar1 f__law_is_name) ds)) (pure []))) >>= fun ds => noErr ((ar2 f__law_says) ds)) >>= asB) >>= fun b => pure (!b)) >>= fun x => if x = true then pure true else ((((opC ((opC (pure v9_value) (pure [])) >>= fun ds => noErr ((ar1 f_is_term) (kp .non (List.length (α := Str) ["thing"]) [0] [] ds))) (opC ((opC (pure v9_value) (pure [])) >>= fun ds => noErr ((ar1 f__law_is_term) ds)) (pure []))) >>= fun ds => noErr ((ar2 f__law_says) ds)) >>= asB) >>= fun b => pure (!b))) >>= fun b => if b = true then ((pure (.bl false)) >>= fun d => pure (.rt d)) else (pure (.nx ()))) ds ()) : M (Fl Unit Unit))) (.str z)) fun fl => ∃ b, fl = .nx b ∧ True := by
  refine checkLoop (Q := fun d => nice 60 2 d = true) ?_ fun d hd => ?_
  · have nw : ∀ k, nice 10 k (.str z) = true := fun k => niceS.mpr hz
    refine Dr.mono (k := (0 + (1 + (24 + (1 + (0 + (0 + 0)))))) + (0 + 0)) ?_ (by decide) fun _ h => h
    rw [bind_assoc]
    refine Dr.bind (opC_all (P := fun d => nice 60 2 d = true) (Dr.pure (niceS.mpr (by omega))) (opC_all ?_ (opC_all ?_ (opC_all ?_ (opC_all (Dr.pure niceB) (opC_all (Dr.pure niceN) opC_none)))))) fun l hl => ?_
    · have e : mkLst [D.str "row", .str "or", .str "to", .str "rows", .str "relation", .str "a1"] = pure (.lst [D.str "row", .str "or", .str "to", .str "rows", .str "relation", .str "a1"]) := mkLst_p (show 6 ≤ lim by decide)
      simp only [opC_pp, pure_bind, e, sr1_one]
      refine Dr.noErr (pick_ls (by simp) (by decide) fun d hd => ?_)
      simp only [List.mem_cons, List.not_mem_nil, or_false] at hd
      rcases hd with rfl | rfl | rfl | rfl | rfl | rfl <;> decide
    · rw [opC_pp, opC_pp, pure_bind, sr1_one]
      exact Dr.noErr ((near_dr (Ω := Ω) (b := 10) (by decide) (by decide) 6 0 _ (nw 0) (by decide) (by decide)).mono (Nat.le_refl _) fun d hd => nice_mono (by decide) 1 2 d (by decide) hd)
    · rw [op2_mp]
      refine Dr.mono (k := 1 + 0) ((draws (k := 2000) (by decide) (by decide)).bind fun y hy => ?_) (by decide) fun _ h => h
      obtain ⟨i, rfl, hi⟩ := hy
      rw [dSub_ii]
      exact Dr.pure niceI
    · rw [mkLst_p (by rw [hl.1]; decide), pure_bind, dIter_l]
      exact Dr.mono (k := 0) (Dr.pure hl.2) (by decide) fun _ h => h
  · have fin : ∀ t1 t2 : M Bool, t1 = pure false → t2 = pure false → ((t1 >>= fun x => if x = true then pure true else t2) >>= fun b => if b = true then ((pure (D.bl false)) >>= fun d => (pure (.rt d) : M (Fl Unit Unit))) else (pure (.nx ()))) = pure (.nx ()) := fun t1 t2 e e2 => by rw [e, e2]; rfl
    refine fin _ _ (sayM (x := nm d) ?_ ?_) (sayM (x := tm d) ?_ ?_)
    · rw [opC_pp, pure_bind, ar1_one, f_is_name_d hd (by decide), noErr_pure]
    · rw [opC_pp, pure_bind, ar1_one, f_law_is_name_d hd (by decide), noErr_pure]
    · rw [opC_pp, pure_bind, show (ar1 f_is_term) (kp .non (List.length (α := Str) ["thing"]) [0] [] [d]) = f_is_term d from rfl, f_is_term_d hd (by decide), noErr_pure]
    · rw [opC_pp, pure_bind, ar1_one, f_law_is_term_d hd (by decide), noErr_pure]
theorem rel_nice {r : Rel} (hr : RelOk r) : nice 8 2 (relD r) = true := by
  rw [relD_eq]
  refine niceT.mpr ⟨by rw [List.length_map]; have := hr.le; omega, fun x hx => ?_⟩
  obtain ⟨p, hp, rfl⟩ := List.mem_map.mp hx
  refine niceT.mpr ⟨show 2 ≤ 8 by decide, fun y hy => ?_⟩
  simp only [List.mem_cons, List.not_mem_nil, or_false] at hy
  rcases hy with rfl | rfl
  · exact niceS.mpr (hr.nm p hp).2
  · exact niceI
theorem gather2 {k : Nat} {L : List D} {m ml : M D} (e : ml = pure (.lst L)) (hl : L.length ≤ 40) (hn : ∀ x ∈ L, nice 54 6 x = true) (h : Dr k m fun d => ∃ rs, d = .lst rs ∧ rs.length ≤ 20 ∧ ∀ x ∈ rs, nice 54 6 x = true) : Dr k ((op2 dAdd ml m) >>= dIter) fun ds => ds.length ≤ 60 ∧ ∀ d ∈ ds, nice 54 6 d = true := by
  rw [e, op2_pr, bind_assoc]
  refine Dr.mono (k := k + 0) (h.bind fun d hd => ?_) (Nat.le_refl _) fun _ h => h
  obtain ⟨rs, rfl, h1, h2⟩ := hd
  rw [dAdd_ll (lim_ge _ (by omega)), pure_bind, dIter_l]
  exact Dr.pure ⟨by rw [List.length_append]; omega, fun d hd => (List.mem_append.mp hd).elim (hn d) (h2 d)⟩
def Bad (d : D) : Prop := nice 54 6 d = true ∧ relB d = false
theorem loop2_dr {r : Rel} (hr : RelOk r) : Dr 144 ((fun v10_relations v11_bad => ((((op2 dAdd ((opC (pure v10_relations) (opC (op1 dRev (pure v10_relations)) (opC (op2 dMul (pure v10_relations) (pure (.int 4))) (pure [])))) >>= mkLst) (((opC (pure (.int 6)) (pure [])) >>= dRange1) >>= lcD (fun v12_lap => pure true) (fun v12_lap => (opC (pure .st) (opC (pure v10_relations) (pure []))) >>= fun ds => noErr ((sr1 (f__law_near Ω 6)) ds)))) >>= dIter) >>= fun ds => loopD (fun (b13 : D) v14_value => Fl.seq (((((opC ((opC (pure v14_value) (pure [])) >>= fun ds => noErr ((ar1 f_is_relations) ds)) (opC ((opC (pure v14_value) (pure [])) >>= fun ds => noErr ((ar1 f__law_is_relations) ds)) (pure []))) >>= fun ds => noErr ((ar2 f__law_says) ds)) >>= asB) >>= fun b => pure (!b)) >>= fun b => if b = true then ((pure (.bl false)) >>= fun d => pure (.rt d)) else (pure (.nx ()))) fun (b15 : Unit) => (op2 dAdd (pure b13) ((((opC (pure v14_value) (pure [])) >>= fun ds => noErr ((ar1 f__law_is_relations) ds)) >>= asB) >>= fun x => if x = true then ((pure []) >>= mkLst) else ((opC (pure v14_value) (pure [])) >>= mkLst))) >>= fun v16_bad => pure (.nx v16_bad)) ds v11_bad) : M (Fl D Unit))) (relD r) (.lst [])) fun fl => ∃ b, fl = .nx b ∧ ∃ bs, b = .lst bs ∧ bs.length ≤ 60 ∧ ∀ x ∈ bs, Bad x := by
  have nr := rel_nice hr
  have ne : r.map relE ≠ [] := fun e => by
    have h1 := hr.ne
    have h2 : r.length = 0 := by
      have := congrArg List.length e
      rwa [List.length_map] at this
    omega
  have rl : (r.map relE).length ≤ 3 := by rw [List.length_map]; exact hr.le
  have n3 : nice 54 6 (relD r) = true := nice_mono (by decide) 2 6 _ (by decide) nr
  have e1 : ((opC (pure (relD r)) (opC (op1 dRev (pure (relD r))) (opC (op2 dMul (pure (relD r)) (pure (.int 4))) (pure [])))) >>= mkLst) = pure (.lst [relD r, .tup false (r.map relE).reverse, .tup false (List.replicate 4 (r.map relE)).flatten]) := by
    have a : dMul (relD r) (.int 4) = pure (.tup false (List.replicate 4 (r.map relE)).flatten) := by
      rw [relD_eq]
      show (if (4 : Int) = 1 then (pure (D.tup true (r.map relE)) : M D) else gd (r.map relE ≠ [] ∧ (2 : Int) ≤ 4 ∧ (4 : Int) ≤ 1000 ∧ (r.map relE).length ≤ 1000) (pure (.tup false (List.replicate (4 : Int).toNat (r.map relE)).flatten))) = _
      rw [if_neg (by decide)]
      exact gd_pos ⟨ne, by decide, by decide, by omega⟩
    have b : dRev (relD r) = pure (.tup false (r.map relE).reverse) := rfl
    rw [op1_p, b, op2_pp, a, opC_pp, opC_pp, opC_pp, pure_bind]
    exact mkLst_p (show 3 ≤ lim by decide)
  have nx := niceT.mp (show nice 54 (5 + 1) (.tup true (r.map relE)) = true from n3)
  refine Dr.mono (k := 24 * 6 + 0) (Dr.bind (gather2 e1 (show 3 ≤ 40 by decide) (fun x hx => ?_) (nears (Ω := Ω) (v := relD r) (k := 2) (N := 6) nr (by decide) (by decide))) fun ds hd => ?_) (by decide) fun _ h => h
  · simp only [List.mem_cons, List.not_mem_nil, or_false] at hx
    rcases hx with rfl | rfl | rfl
    · exact n3
    · exact niceT.mpr ⟨by rw [List.length_reverse]; omega, fun y hy => nx.2 y (List.mem_reverse.mp hy)⟩
    · refine niceT.mpr ⟨?_, fun y hy => ?_⟩
      · simp only [List.replicate, List.flatten_cons, List.flatten_nil, List.length_append, List.length_nil]; omega
      · obtain ⟨q, hq, hy⟩ := List.mem_flatten.mp hy
        rw [(List.mem_replicate.mp hq).2] at hy
        exact nx.2 y hy
  · refine Dr.mono (k := 0 * ds.length) (Dr.loop (γ := Unit) (fun (ds : List D) (b : D) => ∃ bs : List D, b = D.lst bs ∧ bs.length + ds.length ≤ 60 ∧ (∀ x ∈ bs, Bad x) ∧ ∀ d ∈ ds, nice 54 6 d = true) (fun d ds b hi => ?_) ds (D.lst []) ⟨[], rfl, by simpa using hd.1, (fun x hx => nomatch hx), hd.2⟩) (by omega) fun fl hf => ?_
    · obtain ⟨bs, rfl, h1, h2, h3⟩ := hi
      have hd := h3 d (List.mem_cons_self ..)
      rw [List.length_cons] at h1
      have q1 : f_is_relations d = pure (.bl (relB d)) := f_is_relations_d hd (by decide) (by decide)
      have q2 : f__law_is_relations d = pure (.bl (relB d)) := f_law_is_relations_d hd (by decide) (by decide)
      have c1 : ((opC (pure d) (pure [])) >>= fun ds => noErr ((ar1 f_is_relations) ds)) = pure (.bl (relB d)) := by rw [opC_pp, pure_bind, ar1_one, q1, noErr_pure]
      have c2 : ((opC (pure d) (pure [])) >>= fun ds => noErr ((ar1 f__law_is_relations) ds)) = pure (.bl (relB d)) := by rw [opC_pp, pure_bind, ar1_one, q2, noErr_pure]
      have c3 : (op2 dAdd (pure (.lst bs)) ((((opC (pure d) (pure [])) >>= fun ds => noErr ((ar1 f__law_is_relations) ds)) >>= asB) >>= fun x => if x = true then ((pure []) >>= mkLst) else ((opC (pure d) (pure [])) >>= mkLst))) = pure (.lst (bs ++ if relB d = true then [] else [d])) := by
        rw [c2, pure_bind, asB_bl, pure_bind]
        cases relB d with
        | true => rw [if_pos rfl, if_pos rfl, pure_bind, mkLst0, op2_pp, dAdd_ll (lim_ge _ (by simp; omega))]
        | false => rw [if_neg Bool.false_ne_true, if_neg Bool.false_ne_true, opC_pp, pure_bind, mkLst1, op2_pp, dAdd_ll (lim_ge _ (by simp; omega))]
      have fin : ∀ (t1 : M Bool) (m : M D) (v : D), t1 = pure false → m = pure v → Fl.seq (t1 >>= fun b => if b = true then ((pure (D.bl false)) >>= fun d => (pure (.rt d) : M (Fl Unit D))) else (pure (.nx ()))) (fun (b15 : Unit) => m >>= fun v16_bad => (pure (.nx v16_bad) : M (Fl D D))) = pure (.nx v) := fun t1 m v e e2 => by rw [e, e2]; rfl
      have fin2 := fin _ _ _ (sayM c1 c2) c3
      refine Dr.mono (k := 0) ?_ (Nat.le_refl _) fun _ h => h
      have goal : Dr 0 (pure (.nx (D.lst (bs ++ if relB d = true then [] else [d]))) : M (Fl D D)) fun fl => ∃ b', fl = .nx b' ∧ ∃ bs, b' = .lst bs ∧ bs.length + ds.length ≤ 60 ∧ (∀ x ∈ bs, Bad x) ∧ ∀ d ∈ ds, nice 54 6 d = true := by
        refine Dr.pure ⟨_, rfl, _, rfl, ?_, ?_, fun x hx => h3 x (List.mem_cons_of_mem _ hx)⟩
        · rw [List.length_append]
          split <;> simp <;> omega
        · intro x hx
          rcases List.mem_append.mp hx with hx | hx
          · exact h2 x hx
          · cases hb : relB d with
            | true => rw [hb, if_pos rfl] at hx; nomatch hx
            | false =>
              rw [hb, if_neg Bool.false_ne_true] at hx
              rw [List.mem_singleton.mp hx]
              exact ⟨hd, hb⟩
      rw [← fin2] at goal
      exact goal
    · obtain ⟨b', rfl, bs, rfl, h1, h2, _⟩ := hf
      exact ⟨_, rfl, bs, rfl, by simpa using h1, h2⟩
def W6 : List D := [.non, .tup false [], .str "par", .tup false [.tup false [.str "par", .int 4]], .tup false [.tup false [.str "par", .int 0]], .lst [.tup false [.str "par", .int 2]]]
theorem w6_bad : ∀ d ∈ W6, (nice 54 6 d && !relB d) = true := by decide +kernel
theorem wrong_dr {bs : List D} (hl : bs.length ≤ 60) (hb : ∀ x ∈ bs, Bad x) : Dr 1 ((fun b13 => (((opC (pure .st) (opC (op2 dAdd (pure b13) ((opC (pure .non) (opC ((pure []) >>= mkTup) (opC (pure (.str "par")) (opC ((opC ((opC (pure (.str "par")) (opC (pure (.int 4)) (pure []))) >>= mkTup) (pure [])) >>= mkTup) (opC ((opC ((opC (pure (.str "par")) (opC (pure (.int 0)) (pure []))) >>= mkTup) (pure [])) >>= mkTup) (opC ((opC ((opC (pure (.str "par")) (opC (pure (.int 2)) (pure []))) >>= mkTup) (pure [])) >>= mkLst) (pure []))))))) >>= mkLst)) (pure []))) >>= fun ds => noErr ((sr1 (f__law_pick Ω)) ds)) : M D)) (.lst bs)) Bad := by
  have e1 : ((opC (pure .non) (opC ((pure []) >>= mkTup) (opC (pure (.str "par")) (opC ((opC ((opC (pure (.str "par")) (opC (pure (.int 4)) (pure []))) >>= mkTup) (pure [])) >>= mkTup) (opC ((opC ((opC (pure (.str "par")) (opC (pure (.int 0)) (pure []))) >>= mkTup) (pure [])) >>= mkTup) (opC ((opC ((opC (pure (.str "par")) (opC (pure (.int 2)) (pure []))) >>= mkTup) (pure [])) >>= mkLst) (pure []))))))) >>= mkLst) = pure (.lst W6) := by
    simp only [opC_pp, pure_bind, mkTup0, mkTup2, mkTup1, mkLst1]
    exact mkLst_p (show 6 ≤ lim by decide)
  show Dr 1 ((opC (pure .st) (opC (op2 dAdd (pure (.lst bs)) _) (pure []))) >>= _) Bad
  rw [e1, op2_pp, dAdd_ll (lim_ge _ (by rw [show W6.length = 6 from rfl]; omega)), opC_pp, opC_pp, pure_bind, sr1_one]
  refine Dr.noErr (pick_ls (by simp [W6]) (by rw [List.length_append, show W6.length = 6 from rfl]; omega) fun d hd => ?_)
  rcases List.mem_append.mp hd with hd | hd
  · exact hb d hd
  · have := w6_bad d hd
    simp only [Bool.and_eq_true, Bool.not_eq_true'] at this
    exact this
theorem callsL {w : D} (hw : Bad w) : (fun v24_wrong => (((((opC (pure (.opq 33)) (opC (pure (.opq 34)) (opC (pure (.opq 35)) (opC (pure (.opq 36)) (opC (pure (.opq 37)) (opC (pure (.opq 38)) (opC (pure (.opq 39)) (opC (pure (.opq 40)) (opC (pure (.opq 41)) (opC (pure (.opq 42)) (opC (pure (.opq 43)) (opC (pure (.opq 44)) (opC (pure (.opq 45)) (opC (pure (.opq 46)) (opC (pure (.opq 47)) (opC (pure (.opq 48)) (opC (pure (.opq 49)) (opC (pure (.opq 50)) (pure []))))))))))))))))))) >>= mkLst) >>= dIter) >>= fun ds => loopD (fun (b25 : Unit) v26_call => (((((opC (pure v26_call) (pure [])) >>= ar1 (dAct (lamsM [(opC (pure v24_wrong) (opC (pure .non) (pure []))) >>= fun ds => (ar2 f_is_rule) ds, (opC (pure v24_wrong) (opC (pure .non) (pure []))) >>= fun ds => (ar2 f_calm) ds, (opC (pure v24_wrong) (opC (pure .non) (opC (pure .non) (pure [])))) >>= fun ds => (ar3 f_is_calm_paper) ds, (opC (pure v24_wrong) (opC (pure .non) (pure []))) >>= fun ds => (ar2 f_is_store) ds, (opC (pure v24_wrong) (pure [])) >>= fun ds => (ar1 f_empty_store) ds, (opC (pure v24_wrong) (opC (pure .non) (opC (pure .non) (pure [])))) >>= fun ds => (ar3 f_added) ds, (opC (pure v24_wrong) (opC (pure .non) (opC (pure .non) (pure [])))) >>= fun ds => (ar3 f_within_store) ds, (opC (pure v24_wrong) (opC (pure .non) (opC (pure .non) (pure [])))) >>= fun ds => (ar3 f_answer) ds, (opC (pure v24_wrong) (opC (pure .non) (opC (pure .non) (opC (pure .non) (pure []))))) >>= fun ds => (ar4 f_witnesses) ds, (opC (pure v24_wrong) (opC (pure .non) (opC (pure .non) (pure [])))) >>= fun ds => (ar3 f_broken) ds, (opC (pure v24_wrong) (opC (pure .non) (pure []))) >>= fun ds => (ar2 f_question_text) ds, (opC (pure v24_wrong) (opC (pure .non) (pure []))) >>= fun ds => (ar2 f_rule_text) ds, (opC (pure v24_wrong) (opC (pure .non) (pure []))) >>= fun ds => (ar2 f_view_text) ds, (opC (pure v24_wrong) (opC (pure .non) (pure []))) >>= fun ds => (ar2 f_store_text) ds, (opC (pure v24_wrong) (opC (pure .non) (pure []))) >>= fun ds => (ar2 f_read_question) ds, (opC (pure v24_wrong) (opC (pure .non) (pure []))) >>= fun ds => (ar2 f_read_rule) ds, (opC (pure v24_wrong) (opC (pure .non) (pure []))) >>= fun ds => (ar2 f_read_view) ds, (opC (pure v24_wrong) (opC (pure .non) (pure []))) >>= fun ds => (ar2 f_read_store) ds]))) >>= dIsX is_NoRelations) >>= asB) >>= fun b => pure (!b)) >>= fun b => if b = true then ((pure (.bl false)) >>= fun d => pure (.rt d)) else (pure (.nx ()))) ds ()) : M (Fl Unit Unit))) w = pure (.nx ()) := by
  show (((pure ((List.range 18).map fun i => D.opq (33 + i)) >>= mkLst) >>= dIter) >>= _) = _
  rw [pure_bind, mkLst_p (by decide), pure_bind, dIter_l, pure_bind]
  exact calls_p (need_bad hw.1 (by decide) (by decide) hw.2) fun c => rfl
theorem turns5 : ∃ N : Nat, N ≤ 13 ∧ ((opC (op2 dAdd (pure (.int 5)) ((opC (pure (.int (Ω.cells.length : Nat))) (opC (pure (.int 8)) (pure []))) >>= ar2 dMin2)) (pure [])) >>= dRange1) = pure (rangeD 0 N) := by
  refine ⟨5 + (if Ω.cells.length ≤ 8 then Ω.cells.length else 8), by split <;> omega, ?_⟩
  rw [opC_pp, opC_pp, pure_bind, ar2_two]
  show ((opC (op2 dAdd (pure (.int 5)) (pure (.int (if (8 : Int) < (Ω.cells.length : Nat) then 8 else (Ω.cells.length : Nat))))) (pure [])) >>= dRange1) = _
  rw [op2_pp, dAdd_ii, opC_pp, pure_bind]
  have : (5 : Int) + (if (8 : Int) < (Ω.cells.length : Nat) then (8 : Int) else ((Ω.cells.length : Nat) : Int)) = ((5 + (if Ω.cells.length ≤ 8 then Ω.cells.length else 8) : Nat) : Int) := by
    split <;> split <;> omega
  rw [this, dRange1_p (by split <;> omega)]
theorem law_dr : Dr 20000 (f_law Ω) fun d => d = .bl true := by
  unfold f_law
  refine Dr.fin ?_
  obtain ⟨N, hN, eN⟩ := turns5 (Ω := Ω)
  rw [head1, seq_nx, head2, seq_nx, eN, pure_bind]
  refine Dr.mono (k := 400 * (rangeD 0 N).length + 0) (Dr.seq (P := fun _ => True) ((Dr.loop (γ := Unit) (fun _ _ => True) (fun d ds b _ => ?_) _ _ trivial).mono (Nat.le_refl _) fun fl hf => hf) fun b _ => Dr.pure ⟨_, rfl, rfl⟩) (by rw [range_len]; omega) fun _ h => h
  refine Dr.mono (k := 11 + (26 + (5 + (144 + (28 + (1 + 0)))))) ?_ (by decide) fun _ h => h
  refine Dr.bind word_dr fun d hd => ?_
  obtain ⟨z, rfl, hz⟩ := hd
  refine Dr.seq (P := fun _ => True) (loop1_dr hz) fun _ _ => ?_
  refine Dr.bind (P := fun d => ∃ r, d = .tup false [relD r, .lst []] ∧ RelOk r) ?_ fun d hd => ?_
  · rw [pure_bind, mkLst0, opC_pp]
    show Dr 5 ((_ >>= fun x => pure [x, D.lst []]) >>= mkTup) _
    rw [bind_assoc]
    refine Dr.mono (k := 5 + 0) (rel_made.bind fun d hd => ?_) (by decide) fun _ h => h
    obtain ⟨r, rfl, hr⟩ := hd
    rw [pure_bind, mkTup2]
    exact Dr.pure ⟨r, rfl, hr⟩
  obtain ⟨r, rfl, hr⟩ := hd
  rw [un2_t]
  refine Dr.seq (P := fun b => ∃ bs, b = .lst bs ∧ bs.length ≤ 60 ∧ ∀ x ∈ bs, Bad x) (loop2_dr hr) fun b hb => ?_
  obtain ⟨bs, rfl, b1, b2⟩ := hb
  refine Dr.bind some_dr fun d hd => ?_
  obtain ⟨l, rfl, h1, h2⟩ := hd
  refine Dr.pbind (num_p h1) ?_
  refine Dr.pbind (nam_p h1) ?_
  have sq : ∀ {m : M (Fl Unit Unit)} {f : Unit → M (Fl Unit Unit)} {k : Nat} {P : Fl Unit Unit → Prop}, m = pure (.nx ()) → Dr k (f ()) P → Dr k (Fl.seq m f) P := fun e h => by rw [e, seq_nx]; exact h
  refine sq (test_p h1 h2) ?_
  refine Dr.bind (wrong_dr b1 b2) fun w hw => ?_
  refine sq (callsL hw) ?_
  exact Dr.pure ⟨(), rfl, trivial⟩
theorem law_plain (Ω : Om) (S : DS) (ht : S.turn = 0) : (f_law Ω).wp (fun d _ => d = .bl true) (fun _ _ => False) S :=
  (law_dr (Ω := Ω) S 0 (by omega) (by omega) (by decide)).imp fun d S' h => h.1
end K1
set_option Elab.async false
set_option linter.all false
set_option maxRecDepth 100000
set_option autoImplicit false
namespace K1
open PySem PySem.Spec PyProof.Rows L2 DL
/-- the defs as they stand behind the top -/
structure Fs (K : PySem.W.Frag) (mg : Str → Option Value) : Prop where
  F_is_name : ∃ f fd, Fun K "is_name" "is_name" (topS 15) f fd ∧ mg "is_name" = some (.ref f)
  F_is_number : ∃ f fd, Fun K "is_number" "is_number" (topS 16) f fd ∧ mg "is_number" = some (.ref f)
  F_is_term : ∃ f fd, Fun K "is_term" "is_term" (topS 17) f fd ∧ mg "is_term" = some (.ref f)
  F_are_rising : ∃ f fd, Fun K "are_rising" "are_rising" (topS 18) f fd ∧ mg "are_rising" = some (.ref f)
  F_is_pair : ∃ f fd, Fun K "is_pair" "is_pair" (topS 19) f fd ∧ mg "is_pair" = some (.ref f)
  F_are_named : ∃ f fd, Fun K "are_named" "are_named" (topS 20) f fd ∧ mg "are_named" = some (.ref f)
  F_is_relations : ∃ f fd, Fun K "is_relations" "is_relations" (topS 21) f fd ∧ mg "is_relations" = some (.ref f)
  F_need_relations : ∃ f fd, Fun K "need_relations" "need_relations" (topS 22) f fd ∧ mg "need_relations" = some (.ref f)
  F_term_key : ∃ f fd, Fun K "term_key" "term_key" (topS 23) f fd ∧ mg "term_key" = some (.ref f)
  F_in_sequence : ∃ f fd, Fun K "in_sequence" "in_sequence" (topS 24) f fd ∧ mg "in_sequence" = some (.ref f)
  F_is_rule : ∃ f fd, Fun K "is_rule" "is_rule" (topS 41) f fd ∧ mg "is_rule" = some (.ref f)
  F_calm : ∃ f fd, Fun K "calm" "calm" (topS 53) f fd ∧ mg "calm" = some (.ref f)
  F_is_calm_paper : ∃ f fd, Fun K "is_calm_paper" "is_calm_paper" (topS 56) f fd ∧ mg "is_calm_paper" = some (.ref f)
  F_is_store : ∃ f fd, Fun K "is_store" "is_store" (topS 61) f fd ∧ mg "is_store" = some (.ref f)
  F_empty_store : ∃ f fd, Fun K "empty_store" "empty_store" (topS 63) f fd ∧ mg "empty_store" = some (.ref f)
  F_added : ∃ f fd, Fun K "added" "added" (topS 65) f fd ∧ mg "added" = some (.ref f)
  F_within_store : ∃ f fd, Fun K "within_store" "within_store" (topS 67) f fd ∧ mg "within_store" = some (.ref f)
  F_answer : ∃ f fd, Fun K "answer" "answer" (topS 75) f fd ∧ mg "answer" = some (.ref f)
  F_witnesses : ∃ f fd, Fun K "witnesses" "witnesses" (topS 76) f fd ∧ mg "witnesses" = some (.ref f)
  F_broken : ∃ f fd, Fun K "broken" "broken" (topS 80) f fd ∧ mg "broken" = some (.ref f)
  F_question_text : ∃ f fd, Fun K "question_text" "question_text" (topS 90) f fd ∧ mg "question_text" = some (.ref f)
  F_rule_text : ∃ f fd, Fun K "rule_text" "rule_text" (topS 91) f fd ∧ mg "rule_text" = some (.ref f)
  F_view_text : ∃ f fd, Fun K "view_text" "view_text" (topS 92) f fd ∧ mg "view_text" = some (.ref f)
  F_read_question : ∃ f fd, Fun K "read_question" "read_question" (topS 105) f fd ∧ mg "read_question" = some (.ref f)
  F_read_rule : ∃ f fd, Fun K "read_rule" "read_rule" (topS 106) f fd ∧ mg "read_rule" = some (.ref f)
  F_read_view : ∃ f fd, Fun K "read_view" "read_view" (topS 107) f fd ∧ mg "read_view" = some (.ref f)
  F_store_text : ∃ f fd, Fun K "store_text" "store_text" (topS 110) f fd ∧ mg "store_text" = some (.ref f)
  F_read_store : ∃ f fd, Fun K "read_store" "read_store" (topS 111) f fd ∧ mg "read_store" = some (.ref f)
  F__law_begun : ∃ f fd, Fun K "_law_begun" "_law_begun" (topS 113) f fd ∧ mg "_law_begun" = some (.ref f)
  F__law_mixed : ∃ f fd, Fun K "_law_mixed" "_law_mixed" (topS 114) f fd ∧ mg "_law_mixed" = some (.ref f)
  F__law_draw : ∃ f fd, Fun K "_law_draw" "_law_draw" (topS 115) f fd ∧ mg "_law_draw" = some (.ref f)
  F__law_pick : ∃ f fd, Fun K "_law_pick" "_law_pick" (topS 116) f fd ∧ mg "_law_pick" = some (.ref f)
  F__law_plain : ∃ f fd, Fun K "_law_plain" "_law_plain" (topS 117) f fd ∧ mg "_law_plain" = some (.ref f)
  F__law_is : ∃ f fd, Fun K "_law_is" "_law_is" (topS 118) f fd ∧ mg "_law_is" = some (.ref f)
  F__law_caught : ∃ f fd, Fun K "_law_caught" "_law_caught" (topS 119) f fd ∧ mg "_law_caught" = some (.ref f)
  F__law_says : ∃ f fd, Fun K "_law_says" "_law_says" (topS 120) f fd ∧ mg "_law_says" = some (.ref f)
  F__law_relations : ∃ f fd, Fun K "_law_relations" "_law_relations" (topS 121) f fd ∧ mg "_law_relations" = some (.ref f)
  F__law_is_name : ∃ f fd, Fun K "_law_is_name" "_law_is_name" (topS 122) f fd ∧ mg "_law_is_name" = some (.ref f)
  F__law_is_number : ∃ f fd, Fun K "_law_is_number" "_law_is_number" (topS 123) f fd ∧ mg "_law_is_number" = some (.ref f)
  F__law_is_term : ∃ f fd, Fun K "_law_is_term" "_law_is_term" (topS 124) f fd ∧ mg "_law_is_term" = some (.ref f)
  F__law_are_named : ∃ f fd, Fun K "_law_are_named" "_law_are_named" (topS 125) f fd ∧ mg "_law_are_named" = some (.ref f)
  F__law_is_relations : ∃ f fd, Fun K "_law_is_relations" "_law_is_relations" (topS 126) f fd ∧ mg "_law_is_relations" = some (.ref f)
  F__law_near : ∃ f fd, Fun K "_law_near" "_law_near" (topS 127) f fd ∧ mg "_law_near" = some (.ref f)
section
variable {P : Program} {w : World} {mg : Str → Option Value} {base : Heap} {Ω : Om} {CS : Addr} (gm : Gm mg Ω.K) (gx : Gx mg Ω CS) (fs : Fs Ω.K mg)
include gm gx fs
theorem cd_is_name : Cd P w mg base Ω 1 "is_name" ["thing"] (ar1 f_is_name) := by
  obtain ⟨f, fd, Fn, hm⟩ := fs.F_is_name
  exact ok_is_name gm Fn hm 
theorem cd_is_number : Cd P w mg base Ω 1 "is_number" ["thing"] (ar1 f_is_number) := by
  obtain ⟨f, fd, Fn, hm⟩ := fs.F_is_number
  exact ok_is_number gm Fn hm 
theorem cd_is_term : Cd P w mg base Ω 2 "is_term" ["thing"] (ar1 f_is_term) := by
  obtain ⟨f, fd, Fn, hm⟩ := fs.F_is_term
  exact ok_is_term gm Fn hm (cd_is_name gm gx fs) (cd_is_number gm gx fs)
theorem cdk_is_term_thing : CdK P w mg base Ω 2 "is_term" ["thing"] ["thing"] [0] (ar1 f_is_term) := by
  obtain ⟨f, fd, Fn, hm⟩ := fs.F_is_term
  exact kw_is_term_thing Fn hm (cd_is_term gm gx fs)
theorem cd_are_rising : Cd P w mg base Ω 1 "are_rising" ["things"] (ar1 f_are_rising) := by
  obtain ⟨f, fd, Fn, hm⟩ := fs.F_are_rising
  exact ok_are_rising gm Fn hm 
theorem cd_is_pair : Cd P w mg base Ω 2 "is_pair" ["thing"] (ar1 f_is_pair) := by
  obtain ⟨f, fd, Fn, hm⟩ := fs.F_is_pair
  exact ok_is_pair gm Fn hm (cd_is_name gm gx fs)
theorem cd_are_named : Cd P w mg base Ω 3 "are_named" ["thing", "most"] (ar2 f_are_named) := by
  obtain ⟨f, fd, Fn, hm⟩ := fs.F_are_named
  exact ok_are_named gm Fn hm (cd_is_pair gm gx fs) (cd_are_rising gm gx fs)
theorem cd_is_relations : Cd P w mg base Ω 4 "is_relations" ["thing"] (ar1 f_is_relations) := by
  obtain ⟨f, fd, Fn, hm⟩ := fs.F_is_relations
  exact ok_is_relations gm Fn hm (cd_are_named gm gx fs) (cd_is_number gm gx fs)
theorem cd_need_relations : CdE P w mg base Ω 5 "need_relations" ["relations"] (ar1 f_need_relations) := by
  obtain ⟨f, fd, Fn, hm⟩ := fs.F_need_relations
  exact ok_need_relations gm gx Fn hm (cd_is_relations gm gx fs)
theorem cd_term_key : Cd P w mg base Ω 1 "term_key" ["term"] (ar1 f_term_key) := by
  obtain ⟨f, fd, Fn, hm⟩ := fs.F_term_key
  exact ok_term_key gm Fn hm 
theorem cd_in_sequence : Cd P w mg base Ω 4 "in_sequence" ["terms"] (ar1 f_in_sequence) := by
  obtain ⟨f, fd, Fn, hm⟩ := fs.F_in_sequence
  exact ok_in_sequence gm Fn hm (cd_term_key gm gx fs)
theorem cdk_in_sequence_terms : CdK P w mg base Ω 4 "in_sequence" ["terms"] ["terms"] [0] (ar1 f_in_sequence) := by
  obtain ⟨f, fd, Fn, hm⟩ := fs.F_in_sequence
  exact kw_in_sequence_terms Fn hm (cd_in_sequence gm gx fs)
theorem cd_is_rule : CdE P w mg base Ω 6 "is_rule" ["relations", "thing"] (ar2 f_is_rule) := by
  obtain ⟨f, fd, Fn, hm⟩ := fs.F_is_rule
  exact ok_is_rule gm Fn hm (cd_need_relations gm gx fs)
theorem cd_calm : CdE P w mg base Ω 6 "calm" ["relations", "rules"] (ar2 f_calm) := by
  obtain ⟨f, fd, Fn, hm⟩ := fs.F_calm
  exact ok_calm gm Fn hm (cd_need_relations gm gx fs)
theorem cd_is_calm_paper : CdE P w mg base Ω 6 "is_calm_paper" ["relations", "rules", "thing"] (ar3 f_is_calm_paper) := by
  obtain ⟨f, fd, Fn, hm⟩ := fs.F_is_calm_paper
  exact ok_is_calm_paper gm Fn hm (cd_need_relations gm gx fs)
theorem cd_is_store : CdE P w mg base Ω 6 "is_store" ["relations", "thing"] (ar2 f_is_store) := by
  obtain ⟨f, fd, Fn, hm⟩ := fs.F_is_store
  exact ok_is_store gm Fn hm (cd_need_relations gm gx fs)
theorem cd_empty_store : CdE P w mg base Ω 6 "empty_store" ["relations"] (ar1 f_empty_store) := by
  obtain ⟨f, fd, Fn, hm⟩ := fs.F_empty_store
  exact ok_empty_store gm Fn hm (cd_need_relations gm gx fs)
theorem cd_added : CdE P w mg base Ω 6 "added" ["relations", "store", "other"] (ar3 f_added) := by
  obtain ⟨f, fd, Fn, hm⟩ := fs.F_added
  exact ok_added gm Fn hm (cd_need_relations gm gx fs)
theorem cd_within_store : CdE P w mg base Ω 6 "within_store" ["relations", "store", "other"] (ar3 f_within_store) := by
  obtain ⟨f, fd, Fn, hm⟩ := fs.F_within_store
  exact ok_within_store gm Fn hm (cd_need_relations gm gx fs)
theorem cd_answer : CdE P w mg base Ω 6 "answer" ["relations", "question", "store"] (ar3 f_answer) := by
  obtain ⟨f, fd, Fn, hm⟩ := fs.F_answer
  exact ok_answer gm Fn hm (cd_need_relations gm gx fs)
theorem cd_witnesses : CdE P w mg base Ω 6 "witnesses" ["relations", "part", "store", "row"] (ar4 f_witnesses) := by
  obtain ⟨f, fd, Fn, hm⟩ := fs.F_witnesses
  exact ok_witnesses gm Fn hm (cd_need_relations gm gx fs)
theorem cd_broken : CdE P w mg base Ω 6 "broken" ["relations", "rule", "store"] (ar3 f_broken) := by
  obtain ⟨f, fd, Fn, hm⟩ := fs.F_broken
  exact ok_broken gm Fn hm (cd_need_relations gm gx fs)
theorem cd_question_text : CdE P w mg base Ω 6 "question_text" ["relations", "question"] (ar2 f_question_text) := by
  obtain ⟨f, fd, Fn, hm⟩ := fs.F_question_text
  exact ok_question_text gm Fn hm (cd_need_relations gm gx fs)
theorem cd_rule_text : CdE P w mg base Ω 6 "rule_text" ["relations", "rule"] (ar2 f_rule_text) := by
  obtain ⟨f, fd, Fn, hm⟩ := fs.F_rule_text
  exact ok_rule_text gm Fn hm (cd_need_relations gm gx fs)
theorem cd_view_text : CdE P w mg base Ω 6 "view_text" ["relations", "view"] (ar2 f_view_text) := by
  obtain ⟨f, fd, Fn, hm⟩ := fs.F_view_text
  exact ok_view_text gm Fn hm (cd_need_relations gm gx fs)
theorem cd_store_text : CdE P w mg base Ω 6 "store_text" ["relations", "store"] (ar2 f_store_text) := by
  obtain ⟨f, fd, Fn, hm⟩ := fs.F_store_text
  exact ok_store_text gm Fn hm (cd_need_relations gm gx fs)
theorem cd_read_question : CdE P w mg base Ω 6 "read_question" ["relations", "text"] (ar2 f_read_question) := by
  obtain ⟨f, fd, Fn, hm⟩ := fs.F_read_question
  exact ok_read_question gm Fn hm (cd_need_relations gm gx fs)
theorem cd_read_rule : CdE P w mg base Ω 6 "read_rule" ["relations", "text"] (ar2 f_read_rule) := by
  obtain ⟨f, fd, Fn, hm⟩ := fs.F_read_rule
  exact ok_read_rule gm Fn hm (cd_need_relations gm gx fs)
theorem cd_read_view : CdE P w mg base Ω 6 "read_view" ["relations", "text"] (ar2 f_read_view) := by
  obtain ⟨f, fd, Fn, hm⟩ := fs.F_read_view
  exact ok_read_view gm Fn hm (cd_need_relations gm gx fs)
theorem cd_read_store : CdE P w mg base Ω 6 "read_store" ["relations", "text"] (ar2 f_read_store) := by
  obtain ⟨f, fd, Fn, hm⟩ := fs.F_read_store
  exact ok_read_store gm Fn hm (cd_need_relations gm gx fs)
theorem cd__law_mixed : Cd P w mg base Ω 1 "_law_mixed" ["state"] (sr0 (f__law_mixed Ω)) := by
  obtain ⟨f, fd, Fn, hm⟩ := fs.F__law_mixed
  exact ok__law_mixed gm Fn hm 
theorem cd__law_draw : Cd P w mg base Ω 2 "_law_draw" ["state", "room"] (sr1 (f__law_draw Ω)) := by
  obtain ⟨f, fd, Fn, hm⟩ := fs.F__law_draw
  exact ok__law_draw gm Fn hm (cd__law_mixed gm gx fs)
theorem cd__law_pick : Cd P w mg base Ω 3 "_law_pick" ["state", "some"] (sr1 (f__law_pick Ω)) := by
  obtain ⟨f, fd, Fn, hm⟩ := fs.F__law_pick
  exact ok__law_pick gm Fn hm (cd__law_draw gm gx fs)
theorem cd__law_plain : Cd P w mg base Ω 5 "_law_plain" ["value"] (ar1 (f__law_plain 4)) := by
  obtain ⟨f, fd, Fn, hm⟩ := fs.F__law_plain
  exact ok__law_plain gm Fn hm  4
theorem cd__law_is : CdG P w mg base Ω 6 "_law_is" ["found", "due"] (ar2 f__law_is) := by
  obtain ⟨f, fd, Fn, hm⟩ := fs.F__law_is
  exact ok__law_is gm Fn hm (cd__law_plain gm gx fs)
theorem cd__law_says : Cd P w mg base Ω 1 "_law_says" ["found", "is_due"] (ar2 f__law_says) := by
  obtain ⟨f, fd, Fn, hm⟩ := fs.F__law_says
  exact ok__law_says gm Fn hm 
theorem cd__law_relations : Cd P w mg base Ω 4 "_law_relations" ["state"] (sr0 (f__law_relations Ω)) := by
  obtain ⟨f, fd, Fn, hm⟩ := fs.F__law_relations
  exact ok__law_relations gm Fn hm (cd__law_draw gm gx fs) (cd__law_pick gm gx fs)
theorem cd__law_is_name : Cd P w mg base Ω 1 "_law_is_name" ["thing"] (ar1 f__law_is_name) := by
  obtain ⟨f, fd, Fn, hm⟩ := fs.F__law_is_name
  exact ok__law_is_name gm Fn hm 
theorem cd__law_is_number : Cd P w mg base Ω 1 "_law_is_number" ["thing"] (ar1 f__law_is_number) := by
  obtain ⟨f, fd, Fn, hm⟩ := fs.F__law_is_number
  exact ok__law_is_number gm Fn hm 
theorem cd__law_is_term : Cd P w mg base Ω 2 "_law_is_term" ["thing"] (ar1 f__law_is_term) := by
  obtain ⟨f, fd, Fn, hm⟩ := fs.F__law_is_term
  exact ok__law_is_term gm Fn hm (cd__law_is_name gm gx fs) (cd__law_is_number gm gx fs)
theorem cd__law_are_named : Cd P w mg base Ω 2 "_law_are_named" ["thing", "most"] (ar2 f__law_are_named) := by
  obtain ⟨f, fd, Fn, hm⟩ := fs.F__law_are_named
  exact ok__law_are_named gm Fn hm (cd__law_is_name gm gx fs)
theorem cd__law_is_relations : Cd P w mg base Ω 3 "_law_is_relations" ["thing"] (ar1 f__law_is_relations) := by
  obtain ⟨f, fd, Fn, hm⟩ := fs.F__law_is_relations
  exact ok__law_is_relations gm Fn hm (cd__law_are_named gm gx fs) (cd__law_is_number gm gx fs)
theorem cd__law_near : Cd P w mg base Ω 10 "_law_near" ["state", "value"] (sr1 (f__law_near Ω 6)) := by
  obtain ⟨f, fd, Fn, hm⟩ := fs.F__law_near
  exact ok__law_near gm Fn hm (cd__law_pick gm gx fs) (cd__law_draw gm gx fs) 6
end
/-- what the classes must say -/
structure Kx (mg : Str → Option Value) (K : PySem.W.Frag) (CS C0 : Addr) : Prop where
  v : mg "ViewError" = some (.ref CS)
  x0 : Xn mg K CS "NoRelations" C0
  n0 : PySem.W.kitOne K (.type "NoneType") (.ref C0) = some false
  k0_0 : PySem.W.kitOne K (.ref C0) (.ref C0) = some true
def xcs (C0 : Addr) : Nat → Value
  | 0 => .ref C0
  | _ => .ref C0
def envL (f : Addr) (cdv : Value) (s : Shared) : Env := envOfC "law" (defScope (topS 128)) s.heap.objs.size f cdv
def omL (K : PySem.W.Frag) (p g c : Addr) (cells : List Int) (T : Addr) (f : Addr) (cdv : Value) (s : Shared) (C0 : Addr) : Om :=
  omX K p g c cells T ((envL f cdv s).qual ++ "<lambda>") (fun L => cloFrom (envL f cdv s).cells L.scope.names []) (xcs C0) lamL
theorem gx_of {mg : Str → Option Value} {K : PySem.W.Frag} {p g c T f CS C0 : Addr} {cells : List Int} {cdv : Value} {s : Shared} (kx : Kx mg K CS C0) : Gx mg (omL K p g c cells T f cdv s C0) CS where
  v := kx.v
  ex := omX_ex fun n hn => by
    unfold xcs
    split
    · exact kx.x0.exm
    · exact kx.x0.exm
  x_NoRelations := ⟨C0, kx.x0, rfl⟩
  i_NoRelations := ⟨C0, kx.x0.m, omX_is kx.n0 fun n b e => by
    unfold is_NoRelations at e
    split at e
    · rename_i hn
      cases Option.some.inj e
      refine ⟨by omega, ?_⟩
      match n, hn with
      | 0, _ => exact ⟨C0, rfl, kx.x0.is, kx.k0_0⟩
    · cases e⟩
def spLaw (K : PySem.W.Frag) (T : Addr) : Sp := fun vs H Q _ => ∃ (a : Addr) (ns : List Int), vs = [.ref a] ∧ SqL K H a (ns.map V.int) ∧ ns.length ≤ 63 ∧ H T = some (.tbl #[]) ∧ ∀ H', Q (.bl true) H'
def untab : Option HO → Option HO
  | some (.tbl _) => none
  | o => o
theorem untab_some {o : Option HO} {u : HO} (h : untab o = some u) : o = some u ∧ ∀ ps, u ≠ .tbl ps := by
  unfold untab at h
  split at h
  · cases h
  · rename_i n; exact ⟨h, fun ps e => n ps (by rw [h, e])⟩
theorem untab_of {u : HO} (h : ∀ ps, u ≠ .tbl ps) : untab (some u) = some u := by
  unfold untab
  split
  · rename_i e; cases e; exact absurd rfl (h _)
  · rfl
theorem ok_law {P : Program} {w : World} {K : PySem.W.Frag} {mg : Str → Option Value} {base : Heap} {cL T CS C0 : Addr} (gm : Gm mg K) (kx : Kx mg K CS C0) (fs : Fs K mg) {f : Addr} {fd : FuncData} (Fn : Fun K "law" "law" (topS 128) f fd) (hcd : fd.code = .ref cL) (TB : LamX.TabB base mg cL T) : FnG P w K mg base 12 f fd ["script"] (spLaw K T) := by
  refine fnG_ofC (k := 11) Fn sc_law (fun vs H Q E h => by obtain ⟨a, ns, rfl, _⟩ := h; rfl) fun cdv A outer s H vs Q E hcv hg hr ⟨a, ns, e, hS, hlen, hT, q⟩ => ?_
  subst e
  have hcode : cdv = .ref cL := hcv.symm.trans hcd
  obtain ⟨fB, fdB, FB, mB⟩ := fs.F__law_begun
  obtain ⟨fC, fdC, FC, mC⟩ := fs.F__law_caught
  have GB := ok_begun (P := P) (w := w) (base := base) gm.z_abs FB
  have bB : Binds K fdB ["script"] [] := FB.binds fun _ _ _ _ _ _ us hl => match us, hl with | [_], _ => rfl
  have R := fun (y : Addr × Addr × Addr × List Int × Fr) => (have gx := gx_of (p := y.1) (g := y.2.1) (c := y.2.2.1) (T := T) (f := f) (cells := y.2.2.2.1) (cdv := cdv) (s := s) kx; ok_rest (P := P) (w := w) (mg := mg) (base := base) (Ω := omL K y.1 y.2.1 y.2.2.1 y.2.2.2.1 T f cdv s C0) (Fr0 := y.2.2.2.2) (f := f) (cdv := cdv) (A := A) (outer := outer) (s := s) (H := H) (E := E) gm (cd_is_name gm gx fs) (cd__law_is gm gx fs) (cd_in_sequence gm gx fs) (cd_is_relations gm gx fs) (cd__law_draw gm gx fs) (cd__law_pick gm gx fs) (cd__law_near gm gx fs) (cd__law_says gm gx fs) (cd__law_is_name gm gx fs) (cd_is_term gm gx fs) (cdk_is_term_thing gm gx fs) (cd__law_is_term gm gx fs) (cd__law_relations gm gx fs) (cd__law_is_relations gm gx fs) (cdk_in_sequence_terms gm gx fs) (cd_is_rule gm gx fs) (cd_calm gm gx fs) (cd_is_calm_paper gm gx fs) (cd_is_store gm gx fs) (cd_empty_store gm gx fs) (cd_added gm gx fs) (cd_within_store gm gx fs) (cd_answer gm gx fs) (cd_witnesses gm gx fs) (cd_broken gm gx fs) (cd_question_text gm gx fs) (cd_rule_text gm gx fs) (cd_view_text gm gx fs) (cd_store_text gm gx fs) (cd_read_question gm gx fs) (cd_read_rule gm gx fs) (cd_read_view gm gx fs) (cd_read_store gm gx fs) omX_sc hg hr gx FC mC TB hcode (List.mem_singleton.mpr rfl) (fun p hp _ => by cases List.mem_singleton.mp hp; rfl) (fun i L h => omX_lam rfl (fun _ => rfl) h))
  refine ⟨_, pss_cons (ps_set (i := 1) sc_law.nd rfl (by first | exact Or.inl rfl | exact Or.inr rfl) (pe_call GB (hr.mono (by decide)) (by rfl) mB FB.kp bB .nil pass0 (pa_cons (pv 0) pa_nil))) (PSsx fun y => (R y).choose_spec.1), ?_⟩
  refine ⟨.ref a, rfl, a, ns, rfl, hS, hlen, fun H' p g c sm np ng nc ngc ep eg ec => ?_⟩
  let G : Hp := fun b => if b = p ∨ b = g then none else untab (H' b)
  have Gp : G p = none := if_pos (.inl rfl)
  have Gg : G g = none := if_pos (.inr rfl)
  have off : ∀ b, b ≠ p → b ≠ g → G b = untab (H' b) := fun b h1 h2 => if_neg fun h => h.elim h1 h2
  have Gs : ∀ b o, G b = some o → H' b = some o ∧ ∀ ps, o ≠ .tbl ps := fun b o e => by
    by_cases h : b = p ∨ b = g
    · rw [show G b = none from if_pos h] at e; cases e
    · rw [show G b = untab (H' b) from if_neg h] at e; exact untab_some e
  have cp : c ≠ p := fun e => by subst e; rw [ep] at ec; cases ec
  have hT' : H' T = some (.tbl #[]) := sm _ _ hT
  let y : Addr × Addr × Addr × List Int × Fr := (p, g, c, ns.map ab, ⟨G, H', fun _ _ _ => False⟩)
  let S : DS := ⟨greatOf ns, 0, 0⟩
  have tabs : LamX.Tabs (omL K p g c (ns.map ab) T f cdv s C0).tb H' := fun q hq => by
    cases List.mem_singleton.mp hq
    exact LamX.TabS.nil hT'
  have wd : Wd (omL K p g c (ns.map ab) T f cdv s C0) S G H' := ⟨fun b o e => (Gs b o e).1, Gp, Gg, ((off c cp (Ne.symm ngc)).trans (by rw [ec]; rfl)), fun q hq => by
      cases List.mem_singleton.mp hq
      by_cases h : T = p ∨ T = g
      · exact if_pos h
      · exact (if_neg h).trans (by rw [hT']; rfl), fun b ps e => (Gs b _ e).2 ps rfl, ⟨ep, eg, ec, tabs⟩⟩
  have hsc : SqL K G a (ns.map V.int) := by
    rcases hS with h | h
    · refine .inl ?_
      have ha : H a ≠ none := by rcases h with h | ⟨_, h⟩ <;> rw [h] <;> simp
      have e : G a = untab (H' a) := off a (fun z => ha (z ▸ np)) (fun z => ha (z ▸ ng))
      rcases h with h | ⟨o, h⟩
      · exact .inl (e.trans (by rw [sm _ _ h]; rfl))
      · exact .inr ⟨o, e.trans (by rw [sm _ _ h]; rfl)⟩
    · exact .inr h
  have rp : Reps (omL K p g c (ns.map ab) T f cdv s C0) G [.ref a, .ref p] [.opq 0, .st] := .cons (.opq ⟨a, _, rfl, hsc, by simp [omL, omX]⟩) (.cons .st .nil)
  refine ⟨y, S, G, rinv_start (N := ["script", "state", "turn", "word", "value", "relations", "bad", "some", "numbers", "names", "wrong", "call", "lap", "one"]) wd rp, ?_⟩
  have hl := law_plain (omL K p g c (ns.map ab) T f cdv s C0) S rfl
  rw [← (R y).choose_spec.2] at hl
  unfold Fl.fin at hl
  rw [wp_bind] at hl
  refine hl.mono (fun fl S' h => ?_) fun _ _ z => z.elim
  cases fl with
  | nx b => exact nomatch (show D.non = D.bl true from h)
  | rt d =>
    have h : d = .bl true := h
    subst h
    exact fun G' H2 v f' r' => by cases r'; exact q _
  | bk c => exact h.elim
  | ct c => exact h.elim
def strsOf : List Value → Option (List Str)
  | [] => some []
  | .str x _ :: vs => (strsOf vs).map (x :: ·)
  | _ :: _ => none
theorem strsOf_dp {K : PySem.W.Frag} : ∀ {us : List Value} {xs : List Str}, strsOf us = some xs → Vals (xs.map V.str) us ∧ DpAll K (fun _ => none) (xs.map V.str) (xs.map PyData.str)
  | [], xs, h => by cases h; exact ⟨.nil, .nil⟩
  | u :: us, xs, h => by
    cases u <;> simp [strsOf] at h
    obtain ⟨ys, h, rfl⟩ := h
    obtain ⟨a, b⟩ := strsOf_dp (K := K) h
    exact ⟨.cons ⟨_, rfl⟩ a, .cons (.str _) b⟩
theorem konst {K : PySem.W.Frag} {a : Addr} {us : List Value} {xs : List Str} {n : Nat} {sl : Array (Option Value)} {dd : Option Addr} {d : PyData} (h : strsOf us = some xs) (l : K.lookup a = some ⟨.type "tuple", dd, .seq us.toArray n, sl⟩) (hl : xs.length ≤ sizeLine) (e : PyData.tuple (xs.map PyData.str) = d) : Dp K (fun _ => none) (.ref a) d := by
  obtain ⟨va, da⟩ := strsOf_dp (K := K) h
  subst e
  have hv := va.length
  rw [List.length_map] at hv
  exact .tup (xs := xs.map V.str) (.inr ⟨_, us.toArray, n, l, rfl, rfl, by rw [List.size_toArray, ← hv]; exact hl, by simpa using va⟩) da
theorem all_mk {l : PySem.W.OpenLaw} {w : World} {K : PySem.W.Frag} {h : Heap} {mg : Str → Option Value} {fa : Addr} {f0 f1 f2 f3 f4 f5 f6 f7 f8 f9 f10 f11 f12 f13 f14 f15 f16 f17 f18 f19 f20 f21 f22 f23 f24 f25 f26 f27 f28 f29 f30 f31 f32 f33 f34 f35 f36 f37 f38 f39 f40 f41 f42 f43 : Addr} {od0 an0 od1 an1 od2 an2 od3 an3 od4 an4 od5 an5 od6 an6 od7 an7 od8 an8 od9 an9 od10 an10 od11 an11 od12 an12 od13 an13 od14 an14 od15 an15 od16 an16 od17 an17 od18 an18 od19 an19 od20 an20 od21 an21 od22 an22 od23 an23 od24 an24 od25 an25 od26 an26 od27 an27 od28 an28 od29 an29 od30 an30 od31 an31 od32 an32 od33 an33 od34 an34 od35 an35 od36 an36 od37 an37 od38 an38 od39 an39 od40 an40 od41 an41 od42 an42 od43 an43 : Option Addr} {sl0 sl1 sl2 sl3 sl4 sl5 sl6 sl7 sl8 sl9 sl10 sl11 sl12 sl13 sl14 sl15 sl16 sl17 sl18 sl19 sl20 sl21 sl22 sl23 sl24 sl25 sl26 sl27 sl28 sl29 sl30 sl31 sl32 sl33 sl34 sl35 sl36 sl37 sl38 sl39 sl40 sl41 sl42 sl43 : Array (Option Value)} {oc0 kV0 dc0 pm0 cd0 ct0 oc1 kV1 dc1 pm1 cd1 ct1 oc2 kV2 dc2 pm2 cd2 ct2 oc3 kV3 dc3 pm3 cd3 ct3 oc4 kV4 dc4 pm4 cd4 ct4 oc5 kV5 dc5 pm5 cd5 ct5 oc6 kV6 dc6 pm6 cd6 ct6 oc7 kV7 dc7 pm7 cd7 ct7 oc8 kV8 dc8 pm8 cd8 ct8 oc9 kV9 dc9 pm9 cd9 ct9 oc10 kV10 dc10 pm10 cd10 ct10 oc11 kV11 dc11 pm11 cd11 ct11 oc12 kV12 dc12 pm12 cd12 ct12 oc13 kV13 dc13 pm13 cd13 ct13 oc14 kV14 dc14 pm14 cd14 ct14 oc15 kV15 dc15 pm15 cd15 ct15 oc16 kV16 dc16 pm16 cd16 ct16 oc17 kV17 dc17 pm17 cd17 ct17 oc18 kV18 dc18 pm18 cd18 ct18 oc19 kV19 dc19 pm19 cd19 ct19 oc20 kV20 dc20 pm20 cd20 ct20 oc21 kV21 dc21 pm21 cd21 ct21 oc22 kV22 dc22 pm22 cd22 ct22 oc23 kV23 dc23 pm23 cd23 ct23 oc24 kV24 dc24 pm24 cd24 ct24 oc25 kV25 dc25 pm25 cd25 ct25 oc26 kV26 dc26 pm26 cd26 ct26 oc27 kV27 dc27 pm27 cd27 ct27 oc28 kV28 dc28 pm28 cd28 ct28 oc29 kV29 dc29 pm29 cd29 ct29 oc30 kV30 dc30 pm30 cd30 ct30 oc31 kV31 dc31 pm31 cd31 ct31 oc32 kV32 dc32 pm32 cd32 ct32 oc33 kV33 dc33 pm33 cd33 ct33 oc34 kV34 dc34 pm34 cd34 ct34 oc35 kV35 dc35 pm35 cd35 ct35 oc36 kV36 dc36 pm36 cd36 ct36 oc37 kV37 dc37 pm37 cd37 ct37 oc38 kV38 dc38 pm38 cd38 ct38 oc39 kV39 dc39 pm39 cd39 ct39 oc40 kV40 dc40 pm40 cd40 ct40 oc41 kV41 dc41 pm41 cd41 ct41 oc42 kV42 dc42 pm42 cd42 ct42 oc43 kV43 dc43 pm43 ct43 : Value} {t_KEPT : Addr} {u_KEPT : List Value} {n_KEPT : Nat} {s_KEPT : Array (Option Value)} {d_KEPT : Option Addr} {t_LETTERS : Tok} {t_MOST_LETTERS : Tok} {t_MOST_RELATIONS : Tok} {t_MOST_PLACES : Tok} {t_MOST_NUMBER : Tok} {cL T CS C0 : Addr} {eC : Value} {ddC : Option Addr} {vsC : Array Value} {slC : Array (Option Value)} (X : K.In h) (G : h.Ns mainGlobals mg) (hfa : mg "law" = some (.ref fa)) (own : LamX.OwnTab K fa h)
    (a0 : PySem.W.nsIn K mainGlobals "is_name" = some (some (.ref f0))) (l0 : K.lookup f0 = some ⟨oc0, od0, .func (PySem.W.fnOf "is_name" "is_name" (defArgs (topS 15)) (defBody (topS 15)) (defScope (topS 15)) .none kV0 dc0 pm0 an0 cd0 ct0), sl0⟩) (c0 : PySem.W.codeIn K cd0 "is_name" = true) (k0 : PySem.W.keepIn K (.ref f0) = true)
    (a1 : PySem.W.nsIn K mainGlobals "is_number" = some (some (.ref f1))) (l1 : K.lookup f1 = some ⟨oc1, od1, .func (PySem.W.fnOf "is_number" "is_number" (defArgs (topS 16)) (defBody (topS 16)) (defScope (topS 16)) .none kV1 dc1 pm1 an1 cd1 ct1), sl1⟩) (c1 : PySem.W.codeIn K cd1 "is_number" = true) (k1 : PySem.W.keepIn K (.ref f1) = true)
    (a2 : PySem.W.nsIn K mainGlobals "is_term" = some (some (.ref f2))) (l2 : K.lookup f2 = some ⟨oc2, od2, .func (PySem.W.fnOf "is_term" "is_term" (defArgs (topS 17)) (defBody (topS 17)) (defScope (topS 17)) .none kV2 dc2 pm2 an2 cd2 ct2), sl2⟩) (c2 : PySem.W.codeIn K cd2 "is_term" = true) (k2 : PySem.W.keepIn K (.ref f2) = true)
    (a3 : PySem.W.nsIn K mainGlobals "are_rising" = some (some (.ref f3))) (l3 : K.lookup f3 = some ⟨oc3, od3, .func (PySem.W.fnOf "are_rising" "are_rising" (defArgs (topS 18)) (defBody (topS 18)) (defScope (topS 18)) .none kV3 dc3 pm3 an3 cd3 ct3), sl3⟩) (c3 : PySem.W.codeIn K cd3 "are_rising" = true) (k3 : PySem.W.keepIn K (.ref f3) = true)
    (a4 : PySem.W.nsIn K mainGlobals "is_pair" = some (some (.ref f4))) (l4 : K.lookup f4 = some ⟨oc4, od4, .func (PySem.W.fnOf "is_pair" "is_pair" (defArgs (topS 19)) (defBody (topS 19)) (defScope (topS 19)) .none kV4 dc4 pm4 an4 cd4 ct4), sl4⟩) (c4 : PySem.W.codeIn K cd4 "is_pair" = true) (k4 : PySem.W.keepIn K (.ref f4) = true)
    (a5 : PySem.W.nsIn K mainGlobals "are_named" = some (some (.ref f5))) (l5 : K.lookup f5 = some ⟨oc5, od5, .func (PySem.W.fnOf "are_named" "are_named" (defArgs (topS 20)) (defBody (topS 20)) (defScope (topS 20)) .none kV5 dc5 pm5 an5 cd5 ct5), sl5⟩) (c5 : PySem.W.codeIn K cd5 "are_named" = true) (k5 : PySem.W.keepIn K (.ref f5) = true)
    (a6 : PySem.W.nsIn K mainGlobals "is_relations" = some (some (.ref f6))) (l6 : K.lookup f6 = some ⟨oc6, od6, .func (PySem.W.fnOf "is_relations" "is_relations" (defArgs (topS 21)) (defBody (topS 21)) (defScope (topS 21)) .none kV6 dc6 pm6 an6 cd6 ct6), sl6⟩) (c6 : PySem.W.codeIn K cd6 "is_relations" = true) (k6 : PySem.W.keepIn K (.ref f6) = true)
    (a7 : PySem.W.nsIn K mainGlobals "need_relations" = some (some (.ref f7))) (l7 : K.lookup f7 = some ⟨oc7, od7, .func (PySem.W.fnOf "need_relations" "need_relations" (defArgs (topS 22)) (defBody (topS 22)) (defScope (topS 22)) .none kV7 dc7 pm7 an7 cd7 ct7), sl7⟩) (c7 : PySem.W.codeIn K cd7 "need_relations" = true) (k7 : PySem.W.keepIn K (.ref f7) = true)
    (a8 : PySem.W.nsIn K mainGlobals "term_key" = some (some (.ref f8))) (l8 : K.lookup f8 = some ⟨oc8, od8, .func (PySem.W.fnOf "term_key" "term_key" (defArgs (topS 23)) (defBody (topS 23)) (defScope (topS 23)) .none kV8 dc8 pm8 an8 cd8 ct8), sl8⟩) (c8 : PySem.W.codeIn K cd8 "term_key" = true) (k8 : PySem.W.keepIn K (.ref f8) = true)
    (a9 : PySem.W.nsIn K mainGlobals "in_sequence" = some (some (.ref f9))) (l9 : K.lookup f9 = some ⟨oc9, od9, .func (PySem.W.fnOf "in_sequence" "in_sequence" (defArgs (topS 24)) (defBody (topS 24)) (defScope (topS 24)) .none kV9 dc9 pm9 an9 cd9 ct9), sl9⟩) (c9 : PySem.W.codeIn K cd9 "in_sequence" = true) (k9 : PySem.W.keepIn K (.ref f9) = true)
    (a10 : PySem.W.nsIn K mainGlobals "is_rule" = some (some (.ref f10))) (l10 : K.lookup f10 = some ⟨oc10, od10, .func (PySem.W.fnOf "is_rule" "is_rule" (defArgs (topS 41)) (defBody (topS 41)) (defScope (topS 41)) .none kV10 dc10 pm10 an10 cd10 ct10), sl10⟩) (c10 : PySem.W.codeIn K cd10 "is_rule" = true) (k10 : PySem.W.keepIn K (.ref f10) = true)
    (a11 : PySem.W.nsIn K mainGlobals "calm" = some (some (.ref f11))) (l11 : K.lookup f11 = some ⟨oc11, od11, .func (PySem.W.fnOf "calm" "calm" (defArgs (topS 53)) (defBody (topS 53)) (defScope (topS 53)) .none kV11 dc11 pm11 an11 cd11 ct11), sl11⟩) (c11 : PySem.W.codeIn K cd11 "calm" = true) (k11 : PySem.W.keepIn K (.ref f11) = true)
    (a12 : PySem.W.nsIn K mainGlobals "is_calm_paper" = some (some (.ref f12))) (l12 : K.lookup f12 = some ⟨oc12, od12, .func (PySem.W.fnOf "is_calm_paper" "is_calm_paper" (defArgs (topS 56)) (defBody (topS 56)) (defScope (topS 56)) .none kV12 dc12 pm12 an12 cd12 ct12), sl12⟩) (c12 : PySem.W.codeIn K cd12 "is_calm_paper" = true) (k12 : PySem.W.keepIn K (.ref f12) = true)
    (a13 : PySem.W.nsIn K mainGlobals "is_store" = some (some (.ref f13))) (l13 : K.lookup f13 = some ⟨oc13, od13, .func (PySem.W.fnOf "is_store" "is_store" (defArgs (topS 61)) (defBody (topS 61)) (defScope (topS 61)) .none kV13 dc13 pm13 an13 cd13 ct13), sl13⟩) (c13 : PySem.W.codeIn K cd13 "is_store" = true) (k13 : PySem.W.keepIn K (.ref f13) = true)
    (a14 : PySem.W.nsIn K mainGlobals "empty_store" = some (some (.ref f14))) (l14 : K.lookup f14 = some ⟨oc14, od14, .func (PySem.W.fnOf "empty_store" "empty_store" (defArgs (topS 63)) (defBody (topS 63)) (defScope (topS 63)) .none kV14 dc14 pm14 an14 cd14 ct14), sl14⟩) (c14 : PySem.W.codeIn K cd14 "empty_store" = true) (k14 : PySem.W.keepIn K (.ref f14) = true)
    (a15 : PySem.W.nsIn K mainGlobals "added" = some (some (.ref f15))) (l15 : K.lookup f15 = some ⟨oc15, od15, .func (PySem.W.fnOf "added" "added" (defArgs (topS 65)) (defBody (topS 65)) (defScope (topS 65)) .none kV15 dc15 pm15 an15 cd15 ct15), sl15⟩) (c15 : PySem.W.codeIn K cd15 "added" = true) (k15 : PySem.W.keepIn K (.ref f15) = true)
    (a16 : PySem.W.nsIn K mainGlobals "within_store" = some (some (.ref f16))) (l16 : K.lookup f16 = some ⟨oc16, od16, .func (PySem.W.fnOf "within_store" "within_store" (defArgs (topS 67)) (defBody (topS 67)) (defScope (topS 67)) .none kV16 dc16 pm16 an16 cd16 ct16), sl16⟩) (c16 : PySem.W.codeIn K cd16 "within_store" = true) (k16 : PySem.W.keepIn K (.ref f16) = true)
    (a17 : PySem.W.nsIn K mainGlobals "answer" = some (some (.ref f17))) (l17 : K.lookup f17 = some ⟨oc17, od17, .func (PySem.W.fnOf "answer" "answer" (defArgs (topS 75)) (defBody (topS 75)) (defScope (topS 75)) .none kV17 dc17 pm17 an17 cd17 ct17), sl17⟩) (c17 : PySem.W.codeIn K cd17 "answer" = true) (k17 : PySem.W.keepIn K (.ref f17) = true)
    (a18 : PySem.W.nsIn K mainGlobals "witnesses" = some (some (.ref f18))) (l18 : K.lookup f18 = some ⟨oc18, od18, .func (PySem.W.fnOf "witnesses" "witnesses" (defArgs (topS 76)) (defBody (topS 76)) (defScope (topS 76)) .none kV18 dc18 pm18 an18 cd18 ct18), sl18⟩) (c18 : PySem.W.codeIn K cd18 "witnesses" = true) (k18 : PySem.W.keepIn K (.ref f18) = true)
    (a19 : PySem.W.nsIn K mainGlobals "broken" = some (some (.ref f19))) (l19 : K.lookup f19 = some ⟨oc19, od19, .func (PySem.W.fnOf "broken" "broken" (defArgs (topS 80)) (defBody (topS 80)) (defScope (topS 80)) .none kV19 dc19 pm19 an19 cd19 ct19), sl19⟩) (c19 : PySem.W.codeIn K cd19 "broken" = true) (k19 : PySem.W.keepIn K (.ref f19) = true)
    (a20 : PySem.W.nsIn K mainGlobals "question_text" = some (some (.ref f20))) (l20 : K.lookup f20 = some ⟨oc20, od20, .func (PySem.W.fnOf "question_text" "question_text" (defArgs (topS 90)) (defBody (topS 90)) (defScope (topS 90)) .none kV20 dc20 pm20 an20 cd20 ct20), sl20⟩) (c20 : PySem.W.codeIn K cd20 "question_text" = true) (k20 : PySem.W.keepIn K (.ref f20) = true)
    (a21 : PySem.W.nsIn K mainGlobals "rule_text" = some (some (.ref f21))) (l21 : K.lookup f21 = some ⟨oc21, od21, .func (PySem.W.fnOf "rule_text" "rule_text" (defArgs (topS 91)) (defBody (topS 91)) (defScope (topS 91)) .none kV21 dc21 pm21 an21 cd21 ct21), sl21⟩) (c21 : PySem.W.codeIn K cd21 "rule_text" = true) (k21 : PySem.W.keepIn K (.ref f21) = true)
    (a22 : PySem.W.nsIn K mainGlobals "view_text" = some (some (.ref f22))) (l22 : K.lookup f22 = some ⟨oc22, od22, .func (PySem.W.fnOf "view_text" "view_text" (defArgs (topS 92)) (defBody (topS 92)) (defScope (topS 92)) .none kV22 dc22 pm22 an22 cd22 ct22), sl22⟩) (c22 : PySem.W.codeIn K cd22 "view_text" = true) (k22 : PySem.W.keepIn K (.ref f22) = true)
    (a23 : PySem.W.nsIn K mainGlobals "read_question" = some (some (.ref f23))) (l23 : K.lookup f23 = some ⟨oc23, od23, .func (PySem.W.fnOf "read_question" "read_question" (defArgs (topS 105)) (defBody (topS 105)) (defScope (topS 105)) .none kV23 dc23 pm23 an23 cd23 ct23), sl23⟩) (c23 : PySem.W.codeIn K cd23 "read_question" = true) (k23 : PySem.W.keepIn K (.ref f23) = true)
    (a24 : PySem.W.nsIn K mainGlobals "read_rule" = some (some (.ref f24))) (l24 : K.lookup f24 = some ⟨oc24, od24, .func (PySem.W.fnOf "read_rule" "read_rule" (defArgs (topS 106)) (defBody (topS 106)) (defScope (topS 106)) .none kV24 dc24 pm24 an24 cd24 ct24), sl24⟩) (c24 : PySem.W.codeIn K cd24 "read_rule" = true) (k24 : PySem.W.keepIn K (.ref f24) = true)
    (a25 : PySem.W.nsIn K mainGlobals "read_view" = some (some (.ref f25))) (l25 : K.lookup f25 = some ⟨oc25, od25, .func (PySem.W.fnOf "read_view" "read_view" (defArgs (topS 107)) (defBody (topS 107)) (defScope (topS 107)) .none kV25 dc25 pm25 an25 cd25 ct25), sl25⟩) (c25 : PySem.W.codeIn K cd25 "read_view" = true) (k25 : PySem.W.keepIn K (.ref f25) = true)
    (a26 : PySem.W.nsIn K mainGlobals "store_text" = some (some (.ref f26))) (l26 : K.lookup f26 = some ⟨oc26, od26, .func (PySem.W.fnOf "store_text" "store_text" (defArgs (topS 110)) (defBody (topS 110)) (defScope (topS 110)) .none kV26 dc26 pm26 an26 cd26 ct26), sl26⟩) (c26 : PySem.W.codeIn K cd26 "store_text" = true) (k26 : PySem.W.keepIn K (.ref f26) = true)
    (a27 : PySem.W.nsIn K mainGlobals "read_store" = some (some (.ref f27))) (l27 : K.lookup f27 = some ⟨oc27, od27, .func (PySem.W.fnOf "read_store" "read_store" (defArgs (topS 111)) (defBody (topS 111)) (defScope (topS 111)) .none kV27 dc27 pm27 an27 cd27 ct27), sl27⟩) (c27 : PySem.W.codeIn K cd27 "read_store" = true) (k27 : PySem.W.keepIn K (.ref f27) = true)
    (a28 : PySem.W.nsIn K mainGlobals "_law_begun" = some (some (.ref f28))) (l28 : K.lookup f28 = some ⟨oc28, od28, .func (PySem.W.fnOf "_law_begun" "_law_begun" (defArgs (topS 113)) (defBody (topS 113)) (defScope (topS 113)) .none kV28 dc28 pm28 an28 cd28 ct28), sl28⟩) (c28 : PySem.W.codeIn K cd28 "_law_begun" = true) (k28 : PySem.W.keepIn K (.ref f28) = true)
    (a29 : PySem.W.nsIn K mainGlobals "_law_mixed" = some (some (.ref f29))) (l29 : K.lookup f29 = some ⟨oc29, od29, .func (PySem.W.fnOf "_law_mixed" "_law_mixed" (defArgs (topS 114)) (defBody (topS 114)) (defScope (topS 114)) .none kV29 dc29 pm29 an29 cd29 ct29), sl29⟩) (c29 : PySem.W.codeIn K cd29 "_law_mixed" = true) (k29 : PySem.W.keepIn K (.ref f29) = true)
    (a30 : PySem.W.nsIn K mainGlobals "_law_draw" = some (some (.ref f30))) (l30 : K.lookup f30 = some ⟨oc30, od30, .func (PySem.W.fnOf "_law_draw" "_law_draw" (defArgs (topS 115)) (defBody (topS 115)) (defScope (topS 115)) .none kV30 dc30 pm30 an30 cd30 ct30), sl30⟩) (c30 : PySem.W.codeIn K cd30 "_law_draw" = true) (k30 : PySem.W.keepIn K (.ref f30) = true)
    (a31 : PySem.W.nsIn K mainGlobals "_law_pick" = some (some (.ref f31))) (l31 : K.lookup f31 = some ⟨oc31, od31, .func (PySem.W.fnOf "_law_pick" "_law_pick" (defArgs (topS 116)) (defBody (topS 116)) (defScope (topS 116)) .none kV31 dc31 pm31 an31 cd31 ct31), sl31⟩) (c31 : PySem.W.codeIn K cd31 "_law_pick" = true) (k31 : PySem.W.keepIn K (.ref f31) = true)
    (a32 : PySem.W.nsIn K mainGlobals "_law_plain" = some (some (.ref f32))) (l32 : K.lookup f32 = some ⟨oc32, od32, .func (PySem.W.fnOf "_law_plain" "_law_plain" (defArgs (topS 117)) (defBody (topS 117)) (defScope (topS 117)) .none kV32 dc32 pm32 an32 cd32 ct32), sl32⟩) (c32 : PySem.W.codeIn K cd32 "_law_plain" = true) (k32 : PySem.W.keepIn K (.ref f32) = true)
    (a33 : PySem.W.nsIn K mainGlobals "_law_is" = some (some (.ref f33))) (l33 : K.lookup f33 = some ⟨oc33, od33, .func (PySem.W.fnOf "_law_is" "_law_is" (defArgs (topS 118)) (defBody (topS 118)) (defScope (topS 118)) .none kV33 dc33 pm33 an33 cd33 ct33), sl33⟩) (c33 : PySem.W.codeIn K cd33 "_law_is" = true) (k33 : PySem.W.keepIn K (.ref f33) = true)
    (a34 : PySem.W.nsIn K mainGlobals "_law_caught" = some (some (.ref f34))) (l34 : K.lookup f34 = some ⟨oc34, od34, .func (PySem.W.fnOf "_law_caught" "_law_caught" (defArgs (topS 119)) (defBody (topS 119)) (defScope (topS 119)) .none kV34 dc34 pm34 an34 cd34 ct34), sl34⟩) (c34 : PySem.W.codeIn K cd34 "_law_caught" = true) (k34 : PySem.W.keepIn K (.ref f34) = true)
    (a35 : PySem.W.nsIn K mainGlobals "_law_says" = some (some (.ref f35))) (l35 : K.lookup f35 = some ⟨oc35, od35, .func (PySem.W.fnOf "_law_says" "_law_says" (defArgs (topS 120)) (defBody (topS 120)) (defScope (topS 120)) .none kV35 dc35 pm35 an35 cd35 ct35), sl35⟩) (c35 : PySem.W.codeIn K cd35 "_law_says" = true) (k35 : PySem.W.keepIn K (.ref f35) = true)
    (a36 : PySem.W.nsIn K mainGlobals "_law_relations" = some (some (.ref f36))) (l36 : K.lookup f36 = some ⟨oc36, od36, .func (PySem.W.fnOf "_law_relations" "_law_relations" (defArgs (topS 121)) (defBody (topS 121)) (defScope (topS 121)) .none kV36 dc36 pm36 an36 cd36 ct36), sl36⟩) (c36 : PySem.W.codeIn K cd36 "_law_relations" = true) (k36 : PySem.W.keepIn K (.ref f36) = true)
    (a37 : PySem.W.nsIn K mainGlobals "_law_is_name" = some (some (.ref f37))) (l37 : K.lookup f37 = some ⟨oc37, od37, .func (PySem.W.fnOf "_law_is_name" "_law_is_name" (defArgs (topS 122)) (defBody (topS 122)) (defScope (topS 122)) .none kV37 dc37 pm37 an37 cd37 ct37), sl37⟩) (c37 : PySem.W.codeIn K cd37 "_law_is_name" = true) (k37 : PySem.W.keepIn K (.ref f37) = true)
    (a38 : PySem.W.nsIn K mainGlobals "_law_is_number" = some (some (.ref f38))) (l38 : K.lookup f38 = some ⟨oc38, od38, .func (PySem.W.fnOf "_law_is_number" "_law_is_number" (defArgs (topS 123)) (defBody (topS 123)) (defScope (topS 123)) .none kV38 dc38 pm38 an38 cd38 ct38), sl38⟩) (c38 : PySem.W.codeIn K cd38 "_law_is_number" = true) (k38 : PySem.W.keepIn K (.ref f38) = true)
    (a39 : PySem.W.nsIn K mainGlobals "_law_is_term" = some (some (.ref f39))) (l39 : K.lookup f39 = some ⟨oc39, od39, .func (PySem.W.fnOf "_law_is_term" "_law_is_term" (defArgs (topS 124)) (defBody (topS 124)) (defScope (topS 124)) .none kV39 dc39 pm39 an39 cd39 ct39), sl39⟩) (c39 : PySem.W.codeIn K cd39 "_law_is_term" = true) (k39 : PySem.W.keepIn K (.ref f39) = true)
    (a40 : PySem.W.nsIn K mainGlobals "_law_are_named" = some (some (.ref f40))) (l40 : K.lookup f40 = some ⟨oc40, od40, .func (PySem.W.fnOf "_law_are_named" "_law_are_named" (defArgs (topS 125)) (defBody (topS 125)) (defScope (topS 125)) .none kV40 dc40 pm40 an40 cd40 ct40), sl40⟩) (c40 : PySem.W.codeIn K cd40 "_law_are_named" = true) (k40 : PySem.W.keepIn K (.ref f40) = true)
    (a41 : PySem.W.nsIn K mainGlobals "_law_is_relations" = some (some (.ref f41))) (l41 : K.lookup f41 = some ⟨oc41, od41, .func (PySem.W.fnOf "_law_is_relations" "_law_is_relations" (defArgs (topS 126)) (defBody (topS 126)) (defScope (topS 126)) .none kV41 dc41 pm41 an41 cd41 ct41), sl41⟩) (c41 : PySem.W.codeIn K cd41 "_law_is_relations" = true) (k41 : PySem.W.keepIn K (.ref f41) = true)
    (a42 : PySem.W.nsIn K mainGlobals "_law_near" = some (some (.ref f42))) (l42 : K.lookup f42 = some ⟨oc42, od42, .func (PySem.W.fnOf "_law_near" "_law_near" (defArgs (topS 127)) (defBody (topS 127)) (defScope (topS 127)) .none kV42 dc42 pm42 an42 cd42 ct42), sl42⟩) (c42 : PySem.W.codeIn K cd42 "_law_near" = true) (k42 : PySem.W.keepIn K (.ref f42) = true)
    (a43 : PySem.W.nsIn K mainGlobals "law" = some (some (.ref f43))) (l43 : K.lookup f43 = some ⟨oc43, od43, .func (PySem.W.fnOf "law" "law" (defArgs (topS 128)) (defBody (topS 128)) (defScope (topS 128)) .none kV43 dc43 pm43 an43 (.ref cL) ct43), sl43⟩) (c43 : PySem.W.codeIn K (.ref cL) "law" = true) (k43 : PySem.W.keepIn K (.ref f43) = true)
    (lC : K.lookup cL = some ⟨eC, ddC, .fields vsC, slC⟩) (vC : vsC[11]? = some (.ref T)) (hC : PySem.W.codeHdIn K cL T = true) (nT : K.lookup T = none)
    (z_len : PySem.W.nsIn K mainGlobals "len" = some none)
    (z_all : PySem.W.nsIn K mainGlobals "all" = some none)
    (z_any : PySem.W.nsIn K mainGlobals "any" = some none)
    (z_isinstance : PySem.W.nsIn K mainGlobals "isinstance" = some none)
    (z_range : PySem.W.nsIn K mainGlobals "range" = some none)
    (z_enumerate : PySem.W.nsIn K mainGlobals "enumerate" = some none)
    (z_tuple : PySem.W.nsIn K mainGlobals "tuple" = some none)
    (z_list : PySem.W.nsIn K mainGlobals "list" = some none)
    (z_dict : PySem.W.nsIn K mainGlobals "dict" = some none)
    (z_int : PySem.W.nsIn K mainGlobals "int" = some none)
    (z_str : PySem.W.nsIn K mainGlobals "str" = some none)
    (z_bool : PySem.W.nsIn K mainGlobals "bool" = some none)
    (z_sorted : PySem.W.nsIn K mainGlobals "sorted" = some none)
    (z_repr : PySem.W.nsIn K mainGlobals "repr" = some none)
    (z_abs : PySem.W.nsIn K mainGlobals "abs" = some none)
    (z_min : PySem.W.nsIn K mainGlobals "min" = some none)
    (z_max : PySem.W.nsIn K mainGlobals "max" = some none)
    (z_zip : PySem.W.nsIn K mainGlobals "zip" = some none)
    (g_KEPT : PySem.W.nsIn K mainGlobals "KEPT" = some (some (.ref t_KEPT))) (h_KEPT : K.lookup t_KEPT = some ⟨.type "tuple", d_KEPT, .seq u_KEPT.toArray n_KEPT, s_KEPT⟩) (v_KEPT : strsOf u_KEPT = some (["ask", "base", "book", "come", "go", "head", "judge", "look", "no", "norule", "noview", "or", "patch", "plan", "question", "relation", "replica", "row", "rule", "same", "store", "to", "undo", "view", "when", "yes"] : List Str))
    (g_LETTERS : PySem.W.nsIn K mainGlobals "LETTERS" = some (some (.str "abcdefghijklmnopqrstuvwxyz" t_LETTERS)))
    (g_MOST_LETTERS : PySem.W.nsIn K mainGlobals "MOST_LETTERS" = some (some (.int 8 t_MOST_LETTERS)))
    (g_MOST_RELATIONS : PySem.W.nsIn K mainGlobals "MOST_RELATIONS" = some (some (.int 5 t_MOST_RELATIONS)))
    (g_MOST_PLACES : PySem.W.nsIn K mainGlobals "MOST_PLACES" = some (some (.int 3 t_MOST_PLACES)))
    (g_MOST_NUMBER : PySem.W.nsIn K mainGlobals "MOST_NUMBER" = some (some (.int 999 t_MOST_NUMBER)))
    (gCS : PySem.W.nsIn K mainGlobals "ViewError" = some (some (.ref CS))) (sCS : PySem.W.subIn K (.ref CS) (.type "BaseException") = some true) (dCS : PySem.W.hasDictIn K CS = true) (tCS : PySem.W.typeIn K (.ref CS) = some (.type "type"))
    (gX0 : PySem.W.nsIn K mainGlobals "NoRelations" = some (some (.ref C0)))
    (kX0 : PySem.W.keepIn K (.ref C0) = true)
    (eX0 : PySem.W.excIn K C0 [.type "ValueError", .type "Exception", .type "BaseException", .type "object"] "ValueError.__new__" = true)
    (sX0 : PySem.W.subIn K (.ref C0) (.type "BaseException") = some true)
    (tX0 : PySem.W.typeIn K (.ref C0) = some (.type "type"))
    (uX0 : PySem.W.subIn K (.ref C0) (.ref CS) = some true)
    (h1X0 : PySem.W.findIn K (.ref C0) "__getattribute__" = some (some (.builtin "BaseException.__getattribute__")))
    (h2X0 : PySem.W.findIn K (.ref C0) "__getattr__" = some none)
    (h4X0 : PySem.W.hasDictIn K C0 = true)
    (h5X0 : PySem.W.findIn K (.ref C0) "__class__" = some (some (.builtin "object.__class__")))
    (h6X0 : PySem.W.specialIn K (.builtin "object.__class__") "__get__" = some (some (.builtin "getset_descriptor.__get__")))
    (h7X0 : PySem.W.takesIn K (.builtin "object.__class__") = some true)
    (h8X0 : PySem.W.mroIn K C0 (.type "object") = some true)
    (nX0 : PySem.W.kitOne K (.type "NoneType") (.ref C0) = some false)
    (kk0_0 : PySem.W.kitOne K (.ref C0) (.ref C0) = some true)
    : ∃ (fd : FuncData) (c T : Addr), (∀ (s : Shared) (v : Value), BindsTo s fd ⟨[v], []⟩ [("script", v)]) ∧ h.get? T = some { cls := .none, data := .fields #[] } ∧ K.lookup T = none ∧ PySem.W.CodeHd h c T ∧ ∀ base : Heap, K.In base → base.Ns mainGlobals mg → LamX.TabB base mg c T → FnG l.prog w K mg base 12 fa fd ["script"] (spLaw K T) := by
  have e := hfa.symm.trans (PySem.W.mg_of X G a43)
  cases e
  have gm : Gm mg K := {
    z_len := PySem.W.mg_none_of X G z_len
    z_all := PySem.W.mg_none_of X G z_all
    z_any := PySem.W.mg_none_of X G z_any
    z_isinstance := PySem.W.mg_none_of X G z_isinstance
    z_range := PySem.W.mg_none_of X G z_range
    z_enumerate := PySem.W.mg_none_of X G z_enumerate
    z_tuple := PySem.W.mg_none_of X G z_tuple
    z_list := PySem.W.mg_none_of X G z_list
    z_dict := PySem.W.mg_none_of X G z_dict
    z_int := PySem.W.mg_none_of X G z_int
    z_str := PySem.W.mg_none_of X G z_str
    z_bool := PySem.W.mg_none_of X G z_bool
    z_sorted := PySem.W.mg_none_of X G z_sorted
    z_repr := PySem.W.mg_none_of X G z_repr
    z_abs := PySem.W.mg_none_of X G z_abs
    z_min := PySem.W.mg_none_of X G z_min
    z_max := PySem.W.mg_none_of X G z_max
    z_zip := PySem.W.mg_none_of X G z_zip
    c_KEPT := ⟨t_KEPT, PySem.W.mg_of X G g_KEPT, konst v_KEPT h_KEPT (by show 26 ≤ sizeLine; decide) (by simp [k_KEPT, D.py, D.pys])⟩
    c_LETTERS := ⟨t_LETTERS, PySem.W.mg_of X G g_LETTERS⟩
    c_MOST_LETTERS := ⟨t_MOST_LETTERS, PySem.W.mg_of X G g_MOST_LETTERS⟩
    c_MOST_RELATIONS := ⟨t_MOST_RELATIONS, PySem.W.mg_of X G g_MOST_RELATIONS⟩
    c_MOST_PLACES := ⟨t_MOST_PLACES, PySem.W.mg_of X G g_MOST_PLACES⟩
    c_MOST_NUMBER := ⟨t_MOST_NUMBER, PySem.W.mg_of X G g_MOST_NUMBER⟩ }
  have fs : Fs K mg := ⟨⟨_, _, fun_mk (st := topS 15) l0 c0 k0, PySem.W.mg_of X G a0⟩, ⟨_, _, fun_mk (st := topS 16) l1 c1 k1, PySem.W.mg_of X G a1⟩, ⟨_, _, fun_mk (st := topS 17) l2 c2 k2, PySem.W.mg_of X G a2⟩, ⟨_, _, fun_mk (st := topS 18) l3 c3 k3, PySem.W.mg_of X G a3⟩, ⟨_, _, fun_mk (st := topS 19) l4 c4 k4, PySem.W.mg_of X G a4⟩, ⟨_, _, fun_mk (st := topS 20) l5 c5 k5, PySem.W.mg_of X G a5⟩, ⟨_, _, fun_mk (st := topS 21) l6 c6 k6, PySem.W.mg_of X G a6⟩, ⟨_, _, fun_mk (st := topS 22) l7 c7 k7, PySem.W.mg_of X G a7⟩, ⟨_, _, fun_mk (st := topS 23) l8 c8 k8, PySem.W.mg_of X G a8⟩, ⟨_, _, fun_mk (st := topS 24) l9 c9 k9, PySem.W.mg_of X G a9⟩, ⟨_, _, fun_mk (st := topS 41) l10 c10 k10, PySem.W.mg_of X G a10⟩, ⟨_, _, fun_mk (st := topS 53) l11 c11 k11, PySem.W.mg_of X G a11⟩, ⟨_, _, fun_mk (st := topS 56) l12 c12 k12, PySem.W.mg_of X G a12⟩, ⟨_, _, fun_mk (st := topS 61) l13 c13 k13, PySem.W.mg_of X G a13⟩, ⟨_, _, fun_mk (st := topS 63) l14 c14 k14, PySem.W.mg_of X G a14⟩, ⟨_, _, fun_mk (st := topS 65) l15 c15 k15, PySem.W.mg_of X G a15⟩, ⟨_, _, fun_mk (st := topS 67) l16 c16 k16, PySem.W.mg_of X G a16⟩, ⟨_, _, fun_mk (st := topS 75) l17 c17 k17, PySem.W.mg_of X G a17⟩, ⟨_, _, fun_mk (st := topS 76) l18 c18 k18, PySem.W.mg_of X G a18⟩, ⟨_, _, fun_mk (st := topS 80) l19 c19 k19, PySem.W.mg_of X G a19⟩, ⟨_, _, fun_mk (st := topS 90) l20 c20 k20, PySem.W.mg_of X G a20⟩, ⟨_, _, fun_mk (st := topS 91) l21 c21 k21, PySem.W.mg_of X G a21⟩, ⟨_, _, fun_mk (st := topS 92) l22 c22 k22, PySem.W.mg_of X G a22⟩, ⟨_, _, fun_mk (st := topS 105) l23 c23 k23, PySem.W.mg_of X G a23⟩, ⟨_, _, fun_mk (st := topS 106) l24 c24 k24, PySem.W.mg_of X G a24⟩, ⟨_, _, fun_mk (st := topS 107) l25 c25 k25, PySem.W.mg_of X G a25⟩, ⟨_, _, fun_mk (st := topS 110) l26 c26 k26, PySem.W.mg_of X G a26⟩, ⟨_, _, fun_mk (st := topS 111) l27 c27 k27, PySem.W.mg_of X G a27⟩, ⟨_, _, fun_mk (st := topS 113) l28 c28 k28, PySem.W.mg_of X G a28⟩, ⟨_, _, fun_mk (st := topS 114) l29 c29 k29, PySem.W.mg_of X G a29⟩, ⟨_, _, fun_mk (st := topS 115) l30 c30 k30, PySem.W.mg_of X G a30⟩, ⟨_, _, fun_mk (st := topS 116) l31 c31 k31, PySem.W.mg_of X G a31⟩, ⟨_, _, fun_mk (st := topS 117) l32 c32 k32, PySem.W.mg_of X G a32⟩, ⟨_, _, fun_mk (st := topS 118) l33 c33 k33, PySem.W.mg_of X G a33⟩, ⟨_, _, fun_mk (st := topS 119) l34 c34 k34, PySem.W.mg_of X G a34⟩, ⟨_, _, fun_mk (st := topS 120) l35 c35 k35, PySem.W.mg_of X G a35⟩, ⟨_, _, fun_mk (st := topS 121) l36 c36 k36, PySem.W.mg_of X G a36⟩, ⟨_, _, fun_mk (st := topS 122) l37 c37 k37, PySem.W.mg_of X G a37⟩, ⟨_, _, fun_mk (st := topS 123) l38 c38 k38, PySem.W.mg_of X G a38⟩, ⟨_, _, fun_mk (st := topS 124) l39 c39 k39, PySem.W.mg_of X G a39⟩, ⟨_, _, fun_mk (st := topS 125) l40 c40 k40, PySem.W.mg_of X G a40⟩, ⟨_, _, fun_mk (st := topS 126) l41 c41 k41, PySem.W.mg_of X G a41⟩, ⟨_, _, fun_mk (st := topS 127) l42 c42 k42, PySem.W.mg_of X G a42⟩⟩
  have FL := fun_mk (st := topS 128) l43 c43 k43
  have kx : Kx mg K CS C0 := {
    v := PySem.W.mg_of X G gCS
    x0 := ⟨PySem.W.mg_of X G gX0, kX0, eX0, sX0, tX0, PySem.W.exm_ref sCS dCS tCS uX0, ⟨h1X0, h2X0, sX0, h4X0, h5X0, h6X0, h7X0, h8X0⟩⟩
    n0 := nX0
    k0_0 := kk0_0 }
  exact ⟨_, cL, T, fun s v => .of_eq rfl, own cL T _ _ eC ddC vsC slC l43 rfl rfl lC vC, nT, PySem.W.codeHd_of_K X hC, fun base _ _ TB => ok_law gm kx fs FL rfl TB⟩
end K1
open PySem PySem.W PyProof.Rows
set_option maxHeartbeats 0 in
theorem PySem.Challenge.cw_viewroots_k00_whole_names_and_relations_holds : PySem.Challenge.rw_viewroots_k00_whole_names_and_relations.Holds := by
  w_on; o_law; k_head; (case hw => w_witness2)
  k_fill
  refine DL.walk_GT (l := PySem.Challenge.rw_viewroots_k00_whole_names_and_relations) (n := 63) (k := 12) (x := "script") (sp := K1.spLaw) rfl (by decide) rfl ⟨rfl, by decide, by decide⟩ (by decide +kernel) (fun w h Y => PySem.W.km_in_of Y) ?F (fun _ _ a _ ns hl hT _ hS => ⟨a, ns, rfl, hS, hl, hT, fun _ => rfl⟩)
  case F =>
    intro w mg fa h KX G hmg own
    refine' K1.all_mk KX G hmg own ?a0 ?l0 ?c0 ?k0 ?a1 ?l1 ?c1 ?k1 ?a2 ?l2 ?c2 ?k2 ?a3 ?l3 ?c3 ?k3 ?a4 ?l4 ?c4 ?k4 ?a5 ?l5 ?c5 ?k5 ?a6 ?l6 ?c6 ?k6 ?a7 ?l7 ?c7 ?k7 ?a8 ?l8 ?c8 ?k8 ?a9 ?l9 ?c9 ?k9 ?a10 ?l10 ?c10 ?k10 ?a11 ?l11 ?c11 ?k11 ?a12 ?l12 ?c12 ?k12 ?a13 ?l13 ?c13 ?k13 ?a14 ?l14 ?c14 ?k14 ?a15 ?l15 ?c15 ?k15 ?a16 ?l16 ?c16 ?k16 ?a17 ?l17 ?c17 ?k17 ?a18 ?l18 ?c18 ?k18 ?a19 ?l19 ?c19 ?k19 ?a20 ?l20 ?c20 ?k20 ?a21 ?l21 ?c21 ?k21 ?a22 ?l22 ?c22 ?k22 ?a23 ?l23 ?c23 ?k23 ?a24 ?l24 ?c24 ?k24 ?a25 ?l25 ?c25 ?k25 ?a26 ?l26 ?c26 ?k26 ?a27 ?l27 ?c27 ?k27 ?a28 ?l28 ?c28 ?k28 ?a29 ?l29 ?c29 ?k29 ?a30 ?l30 ?c30 ?k30 ?a31 ?l31 ?c31 ?k31 ?a32 ?l32 ?c32 ?k32 ?a33 ?l33 ?c33 ?k33 ?a34 ?l34 ?c34 ?k34 ?a35 ?l35 ?c35 ?k35 ?a36 ?l36 ?c36 ?k36 ?a37 ?l37 ?c37 ?k37 ?a38 ?l38 ?c38 ?k38 ?a39 ?l39 ?c39 ?k39 ?a40 ?l40 ?c40 ?k40 ?a41 ?l41 ?c41 ?k41 ?a42 ?l42 ?c42 ?k42 ?a43 ?l43 ?c43 ?k43 ?lC ?vC ?hC ?nT ?z_len ?z_all ?z_any ?z_isinstance ?z_range ?z_enumerate ?z_tuple ?z_list ?z_dict ?z_int ?z_str ?z_bool ?z_sorted ?z_repr ?z_abs ?z_min ?z_max ?z_zip ?g_KEPT ?h_KEPT ?v_KEPT ?g_LETTERS ?g_MOST_LETTERS ?g_MOST_RELATIONS ?g_MOST_PLACES ?g_MOST_NUMBER ?gCS ?sCS ?dCS ?tCS ?gX0 ?kX0 ?eX0 ?sX0 ?tX0 ?uX0 ?h1X0 ?h2X0 ?h4X0 ?h5X0 ?h6X0 ?h7X0 ?h8X0 ?nX0 ?kk0_0
    (case a0 => k_is); (case l0 => k_is); (case c0 => k_is); (case k0 => k_is); (case a1 => k_is); (case l1 => k_is)
    (case c1 => k_is); (case k1 => k_is); (case a2 => k_is); (case l2 => k_is); (case c2 => k_is); (case k2 => k_is)
    (case a3 => k_is); (case l3 => k_is); (case c3 => k_is); (case k3 => k_is); (case a4 => k_is); (case l4 => k_is)
    (case c4 => k_is); (case k4 => k_is); (case a5 => k_is); (case l5 => k_is); (case c5 => k_is); (case k5 => k_is)
    (case a6 => k_is); (case l6 => k_is); (case c6 => k_is); (case k6 => k_is); (case a7 => k_is); (case l7 => k_is)
    (case c7 => k_is); (case k7 => k_is); (case a8 => k_is); (case l8 => k_is); (case c8 => k_is); (case k8 => k_is)
    (case a9 => k_is); (case l9 => k_is); (case c9 => k_is); (case k9 => k_is); (case a10 => k_is); (case l10 => k_is)
    (case c10 => k_is); (case k10 => k_is); (case a11 => k_is); (case l11 => k_is); (case c11 => k_is); (case k11 => k_is)
    (case a12 => k_is); (case l12 => k_is); (case c12 => k_is); (case k12 => k_is); (case a13 => k_is); (case l13 => k_is)
    (case c13 => k_is); (case k13 => k_is); (case a14 => k_is); (case l14 => k_is); (case c14 => k_is); (case k14 => k_is)
    (case a15 => k_is); (case l15 => k_is); (case c15 => k_is); (case k15 => k_is); (case a16 => k_is); (case l16 => k_is)
    (case c16 => k_is); (case k16 => k_is); (case a17 => k_is); (case l17 => k_is); (case c17 => k_is); (case k17 => k_is)
    (case a18 => k_is); (case l18 => k_is); (case c18 => k_is); (case k18 => k_is); (case a19 => k_is); (case l19 => k_is)
    (case c19 => k_is); (case k19 => k_is); (case a20 => k_is); (case l20 => k_is); (case c20 => k_is); (case k20 => k_is)
    (case a21 => k_is); (case l21 => k_is); (case c21 => k_is); (case k21 => k_is); (case a22 => k_is); (case l22 => k_is)
    (case c22 => k_is); (case k22 => k_is); (case a23 => k_is); (case l23 => k_is); (case c23 => k_is); (case k23 => k_is)
    (case a24 => k_is); (case l24 => k_is); (case c24 => k_is); (case k24 => k_is); (case a25 => k_is); (case l25 => k_is)
    (case c25 => k_is); (case k25 => k_is); (case a26 => k_is); (case l26 => k_is); (case c26 => k_is); (case k26 => k_is)
    (case a27 => k_is); (case l27 => k_is); (case c27 => k_is); (case k27 => k_is); (case a28 => k_is); (case l28 => k_is)
    (case c28 => k_is); (case k28 => k_is); (case a29 => k_is); (case l29 => k_is); (case c29 => k_is); (case k29 => k_is)
    (case a30 => k_is); (case l30 => k_is); (case c30 => k_is); (case k30 => k_is); (case a31 => k_is); (case l31 => k_is)
    (case c31 => k_is); (case k31 => k_is); (case a32 => k_is); (case l32 => k_is); (case c32 => k_is); (case k32 => k_is)
    (case a33 => k_is); (case l33 => k_is); (case c33 => k_is); (case k33 => k_is); (case a34 => k_is); (case l34 => k_is)
    (case c34 => k_is); (case k34 => k_is); (case a35 => k_is); (case l35 => k_is); (case c35 => k_is); (case k35 => k_is)
    (case a36 => k_is); (case l36 => k_is); (case c36 => k_is); (case k36 => k_is); (case a37 => k_is); (case l37 => k_is)
    (case c37 => k_is); (case k37 => k_is); (case a38 => k_is); (case l38 => k_is); (case c38 => k_is); (case k38 => k_is)
    (case a39 => k_is); (case l39 => k_is); (case c39 => k_is); (case k39 => k_is); (case a40 => k_is); (case l40 => k_is)
    (case c40 => k_is); (case k40 => k_is); (case a41 => k_is); (case l41 => k_is); (case c41 => k_is); (case k41 => k_is)
    (case a42 => k_is); (case l42 => k_is); (case c42 => k_is); (case k42 => k_is); (case a43 => k_is); (case l43 => k_is)
    (case c43 => k_is); (case k43 => k_is); (case lC => k_is); (case vC => first | rfl | k_is); (case hC => first | k_is | kernel_rfl | rfl); (case nT => first | k_is | kernel_rfl | rfl)
    (case z_len => k_is); (case z_all => k_is); (case z_any => k_is); (case z_isinstance => k_is); (case z_range => k_is); (case z_enumerate => k_is)
    (case z_tuple => k_is); (case z_list => k_is); (case z_dict => k_is); (case z_int => k_is); (case z_str => k_is); (case z_bool => k_is)
    (case z_sorted => k_is); (case z_repr => k_is); (case z_abs => k_is); (case z_min => k_is); (case z_max => k_is); (case z_zip => k_is)
    (case g_KEPT => k_is); (case h_KEPT => k_is); (case v_KEPT => first | rfl | k_is); (case g_LETTERS => k_is); (case g_MOST_LETTERS => k_is); (case g_MOST_RELATIONS => k_is)
    (case g_MOST_PLACES => k_is); (case g_MOST_NUMBER => k_is); (case gCS => k_is); (case sCS => k_is); (case dCS => k_is); (case tCS => k_is)
    (case gX0 => k_is); (case kX0 => k_is); (case eX0 => k_exc); (case sX0 => k_is); (case tX0 => k_is); (case uX0 => k_is)
    (case h1X0 => k_is); (case h2X0 => k_is); (case h4X0 => k_is); (case h5X0 => k_is); (case h6X0 => k_is); (case h7X0 => k_is)
    (case h8X0 => k_is); (case nX0 => kit_is); (case kk0_0 => kit_is)
