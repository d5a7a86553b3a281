import PyProof.Rows.All
import Wide.All
import OpenK.AllK
import Wide.FinOn
import HandS.ForMost
import HandS.ForExc
import HandS.TryMany
import HandS.Lambda
import HandS.ExcField
import HandS.ExcInit
import HandS.IsInst
import HandS.EndTab
import HandS.Zip
import HandS.Style
import PySem.Challenge.RW_everyonehome_k34_whole_letters_and_runs
import HandS.EndOwn
import HandS.ExcIs
set_option Elab.async false
set_option linter.all false
set_option maxRecDepth 100000
set_option maxHeartbeats 4000001
/-! GLay1: data without addresses, a store of what may change, and the lift of their readings to the hand layer's. -/
namespace G
open PySem
open PySem.Spec PyProof.Rows L2

/-- plain data; ref: what is told by its address alone (a cell of the store, a def, a class) -/
inductive D where
  | non | bl (b : Bool) | int (i : Int) | str (x : Str) | ty (n : String) | ref (a : Addr)
  | tup (l : List D) | lst (l : List D) | ins (C : Addr) (l : List (Str × D))
  /-- a list that is read alone (the script) -/
  | fz (l : List D)

/-- what may change -/
inductive Cell where
  | lst (l : List D) | dK (kvs : List (Key × D)) | ins (C : Addr) (l : List (Str × D))
  /-- a table of code objects of the name q -/
  | tab (q : Str)

abbrev Sto := Addr → Option Cell
def supd (s : Sto) (a : Addr) (c : Cell) : Sto := fun b => if b = a then some c else s b
def sdel (s : Sto) (a : Addr) : Sto := fun b => if b = a then none else s b
theorem supd_same {s : Sto} {a : Addr} {c : Cell} : supd s a c a = some c := if_pos rfl
theorem supd_ne {s : Sto} {a b : Addr} {c : Cell} (h : b ≠ a) : supd s a c b = s b := if_neg h
theorem sdel_same {s : Sto} {a : Addr} : sdel s a a = none := if_pos rfl
theorem sdel_ne {s : Sto} {a b : Addr} (h : b ≠ a) : sdel s a b = s b := if_neg h
theorem supd_supd {s : Sto} {a : Addr} {c e : Cell} : supd (supd s a c) a e = supd s a e := by
  funext b
  by_cases h : b = a
  · rw [h, supd_same, supd_same]
  · rw [supd_ne h, supd_ne h, supd_ne h]
theorem sdel_supd {s : Sto} {a : Addr} {c : Cell} (h : s a = none) : sdel (supd s a c) a = s := by
  funext b
  by_cases e : b = a
  · rw [e, sdel_same, h]
  · rw [sdel_ne e, supd_ne e]
theorem supd_comm {s : Sto} {a b : Addr} {c e : Cell} (h : a ≠ b) : supd (supd s a c) b e = supd (supd s b e) a c := by
  funext x
  by_cases h1 : x = a
  · have h2 : x ≠ b := fun z => h (h1.symm.trans z)
    rw [supd_ne h2, h1, supd_same, supd_same]
  · by_cases h2 : x = b
    · rw [h2, supd_same, supd_ne (fun z => h z.symm), supd_same]
    · rw [supd_ne h2, supd_ne h1, supd_ne h1, supd_ne h2]
theorem sdel_supd_ne {s : Sto} {a b : Addr} {c : Cell} (h : a ≠ b) : sdel (supd s a c) b = supd (sdel s b) a c := by
  funext x
  by_cases h1 : x = a
  · have h2 : x ≠ b := fun z => h (h1.symm.trans z)
    rw [sdel_ne h2, h1, supd_same, supd_same]
  · by_cases h2 : x = b
    · rw [h2, sdel_same, supd_ne (fun z => h z.symm), sdel_same]
    · rw [sdel_ne h2, supd_ne h1, supd_ne h1, sdel_ne h2]

/-- a tuple, a list that stands still: not in the store, or known to the module -/
def NT (K : PySem.W.Frag) (s : Sto) (H : Hp) (a : Addr) (xs : List V) : Prop :=
  (s a = none ∧ Rd H a (.tup xs)) ∨ ∃ (o : Obj) (its : Array Value) (n : Nat), K.lookup a = some o ∧ o.cls = .type "tuple" ∧ o.data = .seq its n ∧ its.size ≤ sizeLine ∧ Vals xs its.toList
def NL (s : Sto) (H : Hp) (a : Addr) (xs : List V) : Prop := s a = none ∧ H a = some (.lst xs)
def NZ (K : PySem.W.Frag) (s : Sto) (H : Hp) (a : Addr) (xs : List V) : Prop :=
  (s a = none ∧ ∃ o, H a = some (.frz o (.lst xs))) ∨ ∃ (o : Obj) (its : Array Value) (n : Nat), K.lookup a = some o ∧ o.cls = .type "list" ∧ o.dict = none ∧ o.data = .seq its n ∧ its.size ≤ sizeLine ∧ Vals xs its.toList
theorem NT.sq {K : PySem.W.Frag} {s : Sto} {H : Hp} {a : Addr} {xs : List V} (h : NT K s H a xs) : SqT K H a xs := by
  rcases h with ⟨_, h⟩ | h
  · exact .inl h
  · exact .inr h
theorem NL.sq {K : PySem.W.Frag} {s : Sto} {H : Hp} {a : Addr} {xs : List V} (h : NL s H a xs) : SqL K H a xs := .inl (.inl h.2)
theorem NZ.sq {K : PySem.W.Frag} {s : Sto} {H : Hp} {a : Addr} {xs : List V} (h : NZ K s H a xs) : SqL K H a xs := by
  rcases h with ⟨_, h⟩ | h
  · exact .inl (.inr h)
  · exact .inr h

mutual
/-- the value v stands for d -/
inductive Rp (K : PySem.W.Frag) (s : Sto) (H : Hp) : D → V → Prop
  | non : Rp K s H .non .non
  | bl (b : Bool) : Rp K s H (.bl b) (.bl b)
  | int (i : Int) : Rp K s H (.int i) (.int i)
  | str (x : Str) : Rp K s H (.str x) (.str x)
  | ty (n : String) : Rp K s H (.ty n) (.ty n)
  | ref (a : Addr) : Rp K s H (.ref a) (.ref a)
  | tup {a : Addr} {xs : List V} {l : List D} : NT K s H a xs → RpL K s H l xs → Rp K s H (.tup l) (.ref a)
  | lst {a : Addr} {xs : List V} {l : List D} : NL s H a xs → RpL K s H l xs → Rp K s H (.lst l) (.ref a)
  | fz {a : Addr} {xs : List V} {l : List D} : NZ K s H a xs → RpL K s H l xs → Rp K s H (.fz l) (.ref a)
  | ins {a dx C : Addr} {fs : List (Str × V)} {l : List (Str × D)} : s a = none → H a = some (.ins C dx fs) → RpF K s H l fs → Rp K s H (.ins C l) (.ref a)
inductive RpL (K : PySem.W.Frag) (s : Sto) (H : Hp) : List D → List V → Prop
  | nil : RpL K s H [] []
  | cons {d : D} {v : V} {ds : List D} {vs : List V} : Rp K s H d v → RpL K s H ds vs → RpL K s H (d :: ds) (v :: vs)
inductive RpF (K : PySem.W.Frag) (s : Sto) (H : Hp) : List (Str × D) → List (Str × V) → Prop
  | nil : RpF K s H [] []
  | cons {f : Str} {d : D} {v : V} {ds : List (Str × D)} {vs : List (Str × V)} : Rp K s H d v → RpF K s H ds vs → RpF K s H ((f, d) :: ds) ((f, v) :: vs)
end
/-- a dict's entries -/
inductive RpK (K : PySem.W.Frag) (s : Sto) (H : Hp) : List (Key × D) → List (Key × V) → Prop
  | nil : RpK K s H [] []
  | cons {k : Key} {d : D} {v : V} {ds : List (Key × D)} {vs : List (Key × V)} : Rp K s H d v → RpK K s H ds vs → RpK K s H ((k, d) :: ds) ((k, v) :: vs)

/-- what stands still between two states: all but the cells; new cells are at new places -/
structure Stp (s : Sto) (H : Hp) (s' : Sto) (H' : Hp) : Prop where
  go : ∀ a o, s a = none → H a = some o → (∀ q, o ≠ .tbl q) → s' a = none ∧ H' a = some o
theorem Stp.refl (s : Sto) (H : Hp) : Stp s H s H := ⟨fun _ _ hs h _ => ⟨hs, h⟩⟩
theorem Stp.trans {s s1 s2 : Sto} {H H1 H2 : Hp} (x : Stp s H s1 H1) (y : Stp s1 H1 s2 H2) : Stp s H s2 H2 := ⟨fun a o hs ho hq => y.go a o (x.go a o hs ho hq).1 (x.go a o hs ho hq).2 hq⟩
theorem Stp.keep {s s' : Sto} {H H' : Hp} (x : Stp s H s' H') (a : Addr) (o : HO) (hs : s a = none) (ho : H a = some o) (hq : ∀ q, o ≠ .tbl q) : H' a = some o := (x.go a o hs ho hq).2
theorem Stp.still {s s' : Sto} {H H' : Hp} (x : Stp s H s' H') {a : Addr} {o : HO} (hs : s a = none) (ho : H a = some o) (hq : ∀ q, o ≠ .tbl q) : s' a = none := (x.go a o hs ho hq).1
theorem Stp.rd {s s' : Sto} {H H' : Hp} (x : Stp s H s' H') {a : Addr} {u : HO} (hs : s a = none) (h : Rd H a u) (hq : ∀ q, u ≠ .tbl q) : s' a = none ∧ Rd H' a u := by
  rcases h with h | ⟨o, h⟩
  · exact ⟨x.still hs h hq, .inl (x.keep _ _ hs h hq)⟩
  · exact ⟨x.still hs h (fun q z => nomatch z), .inr ⟨o, x.keep _ _ hs h (fun q z => nomatch z)⟩⟩
section
variable {K : PySem.W.Frag} {s s' : Sto} {H H' : Hp}
theorem NT.stp (x : Stp s H s' H') {a : Addr} {xs : List V} (h : NT K s H a xs) : NT K s' H' a xs := by
  rcases h with ⟨hs, h⟩ | h
  · exact .inl (x.rd hs h (fun q z => nomatch z))
  · exact .inr h
theorem NL.stp (x : Stp s H s' H') {a : Addr} {xs : List V} (h : NL s H a xs) : NL s' H' a xs := ⟨x.still h.1 h.2 (fun q z => nomatch z), x.keep _ _ h.1 h.2 (fun q z => nomatch z)⟩
theorem NZ.stp (x : Stp s H s' H') {a : Addr} {xs : List V} (h : NZ K s H a xs) : NZ K s' H' a xs := by
  rcases h with ⟨hs, o, ho⟩ | h
  · exact .inl ⟨x.still hs ho (fun q z => nomatch z), o, x.keep _ _ hs ho (fun q z => nomatch z)⟩
  · exact .inr h
mutual
theorem Rp.stp (x : Stp s H s' H') : ∀ {d : D} {v : V}, Rp K s H d v → Rp K s' H' d v
  | _, _, .non => .non
  | _, _, .bl b => .bl b
  | _, _, .int i => .int i
  | _, _, .str y => .str y
  | _, _, .ty n => .ty n
  | _, _, .ref a => .ref a
  | _, _, .tup h r => .tup (h.stp x) (RpL.stp x r)
  | _, _, .lst h r => .lst (h.stp x) (RpL.stp x r)
  | _, _, .fz h r => .fz (h.stp x) (RpL.stp x r)
  | _, _, .ins hs h r => .ins (x.still hs h (fun q z => nomatch z)) (x.keep _ _ hs h (fun q z => nomatch z)) (RpF.stp x r)
theorem RpL.stp (x : Stp s H s' H') : ∀ {d : List D} {v : List V}, RpL K s H d v → RpL K s' H' d v
  | _, _, .nil => .nil
  | _, _, .cons h r => .cons (Rp.stp x h) (RpL.stp x r)
theorem RpF.stp (x : Stp s H s' H') : ∀ {d : List (Str × D)} {v : List (Str × V)}, RpF K s H d v → RpF K s' H' d v
  | _, _, .nil => .nil
  | _, _, .cons h r => .cons (Rp.stp x h) (RpF.stp x r)
end
theorem RpK.stp (x : Stp s H s' H') : ∀ {d : List (Key × D)} {v : List (Key × V)}, RpK K s H d v → RpK K s' H' d v
  | _, _, .nil => .nil
  | _, _, .cons h r => .cons (h.stp x) (RpK.stp x r)
theorem RpL.length : ∀ {ds : List D} {vs : List V}, RpL K s H ds vs → ds.length = vs.length
  | _, _, .nil => rfl
  | _, _, .cons _ r => congrArg (· + 1) (RpL.length r)
theorem RpF.length : ∀ {ds : List (Str × D)} {vs : List (Str × V)}, RpF K s H ds vs → ds.length = vs.length
  | _, _, .nil => rfl
  | _, _, .cons _ r => congrArg (· + 1) (RpF.length r)
theorem RpK.length : ∀ {ds : List (Key × D)} {vs : List (Key × V)}, RpK K s H ds vs → ds.length = vs.length
  | _, _, .nil => rfl
  | _, _, .cons _ r => congrArg (· + 1) (RpK.length r)
theorem RpL.get : ∀ {ds : List D} {vs : List V} {i : Nat} {d : D}, RpL K s H ds vs → ds[i]? = some d → ∃ v, vs[i]? = some v ∧ Rp K s H d v
  | _, _, _, _, .nil,
      e => by simp at e
  | _, _, 0, _, .cons h _, e => by
    simp at e
    subst e
    exact ⟨_, rfl, h⟩
  | _, _, i + 1, d, .cons _ r, e => by
    obtain ⟨v, h1, h2⟩ := RpL.get (i := i) (d := d) r (by simpa using e)
    exact ⟨v, by simpa using h1, h2⟩
theorem RpL.append : ∀ {ds es : List D} {vs ws : List V}, RpL K s H ds vs → RpL K s H es ws → RpL K s H (ds ++ es) (vs ++ ws)
  | _, _, _, _, .nil, r => r
  | _, _, _, _, .cons h t, r => .cons h (RpL.append t r)
theorem RpL.one {d : D} {v : V} (h : Rp K s H d v) : RpL K s H [d] [v] := .cons h .nil
theorem RpL.take : ∀ {ds : List D} {vs : List V} (n : Nat), RpL K s H ds vs → RpL K s H (ds.take n) (vs.take n)
  | _, _, 0, _ => .nil
  | _, _, _ + 1, .nil => .nil
  | _, _, n + 1, .cons h r => .cons h (RpL.take n r)
theorem RpL.drop : ∀ {ds : List D} {vs : List V} (n : Nat), RpL K s H ds vs → RpL K s H (ds.drop n) (vs.drop n)
  | _, _, 0, r => r
  | _, _, _ + 1, .nil => .nil
  | _, _, n + 1, .cons _ r => RpL.drop n r
theorem RpL.set {d : D} {v : V} (h : Rp K s H d v) : ∀ {ds : List D} {vs : List V} (n : Nat), RpL K s H ds vs → RpL K s H (ds.set n d) (vs.set n v)
  | _, _, _, .nil => .nil
  | _, _, 0, .cons _ r => .cons h r
  | _, _, n + 1, .cons q r => .cons q (RpL.set h n r)
theorem RpL.eraseIdx : ∀ {ds : List D} {vs : List V} (n : Nat), RpL K s H ds vs → RpL K s H (ds.eraseIdx n) (vs.eraseIdx n)
  | _, _, _, .nil => .nil
  | _, _, 0, .cons _ r => r
  | _, _, n + 1, .cons q r => .cons q (RpL.eraseIdx n r)
theorem RpF.lookup : ∀ {ds : List (Str × D)} {vs : List (Str × V)} {f : Str} {d : D}, RpF K s H ds vs → ds.lookup f = some d → ∃ v, vs.lookup f = some v ∧ Rp K s H d v
  | _, _, _, _, .nil, e => by cases e
  | _, _, f, d, .cons (f := g) (d := d') (v := v') h r, e => by
    rw [List.lookup_cons] at e ⊢
    cases q : f == g with
    | true =>
      rw [q] at e
      cases e
      exact ⟨v', rfl, h⟩
    | false =>
      rw [q] at e
      exact RpF.lookup r e
theorem RpF.lookup_none : ∀ {ds : List (Str × D)} {vs : List (Str × V)} {f : Str}, RpF K s H ds vs → ds.lookup f = none → vs.lookup f = none
  | _, _, _, .nil, _ => rfl
  | _, _, f, .cons (f := g) h r, e => by
    rw [List.lookup_cons] at e ⊢
    cases q : f == g with
    | true =>
      rw [q] at e
      cases e
    | false =>
      rw [q] at e
      exact RpF.lookup_none r e
end
/-- the same, of data -/
def putD (f : Str) (d : D) : List (Str × D) → List (Str × D)
  | [] => [(f, d)]
  | (g, e) :: r => if g = f then (g, d) :: r else (g, e) :: putD f d r
end G

/-! GLay2: the lifts, the judgements over data, expressions. -/
namespace G
open PySem
open PySem.Spec PyProof.Rows L2

def CellAt (K : PySem.W.Frag) (s : Sto) (H : Hp) (a : Addr) : Cell → Prop
  | .lst ds => ∃ xs, H a = some (.lst xs) ∧ RpL K s H ds xs
  | .dK kvs => ∃ ys, H a = some (.dK ys) ∧ RpK K s H kvs ys
  | .ins C fs => ∃ dx ys, H a = some (.ins C dx ys) ∧ RpF K s H fs ys
  | .tab q => ∃ ps, H a = some (.tbl ps) ∧ TriplesOk ps.toList ∧ ∀ (pos : Pos) (cv : Value), codeAmong pos ps.toList = some cv → ∃ c, cv = .ref c ∧ s c = none ∧ H c = some (LamX.CodeO c q)
def Cells (K : PySem.W.Frag) (s : Sto) (H : Hp) : Prop := ∀ a c, s a = some c → CellAt K s H a c
theorem CellAt.stp {K : PySem.W.Frag} {s s' : Sto} {H H' : Hp} (x : Stp s H s' H') {a : Addr} (e : H' a = H a) : ∀ {c : Cell}, CellAt K s H a c → CellAt K s' H' a c
  | .lst _, ⟨xs, h, r⟩ => ⟨xs, e.trans h, r.stp x⟩
  | .dK _, ⟨ys, h, r⟩ => ⟨ys, e.trans h, r.stp x⟩
  | .ins _ _, ⟨dx, ys, h, r⟩ => ⟨dx, ys, e.trans h, r.stp x⟩
  | .tab _, ⟨ps, h, r, t⟩ => ⟨ps, e.trans h, r, fun pos cv hc => by
    obtain ⟨c, e1, e2, e3⟩ := t pos cv hc
    exact ⟨c, e1, x.still e2 e3 (fun q => LamX.codeO_ne q), x.keep _ _ e2 e3 (fun q => LamX.codeO_ne q)⟩⟩
theorem CellAt.there {K : PySem.W.Frag} {s : Sto} {H : Hp} {a : Addr} : ∀ {c : Cell}, CellAt K s H a c → ∃ o, H a = some o
  | .lst _, ⟨xs, h, _⟩ => ⟨_, h⟩
  | .dK _, ⟨ys, h, _⟩ => ⟨_, h⟩
  | .ins _ _, ⟨dx, ys, h, _⟩ => ⟨_, h⟩
  | .tab _, ⟨ps, h, _⟩ => ⟨_, h⟩
section
variable {K : PySem.W.Frag} {s s' : Sto} {H H' : Hp} {a : Addr}
theorem Cells.free (h : Cells K s H) (hn : H a = none) : s a = none := by
  cases e : s a with
  | none => rfl
  | some c =>
    obtain ⟨o, q⟩ := (h a c e).there
    rw [hn] at q
    cases q
/-- a new object that is no cell -/
theorem stp_new {o : HO} (hn : H a = none) : Stp s H s (upd H a o) :=
  ⟨fun b u hs e _ => ⟨hs, by
    rw [upd_ne (ne_of_none e hn)]
    exact e⟩⟩
theorem cells_new {o : HO} (h : Cells K s H) (hn : H a = none) : Cells K s (upd H a o) := fun b c e => by
  obtain ⟨u, q⟩ := (h b c e).there
  exact (h b c e).stp (stp_new hn) (upd_ne (ne_of_none q hn))
/-- a new cell -/
theorem stp_cell {o : HO} {c : Cell} (hn : H a = none) : Stp s H (supd s a c) (upd H a o) :=
  ⟨fun b u hs e _ => ⟨by
    rw [supd_ne (ne_of_none e hn)]
    exact hs, by
    rw [upd_ne (ne_of_none e hn)]
    exact e⟩⟩
theorem cells_cell {o : HO} {c : Cell} (h : Cells K s H) (hn : H a = none) (hc : CellAt K (supd s a c) (upd H a o) a c) : Cells K (supd s a c) (upd H a o) := fun b e hb => by
  by_cases q : b = a
  · rw [q, supd_same] at hb
    cases hb
    rw [q]
    exact hc
  · rw [supd_ne q] at hb
    exact (h b e hb).stp (stp_cell hn) (upd_ne q)
/-- a cell is written -/
theorem stp_put {o : HO} {c c0 : Cell} (hs : s a = some c0) : Stp s H (supd s a c) (upd H a o) :=
  ⟨fun b u hb e _ => by
    have q : b ≠ a := fun z => by
      rw [z, hs] at hb
      cases hb
    rw [upd_ne q, supd_ne q]
    exact ⟨hb, e⟩⟩
theorem cells_put {o : HO} {c c0 : Cell} (h : Cells K s H) (hs : s a = some c0) (hc : CellAt K (supd s a c) (upd H a o) a c) : Cells K (supd s a c) (upd H a o) := fun b e hb => by
  by_cases q : b = a
  · rw [q, supd_same] at hb
    cases hb
    rw [q]
    exact hc
  · rw [supd_ne q] at hb
    exact (h b e hb).stp (stp_put hs) (upd_ne q)
/-- a cell stands still from now on -/
theorem stp_del : Stp s H (sdel s a) H :=
  ⟨fun b o hs h _ => ⟨by
    by_cases e : b = a
    · rw [e, sdel_same]
    · rw [sdel_ne e]
      exact hs, h⟩⟩
theorem cells_del (h : Cells K s H) : Cells K (sdel s a) H := fun b c hb => by
  by_cases q : b = a
  · rw [q, sdel_same] at hb
    cases hb
  · rw [sdel_ne q] at hb
    exact (h b c hb).stp stp_del rfl
/-- the data that a cell holds -/
def frz : Cell → Option D
  | .lst l => some (.lst l)
  | .ins C l => some (.ins C l)
  | .dK _ => none
  | .tab _ => none
theorem rp_frz {c : Cell} {d : D} (h : Cells K s H) (hs : s a = some c) (e : frz c = some d) : Rp K (sdel s a) H d (.ref a) := by
  have q := (h a c hs).stp (K := K) (stp_del (H := H) (a := a)) rfl
  cases c with
  | lst l =>
    cases e
    obtain ⟨xs, h1, r⟩ := q
    exact .lst ⟨sdel_same, h1⟩ r
  | ins C l =>
    cases e
    obtain ⟨dx, ys, h1, r⟩ := q
    exact .ins sdel_same h1 r
  | dK _ => cases e
  | tab _ => cases e
end

/-! ### slots -/
abbrev Rho := List (Option D)
def sg : Rho → Nat → Option D
  | [], _ => none
  | x :: _, 0 => x
  | _ :: r, n + 1 => sg r n
def ss : Rho → Nat → Option D → Rho
  | [], _, _ => []
  | _ :: r, 0, y => y :: r
  | x :: r, n + 1, y => x :: ss r n y
theorem ss_length : ∀ (ρ : Rho) (i : Nat) (y : Option D), (ss ρ i y).length = ρ.length
  | [], _, _ => rfl
  | _ :: _, 0, _ => rfl
  | _ :: r, n + 1, y => congrArg (· + 1) (ss_length r n y)
theorem sg_ss : ∀ (ρ : Rho) (i j : Nat) (y : Option D), sg (ss ρ i y) j = if i = j ∧ i < ρ.length then y else sg ρ j
  | [], i, j, y => by
    rw [if_neg (fun z => absurd z.2 (Nat.not_lt_zero i))]
    rfl
  | x :: r, 0, 0, y => by
    rw [if_pos ⟨rfl, Nat.zero_lt_succ _⟩]
    rfl
  | x :: r, 0, j + 1, y => by
    rw [if_neg (fun z => by cases z.1)]
    rfl
  | x :: r, i + 1, 0, y => by
    rw [if_neg (fun z => by cases z.1)]
    rfl
  | x :: r, i + 1, j + 1, y => by
    show sg (ss r i y) j = _
    rw [sg_ss r i j y]
    by_cases h : i = j ∧ i < r.length
    · rw [if_pos h, if_pos ⟨congrArg (· + 1) h.1, Nat.succ_lt_succ h.2⟩]
    · rw [if_neg h, if_neg (fun z => h ⟨Nat.succ.inj z.1, Nat.lt_of_succ_lt_succ z.2⟩)]
      rfl
structure RS (K : PySem.W.Frag) (H : Hp) (s : Sto) (σ : L2.St) (ρ : Rho) : Prop where
  len : σ.length = ρ.length
  dat : ∀ i d, sg ρ i = some d → ∃ v, σ[i]? = some (some v) ∧ Rp K s H d v
  cel : Cells K s H
section
variable {K : PySem.W.Frag} {s s' : Sto} {H H' : Hp} {σ : L2.St} {ρ : Rho}
theorem RS.stp (r : RS K H s σ ρ) (x : Stp s H s' H') (c : Cells K s' H') : RS K H' s' σ ρ :=
  ⟨r.len, fun i d e => by
    obtain ⟨v, h1, h2⟩ := r.dat i d e
    exact ⟨v, h1, h2.stp x⟩, c⟩
theorem RS.set (r : RS K H s σ ρ) {d : D} {v : V} (h : Rp K s H d v) (i : Nat) : RS K H s (σ.set i (some v)) (ss ρ i (some d)) := by
  refine ⟨by rw [List.length_set, ss_length, r.len], fun j e hj => ?_, r.cel⟩
  rw [sg_ss] at hj
  by_cases q : i = j ∧ i < ρ.length
  · rw [if_pos q] at hj
    cases hj
    refine ⟨v, ?_, h⟩
    rw [← q.1, List.getElem?_set_self (by rw [r.len]; exact q.2)]
  · rw [if_neg q] at hj
    obtain ⟨w, h1, h2⟩ := r.dat j e hj
    refine ⟨w, ?_, h2⟩
    by_cases z : i = j
    · have hl : ¬ i < σ.length := fun h3 => q ⟨z, by rw [← r.len]; exact h3⟩
      rw [← z] at h1
      rw [List.getElem?_eq_none (Nat.le_of_not_lt hl)] at h1
      cases h1
    · rw [List.getElem?_set_ne z]
      exact h1
theorem RS.forget (r : RS K H s σ ρ) (i : Nat) : RS K H s (σ.set i none) (ss ρ i none) := by
  refine ⟨by rw [List.length_set, ss_length, r.len], fun j e hj => ?_, r.cel⟩
  rw [sg_ss] at hj
  by_cases q : i = j ∧ i < ρ.length
  · rw [if_pos q] at hj
    cases hj
  · rw [if_neg q] at hj
    obtain ⟨w, h1, h2⟩ := r.dat j e hj
    refine ⟨w, ?_, h2⟩
    by_cases z : i = j
    · have hl : ¬ i < σ.length := fun h3 => q ⟨z, by rw [← r.len]; exact h3⟩
      rw [← z] at h1
      rw [List.getElem?_eq_none (Nat.le_of_not_lt hl)] at h1
      cases h1
    · rw [List.getElem?_set_ne z]
      exact h1
end

/-! ### readings over data -/
abbrev DQ := D → Sto → Prop
/-- an exception: its class, its fields -/
abbrev XC := Addr → List (Str × D) → Sto → Prop
abbrev DE := Rho → Sto → DQ → XC → Prop
abbrev DA := Rho → Sto → (List D → Sto → Prop) → XC → Prop
abbrev DT := Rho → Sto → (Bool → Sto → Prop) → XC → Prop
structure DEnds where
  nx : Rho → Sto → Prop
  rt : DQ
  xc : XC
  bk : Rho → Sto → Prop := fun _ _ => False
  ct : Rho → Sto → Prop := fun _ _ => False
abbrev DS := DEnds → Rho → Sto → Prop

def XdOk (K : PySem.W.Frag) (s : Sto) (H : Hp) (dd : Addr) (fs : List (Str × D)) : Prop := ∃ ys, H dd = some (.xd ys) ∧ RpF K s H fs ys
def XL (K : PySem.W.Frag) (s : Sto) (H : Hp) (E : XK) : XC := fun C fs s' => ∀ dd H', Stp s H s' H' → Cells K s' H' → XdOk K s' H' dd fs → E (.ref C) (some dd) H'
/-- what is wanted behind, as the hand layer's ends want it -/
def QL (K : PySem.W.Frag) (s : Sto) (H : Hp) (Q : VK) : DQ := fun d s' => ∀ v H', Stp s H s' H' → Cells K s' H' → Rp K s' H' d v → Q v H'
def AL (K : PySem.W.Frag) (s : Sto) (H : Hp) (Q : List V → Hp → Prop) : List D → Sto → Prop := fun ds s' => ∀ vs H', Stp s H s' H' → Cells K s' H' → RpL K s' H' ds vs → Q vs H'
def TL (K : PySem.W.Frag) (s : Sto) (H : Hp) (Q : Bool → Hp → Prop) : Bool → Sto → Prop := fun b s' => ∀ H', Stp s H s' H' → Cells K s' H' → Q b H'
def SL (K : PySem.W.Frag) (s : Sto) (H : Hp) (P : L2.St → Hp → Prop) : Rho → Sto → Prop := fun ρ' s' => ∀ σ' H', Stp s H s' H' → RS K H' s' σ' ρ' → P σ' H'
def liftE (K : PySem.W.Frag) (E : XK) (t : DE) : TE := fun σ H Q => ∃ ρ s, RS K H s σ ρ ∧ t ρ s (QL K s H Q) (XL K s H E)
def liftA (K : PySem.W.Frag) (E : XK) (t : DA) : TA := fun σ H Q => ∃ ρ s, RS K H s σ ρ ∧ t ρ s (AL K s H Q) (XL K s H E)
def liftT (K : PySem.W.Frag) (E : XK) (t : DT) : TT := fun σ H Q => ∃ ρ s, RS K H s σ ρ ∧ t ρ s (TL K s H Q) (XL K s H E)
def endsL (K : PySem.W.Frag) (E : XK) (s : Sto) (H : Hp) (D : Ends) : DEnds := ⟨SL K s H D.nx, QL K s H D.rt, XL K s H E, SL K s H D.bk, SL K s H D.ct⟩
def liftS (K : PySem.W.Frag) (E : XK) (t : DS) : TS := fun D σ H => ∃ ρ s, RS K H s σ ρ ∧ t (endsL K E s H D) ρ s
section
variable {K : PySem.W.Frag} {E : XK} {s s' : Sto} {H H' : Hp}
theorem QL.stp {Q : VK} (x : Stp s H s' H') {d : D} {s2 : Sto} (h : QL K s H Q d s2) : QL K s' H' Q d s2 := fun v H2 y c r => h v H2 (x.trans y) c r
theorem XL.stp (x : Stp s H s' H') {C : Addr} {fs : List (Str × D)} {s2 : Sto} (h : XL K s H E C fs s2) : XL K s' H' E C fs s2 := fun dd H2 y c r => h dd H2 (x.trans y) c r
theorem SL.stp {P : L2.St → Hp → Prop} (x : Stp s H s' H') {ρ : Rho} {s2 : Sto} (h : SL K s H P ρ s2) : SL K s' H' P ρ s2 := fun σ2 H2 y r => h σ2 H2 (x.trans y) r
end

/-! ### monotone -/
def MoE (t : DE) : Prop := ∀ ρ s (Q Q' : DQ) (Z Z' : XC), (∀ d s', Q d s' → Q' d s') → (∀ C fs s', Z C fs s' → Z' C fs s') → t ρ s Q Z → t ρ s Q' Z'
def MoA (t : DA) : Prop := ∀ ρ s (Q Q' : List D → Sto → Prop) (Z Z' : XC), (∀ d s', Q d s' → Q' d s') → (∀ C fs s', Z C fs s' → Z' C fs s') → t ρ s Q Z → t ρ s Q' Z'
def MoT (t : DT) : Prop := ∀ ρ s (Q Q' : Bool → Sto → Prop) (Z Z' : XC), (∀ d s', Q d s' → Q' d s') → (∀ C fs s', Z C fs s' → Z' C fs s') → t ρ s Q Z → t ρ s Q' Z'
structure LeD (K K' : DEnds) : Prop where
  nx : ∀ ρ s, K.nx ρ s → K'.nx ρ s
  rt : ∀ d s, K.rt d s → K'.rt d s
  xc : ∀ C fs s, K.xc C fs s → K'.xc C fs s
  bk : ∀ ρ s, K.bk ρ s → K'.bk ρ s
  ct : ∀ ρ s, K.ct ρ s → K'.ct ρ s
def MoS (t : DS) : Prop := ∀ K K' ρ s, LeD K K' → t K ρ s → t K' ρ s

/-! ### the judgements -/
structure PD (X : Cx) (E : XK) (e : Expr) (t : DE) : Prop where
  mo : MoE t
  run : PE X e (liftE X.K E t)
structure PDA (X : Cx) (E : XK) (es : List Expr) (t : DA) : Prop where
  mo : MoA t
  run : PA X es (liftA X.K E t)
structure PDT (X : Cx) (E : XK) (e : Expr) (t : DT) : Prop where
  mo : MoT t
  run : PT X e (liftT X.K E t)
/-- a chain of and, or -/
structure PDW (X : Cx) (E : XK) (e : Expr) (t : DT) : Prop where
  mo : MoT t
  run : PW X e (liftT X.K E t)
structure PDS (X : Cx) (E : XK) (st : Stmt) (t : DS) : Prop where
  mo : MoS t
  run : PS X st (liftS X.K E t)
structure PDSs (X : Cx) (E : XK) (st : List Stmt) (t : DS) : Prop where
  mo : MoS t
  run : PSs X st (liftS X.K E t)
theorem PDW.t {X : Cx} {E : XK} {e : Expr} {t : DT} (h : PDW X E e t) : PDT X E e t := ⟨h.mo, h.run.pt⟩

theorem pe_weak {X : Cx} {e : Expr} {t t' : TE} (h : PE X e t) (k : ∀ σ H Q, t' σ H Q → t σ H Q) : PE X e t' := ⟨fun pins s σ H Q I w => h.run pins s σ H Q I (k σ H Q w)⟩
theorem pa_weak {X : Cx} {e : List Expr} {t t' : TA} (h : PA X e t) (k : ∀ σ H Q, t' σ H Q → t σ H Q) : PA X e t' := ⟨fun pos pins s σ H Q I w => h.run pos pins s σ H Q I (k σ H Q w)⟩
theorem pt_weak {X : Cx} {e : Expr} {t t' : TT} (h : PT X e t) (k : ∀ σ H Q, t' σ H Q → t σ H Q) : PT X e t' := ⟨fun pins s σ H Q I w => h.run pins s σ H Q I (k σ H Q w)⟩
theorem pw_weak {X : Cx} {e : Expr} {t t' : TT} (h : PW X e t) (k : ∀ σ H Q, t' σ H Q → t σ H Q) : PW X e t' := ⟨fun wh pins s σ H Q I w => h.run wh pins s σ H Q I (k σ H Q w)⟩
theorem ps_weak {X : Cx} {e : Stmt} {t t' : TS} (h : PS X e t) (k : ∀ D σ H, t' D σ H → t D σ H) : PS X e t' := ⟨fun pins s σ H D I w => h.run pins s σ H D I (k D σ H w)⟩
theorem pss_weak {X : Cx} {e : List Stmt} {t t' : TS} (h : PSs X e t) (k : ∀ D σ H, t' D σ H → t D σ H) : PSs X e t' := ⟨fun pins s σ H D I w => h.run pins s σ H D I (k D σ H w)⟩

/-! ### names, constants -/
def dC (d : D) : DE := fun _ s Q _ => Q d s
theorem mo_C {d : D} : MoE (dC d) := fun _ _ _ _ _ _ h _ q => h _ _ q
theorem lift_C {K : PySem.W.Frag} {E : XK} {d : D} {v : V} (r : ∀ s H, Rp K s H d v) : ∀ σ H Q, liftE K E (dC d) σ H Q → tC v σ H Q := fun σ H Q ⟨ρ, s, rs, q⟩ => q v H (Stp.refl s H) rs.cel (r s H)
section
variable {X : Cx} {E : XK}
theorem pd_int {i : Int} {j pos} : PD X E (.Constant (.int i) j pos) (dC (.int i)) := ⟨mo_C, pe_weak pe_int (lift_C fun _ _ => .int i)⟩
theorem pd_bl {b : Bool} {j pos} : PD X E (.Constant (.bool b) j pos) (dC (.bl b)) := ⟨mo_C, pe_weak pe_bl (lift_C fun _ _ => .bl b)⟩
theorem pd_non {j pos} : PD X E (.Constant .none j pos) (dC .non) := ⟨mo_C, pe_weak pe_non (lift_C fun _ _ => .non)⟩
theorem pd_str {x : Str} {j pos} : PD X E (.Constant (.str x) j pos) (dC (.str x)) := ⟨mo_C, pe_weak pe_str (lift_C fun _ _ => .str x)⟩
/-- a module's constant -/
theorem pd_glob {x : Str} {d : D} {v : V} {u : Value} {pos : Pos} (hg : Gl X x) (hm : X.mg x = some u) (r : RelV v u) (hr : ∀ s H, Rp X.K s H d v) (hd : (x == ("__debug__" : Str)) = false := by decide) : PD X E (.Name x pos) (dC d) :=
  ⟨mo_C, pe_weak (pe_glob hg hm r hd) (lift_C hr)⟩
theorem pd_bltn {x : Str} {n : String} {pos : Pos} (hg : Gl X x) (hm : X.mg x = none) (hv : bootBuiltins x = some (.type n)) (hn : x ≠ "__name__" := by decide) (hd : (x == ("__debug__" : Str)) = false := by decide) : PD X E (.Name x pos) (dC (.ty n)) :=
  ⟨mo_C, pe_weak (pe_bltn (v := .ty n) hg hm hv rfl hn hd) (lift_C fun _ _ => .ty n)⟩
def dV (i : Nat) : DE := fun ρ s Q _ => match sg ρ i with
  | some d => Q d s
  | none => False
theorem mo_V {i : Nat} : MoE (dV i) := fun ρ s Q Q' Z Z' h _ q => by
  unfold dV at q ⊢
  split at q
  · exact h _ _ q
  · exact q
theorem pd_v (i : Nat) {x : Str} {pos : Pos} (hN : X.N[i]? = some x := by rfl) (hv : Vis X.env.scope x := by first | exact Or.inl rfl | exact Or.inr (Or.inl rfl) | exact Or.inr (Or.inr rfl)) (hd : (x == ("__debug__" : Str)) = false := by decide)
    (hcd : (x == ("__classdict__" : Str)) = false := by decide) : PD X E (.Name x pos) (dV i) := ⟨mo_V, pe_weak (pe_var hN hv hd hcd) fun σ H Q hq => by
  obtain ⟨ρ, s, rs, q⟩ := hq
  unfold dV at q
  split at q
  · rename_i d e
    obtain ⟨v, h1, h2⟩ := rs.dat i d e
    exact ⟨v, h1, q v H (Stp.refl s H) rs.cel h2⟩
  · exact q.elim⟩

/-! ### operators of two -/
/-- an operation on data, by its rule on values -/
abbrev RD := D → D → Sto → DQ → Prop
def OpD (K : PySem.W.Frag) (r : R2) (rd : RD) : Prop := ∀ (s : Sto) (H : Hp) (x y : V) (dx dy : D) (Q : VK), Cells K s H → Rp K s H dx x → Rp K s H dy y → rd dx dy s (QL K s H Q) → r x y H Q
def MoR (rd : RD) : Prop := ∀ x y s (Q Q' : DQ), (∀ d s', Q d s' → Q' d s') → rd x y s Q → rd x y s Q'
def dOp (rd : RD) (ta tb : DE) : DE := fun ρ s Q Z => ta ρ s (fun x s1 => tb ρ s1 (fun y s2 => rd x y s2 Q) Z) Z
theorem mo_op {rd : RD} {ta tb : DE} (hr : MoR rd) (ha : MoE ta) (hb : MoE tb) : MoE (dOp rd ta tb) := fun ρ s Q Q' Z Z' h hz q =>
  ha ρ s _ _ Z Z' (fun x s1 q1 => hb ρ s1 _ _ Z Z' (fun y s2 q2 => hr x y s2 Q Q' h q2) hz q1) hz q
theorem lift_op {K : PySem.W.Frag} {r : R2} {rd : RD} {ta tb : DE} (hd : OpD K r rd) (ha : MoE ta) (hb : MoE tb) (hr : MoR rd) : ∀ σ H Q, liftE K E (dOp rd ta tb) σ H Q → tOp r (liftE K E ta) (liftE K E tb) σ H Q := fun σ H Q ⟨ρ, s, rs, q⟩ => by
  refine ⟨ρ, s, rs, ha ρ s _ _ _ _ (fun x s1 q1 => ?_) (fun _ _ _ z => z) q⟩
  intro v H1 st c rv
  refine ⟨ρ, s1, rs.stp st c, hb ρ s1 _ _ _ _ (fun y s2 q2 => ?_) (fun _ _ _ z => XL.stp st z) q1⟩
  intro w H2 st2 c2 rw'
  exact hd s2 H2 v w x y Q c2 (rv.stp st2) rw' (hr x y s2 _ _ (fun d s' z => z.stp (st.trans st2)) q2)
theorem pd_op {op : Operator} {r : R2} {rd : RD} {a b : Expr} {ta tb : DE} {pos : Pos} (ho : OpR X (binaryOp op) r) (hd : OpD X.K r rd) (hm : MoR rd) (ha : PD X E a ta) (hb : PD X E b tb) : PD X E (.BinOp a op b pos) (dOp rd ta tb) :=
  ⟨mo_op hm ha.mo hb.mo, pe_weak (pe_op ho ha.run hb.run) (lift_op hd ha.mo hb.mo hm)⟩
theorem pd_cmp {op : CmpOp} {r : R2} {rd : RD} {a b : Expr} {ta tb : DE} {pos : Pos} (ho : OpR X (compareOp op) r) (hd : OpD X.K r rd) (hm : MoR rd) (ha : PD X E a ta) (hb : PD X E b tb) (hk : behindInMarks op b = false) : PD X E (.Compare a [op] [b] pos) (dOp rd ta tb) :=
  ⟨mo_op hm ha.mo hb.mo, pe_weak (pe_cmpR ho ha.run hb.run hk) (lift_op hd ha.mo hb.mo hm)⟩

/-! ### tests -/
/-- a value that is a bool, as a test -/
def dB (t : DE) : DT := fun ρ s Q Z => t ρ s (fun d s' => match d with
  | .bl b => Q b s'
  | _ => False) Z
theorem mo_B {t : DE} (h : MoE t) : MoT (dB t) := fun ρ s Q Q' Z Z' hq hz q => h ρ s _ _ Z Z' (fun d s' q1 => by
  cases d with
  | bl b => exact hq b s' q1
  | _ => exact q1) hz q
theorem pd_cmpT {op : CmpOp} {r : R2} {rd : RD} {a b : Expr} {ta tb : DE} {pos : Pos} (ho : OpR X (compareOp op) r) (hd : OpD X.K r rd) (hm : MoR rd) (ha : PD X E a ta) (hb : PD X E b tb) (hk : behindInMarks op b = false) : PDT X E (.Compare a [op] [b] pos) (dB (dOp rd ta tb)) :=
  ⟨mo_B (mo_op hm ha.mo hb.mo), pt_weak (pt_cmpR ho ha.run hb.run hk) fun σ H Q ⟨ρ, s, rs, q⟩ => by
    have q' : liftE X.K E (dOp rd ta tb) σ H fun x H' => ∃ k, x = .bl k ∧ Q k H' := ⟨ρ, s, rs, mo_op hm ha.mo hb.mo ρ s _ _ _ _ (fun d s' z => by
      intro v H' st c rv
      cases d with
      | bl b =>
        cases rv
        exact ⟨b, rfl, z H' st c⟩
      | _ => exact z.elim) (fun _ _ _ z => z) q⟩
    exact lift_op hd ha.mo hb.mo hm σ H _ q'⟩
theorem pd_valT {e : Expr} {t : DE} (h : PD X E e t) (he : ∀ whole, isTrue e X.env whole = (do let v ← whole; standAt e.pos; holding [v] (truthy v)) := by intro _; rfl) : PDT X E e (dB t) :=
  ⟨mo_B h.mo, pt_weak (pt_val h.run he) fun σ H Q ⟨ρ, s, rs, q⟩ => ⟨ρ, s, rs, h.mo ρ s _ _ _ _ (fun d s' z => by
      intro v H' st c rv
      cases d with
      | bl b =>
        cases rv
        exact ⟨b, rfl, z H' st c⟩
      | _ => exact z.elim) (fun _ _ _ z => z) q⟩⟩
def dAnd (t u : DT) : DT := fun ρ s Q Z => t ρ s (fun b s1 => match b with
  | true => u ρ s1 Q Z
  | false => Q false s1) Z
def dOr (t u : DT) : DT := fun ρ s Q Z => t ρ s (fun b s1 => match b with
  | true => Q true s1
  | false => u ρ s1 Q Z) Z
def dNot (t : DT) : DT := fun ρ s Q Z => t ρ s (fun b s1 => Q (!b) s1) Z
theorem mo_and {t u : DT} (h : MoT t) (k : MoT u) : MoT (dAnd t u) := fun ρ s Q Q' Z Z' hq hz q => h ρ s _ _ Z Z' (fun b s1 q1 => by
  cases b with
  | true => exact k ρ s1 Q Q' Z Z' hq hz q1
  | false => exact hq _ _ q1) hz q
theorem mo_or {t u : DT} (h : MoT t) (k : MoT u) : MoT (dOr t u) := fun ρ s Q Q' Z Z' hq hz q => h ρ s _ _ Z Z' (fun b s1 q1 => by
  cases b with
  | false => exact k ρ s1 Q Q' Z Z' hq hz q1
  | true => exact hq _ _ q1) hz q
theorem mo_not {t : DT} (h : MoT t) : MoT (dNot t) := fun ρ s Q Q' Z Z' hq hz q => h ρ s _ _ Z Z' (fun b s1 q1 => hq _ _ q1) hz q
theorem lift_and {K : PySem.W.Frag} {t u : DT} (h : MoT t) (k : MoT u) : ∀ σ H Q, liftT K E (dAnd t u) σ H Q → tAnd (liftT K E t) (liftT K E u) σ H Q := fun σ H Q ⟨ρ, s, rs, q⟩ => ⟨ρ, s, rs, h ρ s _ _ _ _ (fun b s1 q1 => by
  intro H1 st c
  cases b with
  | true =>
    rw [if_pos rfl]
    exact ⟨ρ, s1, rs.stp st c, k ρ s1 _ _ _ _ (fun b2 s2 q2 H2 st2 c2 => q2 H2 (st.trans st2) c2) (fun _ _ _ z => XL.stp st z) q1⟩
  | false =>
    rw [if_neg
        Bool.false_ne_true]
    exact q1 H1 st c) (fun _ _ _ z => z) q⟩
theorem lift_or {K : PySem.W.Frag} {t u : DT} (h : MoT t) (k : MoT u) : ∀ σ H Q, liftT K E (dOr t u) σ H Q → tOr (liftT K E t) (liftT K E u) σ H Q := fun σ H Q ⟨ρ, s, rs, q⟩ => ⟨ρ, s, rs, h ρ s _ _ _ _ (fun b s1 q1 => by
  intro H1 st c
  cases b with
  | false =>
    rw [if_neg
        Bool.false_ne_true]
    exact ⟨ρ, s1, rs.stp st c, k ρ s1 _ _ _ _ (fun b2 s2 q2 H2 st2 c2 => q2 H2 (st.trans st2) c2) (fun _ _ _ z => XL.stp st z) q1⟩
  | true =>
    rw [if_pos rfl]
    exact q1 H1 st c) (fun _ _ _ z => z) q⟩
theorem lift_not {K : PySem.W.Frag} {t : DT} (h : MoT t) : ∀ σ H Q, liftT K E (dNot t) σ H Q → tNot (liftT K E t) σ H Q := fun σ H Q ⟨ρ, s, rs, q⟩ => ⟨ρ, s, rs, h ρ s _ _ _ _ (fun b s1 q1 H1 st c => q1 H1 st c) (fun _ _ _ z => z) q⟩
variable {a b : Expr} {rest : List Expr} {t u : DT} {pos : Pos}
theorem pdw_and1 (h : PDT X E a t) : PDW X E (.BoolOp .And [a] pos) t := ⟨h.mo, pw_and1 h.run⟩
theorem pdw_or1 (h : PDT X E a t) : PDW X E (.BoolOp .Or [a] pos) t := ⟨h.mo, pw_or1 h.run⟩
theorem pdw_and (h : PDT X E a t) (k : PDW X E (.BoolOp .And (b :: rest) pos) u) : PDW X E (.BoolOp .And (a :: b :: rest) pos) (dAnd t u) := ⟨mo_and h.mo k.mo, pw_weak (pw_and h.run k.run) (lift_and h.mo k.mo)⟩
theorem pdw_or (h : PDT X E a t) (k : PDW X E (.BoolOp .Or (b :: rest) pos) u) : PDW X E (.BoolOp .Or (a :: b :: rest) pos) (dOr t u) := ⟨mo_or h.mo k.mo, pw_weak (pw_or h.run k.run) (lift_or h.mo k.mo)⟩
theorem pd_notT (h : PDT X E a t) : PDT X E (.UnaryOp .Not a pos) (dNot t) := ⟨mo_not h.mo, pt_weak (pt_not h.run) (lift_not h.mo)⟩
end
end G

/-! GLay3: expressions over data, further. -/
namespace G
open PySem
open PySem.Spec PyProof.Rows L2
section
variable {X : Cx} {E : XK} {K : PySem.W.Frag}

/-! ### values of and, or, not; a if t else b -/
def dAndV (ta tb : DE) : DE := fun ρ s Q Z => ta ρ s (fun d s1 => match d with
  | .bl true => tb ρ s1 Q Z
  | .bl false => Q (.bl false) s1
  | _ => False) Z
def dOrV (ta tb : DE) : DE := fun ρ s Q Z => ta ρ s (fun d s1 => match d with
  | .bl true => Q (.bl true) s1
  | .bl false => tb ρ s1 Q Z
  | _ => False) Z
def dNotV (ta : DE) : DE := fun ρ s Q Z => ta ρ s (fun d s1 => match d with
  | .bl b => Q (.bl (!b)) s1
  | _ => False) Z
def dIf (t : DT) (ta tb : DE) : DE := fun ρ s Q Z => t ρ s (fun b s1 => match b with
  | true => ta ρ s1 Q Z
  | false => tb ρ s1 Q Z) Z
theorem mo_andV {ta tb : DE} (ha : MoE ta) (hb : MoE tb) : MoE (dAndV ta tb) := fun ρ s Q Q' Z Z' hq hz q => ha ρ s _ _ Z Z' (fun d s1 q1 => by
  match d, q1 with
  | .bl true, q1 => exact hb ρ s1 Q Q' Z Z' hq hz q1
  | .bl false, q1 => exact hq _ _ q1) hz q
theorem mo_orV {ta tb : DE} (ha : MoE ta) (hb : MoE tb) : MoE (dOrV ta tb) := fun ρ s Q Q' Z Z' hq hz q => ha ρ s _ _ Z Z' (fun d s1 q1 => by
  match d, q1 with
  | .bl false, q1 => exact hb ρ s1 Q Q' Z Z' hq hz q1
  | .bl true, q1 => exact hq _ _ q1) hz q
theorem mo_notV {ta : DE} (ha : MoE ta) : MoE (dNotV ta) := fun ρ s Q Q' Z Z' hq hz q => ha ρ s _ _ Z Z' (fun d s1 q1 => by
  match d, q1 with
  | .bl b, q1 => exact hq _ _ q1) hz q
theorem mo_if {t : DT} {ta tb : DE} (h : MoT t) (ha : MoE ta) (hb : MoE tb) : MoE (dIf t ta tb) := fun ρ s Q Q' Z Z' hq hz q => h ρ s _ _ Z Z' (fun b s1 q1 => by
  cases b with
  | true => exact ha ρ s1 Q Q' Z Z' hq hz q1
  | false => exact hb ρ s1 Q Q' Z Z' hq hz q1) hz q
variable {a b : Expr} {rest : List Expr} {ta tb : DE} {t : DT} {pos : Pos}
theorem pd_one {op : BoolOp} (h : PD X E a ta) : PD X E (.BoolOp op [a] pos) ta := ⟨h.mo, pe_one h.run⟩
theorem pd_and (h : PD X E a ta) (k : PD X E (.BoolOp .And (b :: rest) pos) tb) : PD X E (.BoolOp .And (a :: b :: rest) pos) (dAndV ta tb) :=
  ⟨mo_andV h.mo k.mo, pe_weak (pe_and h.run k.run) fun σ H Q ⟨ρ, s, rs, q⟩ => ⟨ρ, s, rs, h.mo ρ s _ _ _ _ (fun d s1 q1 => by
    intro v H1 st c r
    match d, q1, r with
    | .bl true, q1, .bl _ => exact ⟨true, rfl, ρ, s1, rs.stp st c, k.mo ρ s1 _ _ _ _ (fun _ _ z => z.stp st) (fun _ _ _ z => XL.stp st z) q1⟩
    | .bl false, q1, .bl _ => exact ⟨false, rfl, q1 _ H1 st c (.bl false)⟩) (fun _ _ _ z => z) q⟩⟩
theorem pd_or (h : PD X E a ta) (k : PD X E (.BoolOp .Or (b :: rest) pos) tb) : PD X E (.BoolOp .Or (a :: b :: rest) pos) (dOrV ta tb) :=
  ⟨mo_orV h.mo k.mo, pe_weak (pe_or h.run k.run) fun σ H Q ⟨ρ, s, rs, q⟩ => ⟨ρ, s, rs, h.mo ρ s _ _ _ _ (fun d s1 q1 => by
    intro v H1 st c r
    match d, q1, r with
    | .bl false, q1, .bl _ => exact ⟨false, rfl, ρ, s1, rs.stp st c, k.mo ρ s1 _ _ _ _ (fun _ _ z => z.stp st) (fun _ _ _ z => XL.stp st z) q1⟩
    | .bl true, q1, .bl _ => exact ⟨true, rfl, q1 _ H1 st c (.bl true)⟩) (fun _ _ _ z => z) q⟩⟩
theorem pd_not (h : PD X E a ta) : PD X E (.UnaryOp .Not a pos) (dNotV ta) :=
  ⟨mo_notV h.mo, pe_weak (pe_not h.run) fun σ H Q ⟨ρ, s, rs, q⟩ => ⟨ρ, s, rs, h.mo ρ s _ _ _ _ (fun d s1 q1 => by
    intro v H1 st c r
    match d, q1, r with
    | .bl b, q1, .bl _ => exact ⟨b, rfl, q1 _ H1 st c (.bl (!b))⟩) (fun _ _ _ z => z) q⟩⟩
theorem pd_if {c : Expr} (h : PDT X E c t) (ha : PD X E a ta) (hb : PD X E b tb) : PD X E (.IfExp c a b pos) (dIf t ta tb) :=
  ⟨mo_if h.mo ha.mo hb.mo, pe_weak (pe_ifExp h.run ha.run hb.run) fun σ H Q ⟨ρ, s, rs, q⟩ => ⟨ρ, s, rs, h.mo ρ s _ _ _ _ (fun d s1 q1 => by
    intro H1 st c
    cases d with
    | true =>
      rw [if_pos rfl]
      exact ⟨ρ, s1, rs.stp st c, ha.mo ρ s1 _ _ _ _ (fun _ _ z => z.stp st) (fun _ _ _ z => XL.stp st z) q1⟩
    | false =>
      rw [if_neg
          Bool.false_ne_true]
      exact ⟨ρ, s1, rs.stp st c, hb.mo ρ s1 _ _ _ _ (fun _ _ z => z.stp st) (fun _ _ _ z => XL.stp st z) q1⟩) (fun _ _ _ z => z) q⟩⟩

/-! ### arguments, displays -/
def dNil : DA := fun _ s Q _ => Q [] s
def dCons (ta : DE) (tr : DA) : DA := fun ρ s Q Z => ta ρ s (fun d s1 => tr ρ s1 (fun ds s2 => Q (d :: ds) s2) Z) Z
theorem pda_nil : PDA X E [] dNil := ⟨fun _ _ _ _ _ _ hq _ q => hq _ _ q, pa_weak pa_nil fun σ H Q ⟨ρ, s, rs, q⟩ => q [] H (Stp.refl s H) rs.cel .nil⟩
theorem pda_cons {e : Expr} {es : List Expr} {tr : DA} (h : PD X E e ta) (k : PDA X E es tr) (hs : starEach (e :: es) X.env = (false, eval e X.env) :: starEach es X.env := by rfl) : PDA X E (e :: es) (dCons ta tr) :=
  ⟨fun ρ s Q Q' Z Z' hq hz q => h.mo ρ s _ _ Z Z' (fun d s1 q1 => k.mo ρ s1 _ _ Z Z' (fun ds s2 q2 => hq _ _ q2) hz q1) hz q,
    pa_weak (pa_cons h.run k.run hs) fun σ H Q ⟨ρ, s, rs, q⟩ => ⟨ρ, s, rs, h.mo ρ s _ _ _ _ (fun d s1 q1 => by
      intro v H1 st c r
      refine ⟨ρ, s1, rs.stp st c, k.mo ρ s1 _ _ _ _ (fun ds s2 q2 => ?_) (fun _ _ _ z => XL.stp st z) q1⟩
      intro vs H2 st2 c2 r2
      exact q2 _ H2 (st.trans st2) c2 (.cons (r.stp st2) r2)) (fun _ _ _ z => z) q⟩⟩
def dTup (t : DA) : DE := fun ρ s Q Z => t ρ s (fun ds s1 => ds.length ≤ sizeLine ∧ Q (.tup ds) s1) Z
def dLst (t : DA) : DE := fun ρ s Q Z => t ρ s (fun ds s1 => ds.length ≤ sizeLine ∧ Q (.lst ds) s1) Z
/-- a list that will change: a cell -/
def dLstC (t : DA) : DE := fun ρ s Q Z => t ρ s (fun ds s1 => ds.length ≤ sizeLine ∧ ∀ a, s1 a = none → Q (.ref a) (supd s1 a (.lst ds))) Z
theorem rp_new_tup {s : Sto} {H : Hp} {p : Addr} {ds : List D} {vs : List V} (c : Cells K s H) (hp : H p = none) (r : RpL K s H ds vs) : Rp K s (upd H p (.tup vs)) (.tup ds) (.ref p) := .tup (.inl ⟨c.free hp, .inl upd_same⟩) (r.stp (stp_new hp))
theorem rp_new_lst {s : Sto} {H : Hp} {p : Addr} {ds : List D} {vs : List V} (c : Cells K s H) (hp : H p = none) (r : RpL K s H ds vs) : Rp K s (upd H p (.lst vs)) (.lst ds) (.ref p) := .lst ⟨c.free hp, upd_same⟩ (r.stp (stp_new hp))
variable {es : List Expr} {tA : DA}
theorem pd_tup {x1} (h : PDA X E es tA) : PD X E (.Tuple es x1 pos) (dTup tA) :=
  ⟨fun ρ s Q Q' Z Z' hq hz q => h.mo ρ s _ _ Z Z' (fun ds s1 q1 => ⟨q1.1, hq _ _ q1.2⟩) hz q, pe_weak (pe_tup h.run) fun σ H Q ⟨ρ, s, rs, q⟩ => ⟨ρ, s, rs, h.mo ρ s _ _ _ _ (fun ds s1 q1 => by
    intro vs H1 st c r
    refine ⟨by rw [← r.length]; exact q1.1, fun p hp => q1.2 _ _ (st.trans (stp_new hp)) (cells_new c hp) (rp_new_tup c hp r)⟩) (fun _ _ _ z => z) q⟩⟩
theorem pd_lst (h : PDA X E es tA) : PD X E (.List es pos) (dLst tA) :=
  ⟨fun ρ s Q Q' Z Z' hq hz q => h.mo ρ s _ _ Z Z' (fun ds s1 q1 => ⟨q1.1, hq _ _ q1.2⟩) hz q, pe_weak (pe_lst h.run) fun σ H Q ⟨ρ, s, rs, q⟩ => ⟨ρ, s, rs, h.mo ρ s _ _ _ _ (fun ds s1 q1 => by
    intro vs H1 st c r
    refine ⟨by rw [← r.length]; exact q1.1, fun p hp => q1.2 _ _ (st.trans (stp_new hp)) (cells_new c hp) (rp_new_lst c hp r)⟩) (fun _ _ _ z => z) q⟩⟩
theorem cell_new_lst {s : Sto} {H : Hp} {p : Addr} {ds : List D} {vs : List V} (c : Cells K s H) (hp : H p = none) (r : RpL K s H ds vs) : Cells K (supd s p (.lst ds)) (upd H p (.lst vs)) :=
  cells_cell c hp ⟨vs, upd_same, r.stp (stp_cell hp)⟩
theorem pd_lstC (h : PDA X E es tA) : PD X E (.List es pos) (dLstC tA) :=
  ⟨fun ρ s Q Q' Z Z' hq hz q => h.mo ρ s _ _ Z Z' (fun ds s1 q1 => ⟨q1.1, fun a ha => hq _ _ (q1.2 a ha)⟩) hz q, pe_weak (pe_lst h.run) fun σ H Q ⟨ρ, s, rs, q⟩ => ⟨ρ, s, rs, h.mo ρ s _ _ _ _ (fun ds s1 q1 => by
    intro vs H1 st c r
    refine ⟨by rw [← r.length]; exact q1.1, fun p hp => q1.2 p (c.free hp) _ _ (st.trans (stp_cell hp)) (cell_new_lst c hp r) (.ref p)⟩) (fun _ _ _ z => z) q⟩⟩

/-! ### calls by values -/
abbrev RC := List D → Sto → DQ → Prop
def MoC (rd : RC) : Prop := ∀ ds s (Q Q' : DQ), (∀ d s', Q d s' → Q' d s') → rd ds s Q → rd ds s Q'
def CaD (K : PySem.W.Frag) (r : List V → Hp → VK → Prop) (rd : RC) : Prop := ∀ (s : Sto) (H : Hp) (vs : List V) (ds : List D) (Q : VK), Cells K s H → RpL K s H ds vs → rd ds s (QL K s H Q) → r vs H Q
def dCB (rd : RC) (t : DA) : DE := fun ρ s Q Z => t ρ s (fun ds s1 => rd ds s1 Q) Z
theorem mo_cb {rd : RC} (hm : MoC rd) (h : MoA tA) : MoE (dCB rd tA) := fun ρ s Q Q' Z Z' hq hz q => h ρ s _ _ Z Z' (fun ds s1 q1 => hm ds s1 Q Q' hq q1) hz q
theorem lift_cb {r : List V → Hp → VK → Prop} {rd : RC} (hd : CaD K r rd) (hm : MoC rd) (h : MoA tA) : ∀ σ H Q, liftE K E (dCB rd tA) σ H Q → tCB r (liftA K E tA) σ H Q := fun σ H Q ⟨ρ, s, rs, q⟩ => ⟨ρ, s, rs, h ρ s _ _ _ _ (fun ds s1 q1 => by
  intro vs H1 st c rv
  exact hd s1 H1 vs ds Q c rv (hm ds s1 _ _ (fun _ _ z => z.stp st) q1)) (fun _ _ _ z => z) q⟩
theorem pd_callB {id : String} {r : List V → Hp → VK → Prop} {rd : RC} {x : Str} {p : Pos} {e : Expr} (hc : CallR X (.builtin id) r) (hd : CaD X.K r rd) (hmo : MoC rd) (hg : Gl X x) (hm : X.mg x = none) (hv : bootBuiltins x = some (.builtin id)) (ha : PDA X E (e :: es) tA) (hn : x ≠ "__name__" := by decide) (hdb : (x == ("__debug__" : Str)) = false := by decide)
    (he : starEach (e :: es) X.env = (false, eval e X.env) :: starEach es X.env := by rfl) (hpl : (backTo pos (starEach es X.env)).any (·.1) = false := by rfl) : PD X E (.Call (.Name x p) (e :: es) [] pos) (dCB rd tA) :=
  ⟨mo_cb hmo ha.mo, pe_weak (pe_callB hc hg hm hv ha.run hn hdb he hpl) (lift_cb hd hmo ha.mo)⟩
theorem pd_callTy {T : String} {r : List V → Hp → VK → Prop} {rd : RC} {x : Str} {p : Pos} {e : Expr} (hc : CallR X (.type T) r) (hd : CaD X.K r rd) (hmo : MoC rd) (hg : Gl X x) (hm : X.mg x = none) (hv : bootBuiltins x = some (.type T)) (ha : PDA X E (e :: es) tA) (hn : x ≠ "__name__" := by decide) (hdb : (x == ("__debug__" : Str)) = false := by decide)
    (he : starEach (e :: es) X.env = (false, eval e X.env) :: starEach es X.env := by rfl) (hpl : (backTo pos (starEach es X.env)).any (·.1) = false := by rfl) : PD X E (.Call (.Name x p) (e :: es) [] pos) (dCB rd tA) :=
  ⟨mo_cb hmo ha.mo, pe_weak (pe_callTy hc hg hm hv ha.run hn hdb he hpl) (lift_cb hd hmo ha.mo)⟩

/-! ### calls of defs -/
abbrev DF := List D → Sto → DQ → XC → Prop
def MoF (g : DF) : Prop := ∀ ds s (Q Q' : DQ) (Z Z' : XC), (∀ d s', Q d s' → Q' d s') → (∀ C fs s', Z C fs s' → Z' C fs s') → g ds s Q Z → g ds s Q' Z'
/-- the promise of a def with n parameters over data -/
def spG (K : PySem.W.Frag) (n : Nat) (g : DF) : Sp := fun vs H Q E => ∃ ds s, ds.length = n ∧ RpL K s H ds vs ∧ Cells K s H ∧ g ds s (QL K s H Q) (XL K s H E)
def dCall (n : Nat) (g : DF) (t : DA) : DE := fun ρ s Q Z => t ρ s (fun ds s1 => ds.length = n ∧ g ds s1 Q Z) Z
theorem mo_call {n : Nat} {g : DF} (hg : MoF g) (h : MoA tA) : MoE (dCall n g tA) := fun ρ s Q Q' Z Z' hq hz q => h ρ s _ _ Z Z' (fun ds s1 q1 => ⟨q1.1, hg ds s1 Q Q' Z Z' hq hz q1.2⟩) hz q
theorem lift_call {n : Nat} {g : DF} (hg : MoF g) (h : MoA tA) : ∀ σ H Q, liftE K E (dCall n g tA) σ H Q → tCall (spG K n g) [] E (liftA K E tA) σ H Q := fun σ H Q ⟨ρ, s, rs, q⟩ => ⟨ρ, s, rs, h ρ s _ _ _ _ (fun ds s1 q1 => by
  intro vs H1 st c rv
  rw [List.append_nil]
  exact ⟨ds, s1, q1.1, rv, c, hg ds s1 _ _ _ _ (fun _ _ z => z.stp st) (fun _ _ _ z => XL.stp st z) q1.2⟩) (fun _ _ _ z => z) q⟩
/-- all that a caller must know of a def -/
structure DefOk (P : Program) (w : World) (K : PySem.W.Frag) (mg : Str → Option Value) (base : Heap) (k : Nat) (x : Str) (n : Nat) (g : DF) : Prop where
  mo : MoF g
  ok : ∃ (f : Addr) (fd : FuncData) (ps : List Str), mg x = some (.ref f) ∧ PySem.W.keepIn K (.ref f) = true ∧ Binds K fd ps [] ∧ FnOk P w K mg base (L2.CX P w) k f fd ps (spG K n g)
abbrev PassX (X : Cx) (E : XK) : Prop := Passes (L2.CX X.prog X.w) X E
theorem pd_call {k n : Nat} {g : DF} {x : Str} {p : Pos} {e : Expr} (F : DefOk X.prog X.w X.K X.mg X.base k x n g) (hr : Room k X.A) (hx : PassX X E) (ha : PDA X E (e :: es) tA) (hg : Gl X x := by rfl) (hdb : (x == ("__debug__" : Str)) = false := by decide)
    (he : starEach (e :: es) X.env = (false, eval e X.env) :: starEach es X.env := by rfl) (hpl : (backTo pos (starEach es X.env)).any (·.1) = false := by rfl) : PD X E (.Call (.Name x p) (e :: es) [] pos) (dCall n g tA) := by
  obtain ⟨f, fd, ps, hm, hk, hb, ok⟩ := F.ok
  exact ⟨mo_call F.mo ha.mo, pe_weak (pe_call ok hr hg hm hk hb .nil hx ha.run hdb he hpl) (lift_call F.mo ha.mo)⟩
theorem pd_call0 {k n : Nat} {g : DF} {x : Str} {p : Pos} (F : DefOk X.prog X.w X.K X.mg X.base k x n g) (hr : Room k X.A) (hx : PassX X E) (hg : Gl X x := by rfl) (hdb : (x == ("__debug__" : Str)) = false := by decide) : PD X E (.Call (.Name x p) [] [] pos) (dCall n g dNil) := by
  obtain ⟨f, fd, ps, hm, hk, hb, ok⟩ := F.ok
  have N : PDA X E [] dNil := pda_nil
  refine ⟨mo_call F.mo N.mo, pe_weak (pe_call0 ok hr hg hm hk hb .nil hx hdb) fun σ H Q h => ?_⟩
  obtain ⟨ρ, s, rs, q1, q2⟩ := h
  exact ⟨[], s, q1, .nil, rs.cel, q2⟩

/-! ### subscripts, slices -/
theorem pd_ix {r : R2} {rd : RD} (hr : IxR X r) (hd : OpD X.K r rd) (hm : MoR rd) (ha : PD X E a ta) (hb : PD X E b tb) (hs : PlainIx b) : PD X E (.Subscript a b pos) (dOp rd ta tb) :=
  ⟨mo_op hm ha.mo hb.mo, pe_weak (pe_ix hr ha.run hb.run hs) (lift_op hd ha.mo hb.mo hm)⟩
abbrev DO := Rho → Sto → (Option Int → Sto → Prop) → XC → Prop
def MoO (t : DO) : Prop := ∀ ρ s (Q Q' : Option Int → Sto → Prop) (Z Z' : XC), (∀ d s', Q d s' → Q' d s') → (∀ C fs s', Z C fs s' → Z' C fs s') → t ρ s Q Z → t ρ s Q' Z'
def OL (K : PySem.W.Frag) (s : Sto) (H : Hp) (Q : Option Int → Hp → Prop) : Option Int → Sto → Prop := fun b s' => ∀ H', Stp s H s' H' → Cells K s' H' → Q b H'
def liftO (K : PySem.W.Frag) (E : XK) (t : DO) : TO := fun σ H Q => ∃ ρ s, RS K H s σ ρ ∧ t ρ s (OL K s H Q) (XL K s H E)
structure PDO (X : Cx) (E : XK) (e : Option Expr) (t : DO) : Prop where
  mo : MoO t
  run : PO X e (liftO X.K E t)
theorem po_weak {e : Option Expr} {t t' : TO} (h : PO X e t) (k : ∀ σ H Q, t' σ H Q → t σ H Q) : PO X e t' := ⟨fun pins s σ H Q I w => h.run pins s σ H Q I (k σ H Q w)⟩
def dNo : DO := fun _ s Q _ => Q none s
def dSome (ta : DE) : DO := fun ρ s Q Z => ta ρ s (fun d s1 => match d with
  | .int i => Q (some i) s1
  | _ => False) Z
theorem pdo_none : PDO X E none dNo := ⟨fun _ _ _ _ _ _ hq _ q => hq _ _ q, po_weak po_none fun σ H Q ⟨ρ, s, rs, q⟩ => q H (Stp.refl s H) rs.cel⟩
theorem pdo_some {e : Expr} (h : PD X E e ta) : PDO X E (some e) (dSome ta) :=
  ⟨fun ρ s Q Q' Z Z' hq hz q => h.mo ρ s _ _ Z Z' (fun d s1 q1 => by
      match d, q1 with
      | .int i, q1 => exact hq _ _ q1) hz q, po_weak (po_some h.run) fun σ H Q ⟨ρ, s, rs, q⟩ => ⟨ρ, s, rs, h.mo ρ s _ _ _ _ (fun d s1 q1 => by
      intro v H1 st c r
      match d, q1, r with
      | .int i, q1, .int _ => exact ⟨i, rfl, q1 H1 st c⟩) (fun _ _ _ z => z) q⟩⟩
abbrev RSl := D → Option Int → Option Int → Sto → DQ → Prop
def MoSl (rd : RSl) : Prop := ∀ d lo hi s (Q Q' : DQ), (∀ d s', Q d s' → Q' d s') → rd d lo hi s Q → rd d lo hi s Q'
def SlD (K : PySem.W.Frag) (r : V → Option Int → Option Int → Hp → VK → Prop) (rd : RSl) : Prop := ∀ (s : Sto) (H : Hp) (v : V) (d : D) (lo hi : Option Int) (Q : VK), Cells K s H → Rp K s H d v → rd d lo hi s (QL K s H Q) → r v lo hi H Q
def dSl (rd : RSl) (te : DE) (tl th : DO) : DE := fun ρ s Q Z => te ρ s (fun d s1 => tl ρ s1 (fun lo s2 => th ρ s2 (fun hi s3 => rd d lo hi s3 Q) Z) Z) Z
theorem pd_sl {r : V → Option Int → Option Int → Hp → VK → Prop} {rd : RSl} {e : Expr} {te : DE} {tl th : DO} {lo hi : Option Expr} {p2 : Pos} (hr : SlR X r) (hd : SlD X.K r rd) (hm : MoSl rd) (he : PD X E e te) (hl : PDO X E lo tl) (hh : PDO X E hi th) :
    PD X E (.Subscript e (.Slice lo hi none p2) pos) (dSl rd te tl th) :=
  ⟨fun ρ s Q Q' Z Z' hq hz q => he.mo ρ s _ _ Z Z' (fun d s1 q1 => hl.mo ρ s1 _ _ Z Z' (fun l s2 q2 => hh.mo ρ s2 _ _ Z Z' (fun u s3 q3 => hm _ _ _ _ _ _ hq q3) hz q2) hz q1) hz q,
    pe_weak (pe_slice hr he.run hl.run hh.run) fun σ H Q ⟨ρ, s, rs, q⟩ => ⟨ρ, s, rs, he.mo ρ s _ _ _ _ (fun d s1 q1 => by
      intro v H1 st c r
      refine ⟨ρ, s1, rs.stp st c, hl.mo ρ s1 _ _ _ _ (fun l s2 q2 => ?_) (fun _ _ _ z => XL.stp st z) q1⟩
      intro H2 st2 c2
      refine ⟨ρ, s2, (rs.stp st c).stp st2 c2, hh.mo ρ s2 _ _ _ _ (fun u s3 q3 => ?_) (fun _ _ _ z => XL.stp (st.trans st2) z) q2⟩
      intro H3 st3 c3
      exact hd s3 H3 v d l u Q c3 (r.stp (st2.trans st3)) (hm _ _ _ _ _ _ (fun _ _ z => z.stp ((st.trans st2).trans st3)) q3)) (fun _ _ _ z => z) q⟩⟩
end
end G

/-! GLay4: statements, targets, loops, comprehensions, defs. -/
namespace G
open PySem
open PySem.Spec PyProof.Rows L2
section
variable {X : Cx} {E : XK} {K : PySem.W.Frag}

/-! ### statements -/
def dNext : DS := fun K ρ s => K.nx ρ s
def dBreak : DS := fun K ρ s => K.bk ρ s
def dCont : DS := fun K ρ s => K.ct ρ s
def dSeq (t u : DS) : DS := fun K ρ s => t { K with nx := u K } ρ s
def dRet (t : DE) : DS := fun K ρ s => t ρ s K.rt K.xc
def dRetN : DS := fun K _ s => K.rt .non s
def dDrop (t : DE) : DS := fun K ρ s => t ρ s (fun _ s' => K.nx ρ s') K.xc
def dIfS (c : DT) (t u : DS) : DS := fun K ρ s => c ρ s (fun b s' => match b with
  | true => t K ρ s'
  | false => u K ρ s') K.xc
theorem LeD.nxt {K K' : DEnds} {P P' : Rho → Sto → Prop} (h : LeD K K') (k : ∀ ρ s, P ρ s → P' ρ s) : LeD { K with nx := P } { K' with nx := P' } := ⟨k, h.rt, h.xc, h.bk, h.ct⟩
theorem MoS.go {t : DS} (h : MoS t) {K K' : DEnds} {ρ : Rho} {s : Sto} (q : t K ρ s) (l : LeD K K') : t K' ρ s := h K K' ρ s l q
theorem mo_next : MoS dNext := fun _ _ ρ s h q => h.nx ρ s q
theorem mo_break : MoS dBreak := fun _ _ ρ s h q => h.bk ρ s q
theorem mo_cont : MoS dCont := fun _ _ ρ s h q => h.ct ρ s q
theorem mo_seq {t u : DS} (h : MoS t) (k : MoS u) : MoS (dSeq t u) := fun K K' ρ s l q => h _ _ ρ s (l.nxt fun ρ s => k K K' ρ s l) q
theorem mo_ret {t : DE} (h : MoE t) : MoS (dRet t) := fun K K' ρ s l q => h ρ s _ _ _ _ l.rt l.xc q
theorem mo_retN : MoS dRetN := fun K K' ρ s l q => l.rt _ s q
theorem mo_drop {t : DE} (h : MoE t) : MoS (dDrop t) := fun K K' ρ s l q => h ρ s _ _ _ _ (fun _ s' => l.nx ρ s') l.xc q
theorem mo_ifS {c : DT} {t u : DS} (h : MoT c) (k : MoS t) (m : MoS u) : MoS (dIfS c t u) := fun K K' ρ s l q => h ρ s _ _ _ _ (fun b s' q1 => by
  cases b with
  | true => exact k K K' ρ s' l q1
  | false => exact m K K' ρ s' l q1) l.xc q
/-- the ends as they are wanted later -/
theorem endsL.stp {s s' : Sto} {H H' : Hp} {D : Ends} (x : Stp s H s' H') : LeD (endsL K E s H D) (endsL K E s' H' D) :=
  ⟨fun _ _ z => z.stp x, fun _ _ z => z.stp x, fun _ _ _ z => z.stp x, fun _ _ z => z.stp x, fun _ _ z => z.stp x⟩
variable {st : Stmt} {rest : List Stmt} {t u : DS} {te : DE} {e : Expr} {pos : Pos}
theorem pds_nil : PDSs X E [] dNext := ⟨mo_next, pss_weak pss_nil fun D σ H ⟨ρ, s, rs, q⟩ => q σ H (Stp.refl s H) rs⟩
theorem pds_cons (h : PDS X E st t) (k : PDSs X E rest u) : PDSs X E (st :: rest) (dSeq t u) := ⟨mo_seq h.mo k.mo, pss_weak (pss_cons h.run k.run) fun D σ H ⟨ρ, s, rs, q⟩ => by
  have q' : t { endsL X.K E s H D with nx := u (endsL X.K E s H D) } ρ s := q
  refine ⟨ρ, s, rs, h.mo.go q' ⟨fun ρ1 s1 q1 => ?_, fun _ _ z => z, fun _ _ _ z => z, fun _ _ z => z, fun _ _ z => z⟩⟩
  intro σ1 H1 st1 rs1
  exact ⟨ρ1, s1, rs1, k.mo.go (show u (endsL X.K E s H D) ρ1 s1 from q1) (endsL.stp st1)⟩⟩
theorem pds_one (h : PDS X E st t) : PDSs X E [st] t := ⟨h.mo, pss_one h.run⟩
theorem pd_pass : PDS X E (.Pass pos) dNext := ⟨mo_next, ps_weak ps_pass fun D σ H ⟨ρ, s, rs, q⟩ => q σ H (Stp.refl s H) rs⟩
theorem pd_break : PDS X E (.Break pos) dBreak := ⟨mo_break, ps_weak ps_break fun D σ H ⟨ρ, s, rs, q⟩ => q σ H (Stp.refl s H) rs⟩
theorem pd_continue : PDS X E (.Continue pos) dCont := ⟨mo_cont, ps_weak ps_continue fun D σ H ⟨ρ, s, rs, q⟩ => q σ H (Stp.refl s H) rs⟩
theorem pd_ret (h : PD X E e te) : PDS X E (.Return (some e) pos) (dRet te) := ⟨mo_ret h.mo, ps_weak (ps_ret h.run) fun D σ H ⟨ρ, s, rs, q⟩ => ⟨ρ, s, rs, q⟩⟩
theorem pd_retN : PDS X E (.Return none pos) dRetN := ⟨mo_retN, ps_weak ps_retN fun D σ H ⟨ρ, s, rs, q⟩ => q .non H (Stp.refl s H) rs.cel .non⟩
theorem pd_expr (h : PD X E e te) (hs : swapsWith e none pos.line X.env = pure false := by rfl) : PDS X E (.Expr e pos) (dDrop te) := ⟨mo_drop h.mo, ps_weak (ps_expr h.run hs) fun D σ H ⟨ρ, s, rs, q⟩ =>
  ⟨ρ, s, rs, h.mo ρ s _ _ _ _ (fun d s1 q1 v H1 st c r => q1 σ H1 st (rs.stp st c)) (fun _ _ _ z => z) q⟩⟩
theorem pd_ifS {c : Expr} {a b : List Stmt} {tc : DT} (h : PDT X E c tc) (k : PDSs X E a t) (m : PDSs X E b u) : PDS X E (.If c a b pos) (dIfS tc t u) := ⟨mo_ifS h.mo k.mo m.mo, ps_weak (ps_if h.run k.run m.run) fun D σ H ⟨ρ, s, rs, q⟩ =>
  ⟨ρ, s, rs, h.mo ρ s _ _ _ _ (fun b s1 q1 => by
    intro H1 st c
    cases b with
    | true =>
      rw [if_pos rfl]
      exact ⟨ρ, s1, rs.stp st c, k.mo _ _ ρ s1 (endsL.stp st) q1⟩
    | false =>
      rw [if_neg
          Bool.false_ne_true]
      exact ⟨ρ, s1, rs.stp st c, m.mo _ _ ρ s1 (endsL.stp st) q1⟩) (fun _ _ _ z => z) q⟩⟩
/-- a cell that a slot tells of stands still from here on -/
def dFrz (i : Nat) (u : DS) : DS := fun K ρ s => match sg ρ i with
  | some (.ref a) => match s a with
    | some c => match frz c with
      | some d => u K (ss ρ i (some d)) (sdel s a)
      | none => False
    | none => False
  | _ => False
theorem ss_same {σ : L2.St} {i : Nat} {v : V} (h : σ[i]? = some (some v)) : σ.set i (some v) = σ := by
  obtain ⟨hi, e⟩ :=
      List.getElem?_eq_some_iff.mp h
  rw [← e]
  exact List.set_getElem_self hi
theorem pds_frz (i : Nat) (k : PDSs X E rest u) : PDSs X E rest (dFrz i u) := ⟨fun K K' ρ s l q => by
    unfold dFrz at q ⊢
    split at q
    · split at q
      · split at q
        · exact k.mo K K' _ _ l q
        · exact q
      · exact q
    · exact q, pss_weak k.run fun D σ H ⟨ρ, s, rs, q⟩ => by
    unfold dFrz at q
    split at q
    · rename_i a ea
      split at q
      · rename_i c ec
        split at q
        · rename_i d ed
          obtain ⟨v, h1, h2⟩ := rs.dat i _ ea
          have rs2 := rs.stp (stp_del (a := a)) (cells_del rs.cel)
          cases h2
          have rs3 := rs2.set (rp_frz rs.cel ec ed) i
          rw [ss_same h1] at rs3
          exact ⟨_, _, rs3, k.mo _ _ _ _ (endsL.stp stp_del) q⟩
        · exact q.elim
      · exact q.elim
    · exact q.elim⟩

/-! ### targets -/
abbrev DG := D → Rho → Sto → (Rho → Sto → Prop) → Prop
/-- the slots at ws alone differ -/
def OnlyAt (ws : List Nat) (σ σ' : L2.St) : Prop := σ'.length = σ.length ∧ ∀ j, j ∉ ws → σ'[j]? = σ[j]?
theorem OnlyAt.refl (σ : L2.St) : OnlyAt [] σ σ := ⟨rfl, fun _ _ => rfl⟩
theorem OnlyAt.trans {ws vs : List Nat} {σ σ1 σ2 : L2.St} (a : OnlyAt ws σ σ1) (b : OnlyAt vs σ1 σ2) : OnlyAt (ws ++ vs) σ σ2 :=
  ⟨b.1.trans a.1, fun j h => (b.2 j fun z => h (List.mem_append_right _ z)).trans (a.2 j fun z => h (List.mem_append_left _ z))⟩
/-- as SL, where the slots at ws were written -/
def GL (K : PySem.W.Frag) (ws : List Nat) (s : Sto) (H : Hp) (σ : L2.St) (P : L2.St → Hp → Prop) : Rho → Sto → Prop := fun ρ' s' => ∀ σ' H', Stp s H s' H' → RS K H' s' σ' ρ' → OnlyAt ws σ σ' → P σ' H'
theorem SL.gl {s : Sto} {H : Hp} {P : L2.St → Hp → Prop} {ρ : Rho} {s' : Sto} (ws : List Nat) (σ : L2.St) (h : SL K s H P ρ s') : GL K ws s H σ P ρ s' := fun σ' H' a b _ => h σ' H' a b
structure PDG (X : Cx) (tg : Expr) (ws : List Nat) (g : TG) (t : DG) : Prop where
  run : PG X tg g
  mo : ∀ d ρ s (P P' : Rho → Sto → Prop), (∀ ρ s, P ρ s → P' ρ s) → t d ρ s P → t d ρ s P'
  lift : ∀ (s : Sto) (H : Hp) (σ : L2.St) (ρ : Rho) (d : D) (v : V) (P : L2.St → Hp → Prop), RS X.K H s σ ρ → Rp X.K s H d v → t d ρ s (GL X.K ws s H σ P) → g v σ H P
theorem PDG.lift0 {tg : Expr} {ws : List Nat} {g : TG} {t : DG} (h : PDG X tg ws g t) (s : Sto) (H : Hp) (σ : L2.St) (ρ : Rho) (d : D) (v : V) (P : L2.St → Hp → Prop) (rs : RS X.K H s σ ρ) (r : Rp X.K s H d v) (q : t d ρ s (SL X.K s H P)) : g v σ H P :=
  h.lift s H σ ρ d v P rs r (h.mo _ _ _ _ _ (fun _ _ z => z.gl ws σ) q)
def gN (i : Nat) : DG := fun d ρ s P => P (ss ρ i (some d)) s
theorem pdg_name {i : Nat} {x : Str} (hN : X.N.Nodup) (hi : X.N[i]? = some x) (hx : Loc X.env.scope x) (hf : X.fn x = true ∨ X.env.scope.names.lookup x = some .local := by first | exact .inl rfl | exact .inr rfl | assumption) : PDG X (.Name x pos) [i] (gName i) (gN i) :=
  ⟨pg_name hN hi hx hf, fun d ρ s P P' h q => h _ _ q, fun s H σ ρ d v P rs r q => q _ H (Stp.refl s H) (rs.set r i) ⟨List.length_set, fun j hj => List.getElem?_set_ne fun z => hj (by rw [z]; exact List.mem_cons_self)⟩⟩
abbrev DGs := List D → Rho → Sto → (Rho → Sto → Prop) → Prop
structure PDGs (X : Cx) (ts : List Expr) (ws : List Nat) (g : TGs) (t : DGs) : Prop where
  run : PGs X ts g
  mo : ∀ d ρ s (P P' : Rho → Sto → Prop), (∀ ρ s, P ρ s → P' ρ s) → t d ρ s P → t d ρ s P'
  lift : ∀ (s : Sto) (H : Hp) (σ : L2.St) (ρ : Rho) (d : List D) (v : List V) (P : L2.St → Hp → Prop), RS X.K H s σ ρ → RpL X.K s H d v → t d ρ s (GL X.K ws s H σ P) → g v σ H P
def gNilD : DGs := fun ds ρ s P => match ds with
  | [] => P ρ s
  | _ => False
def gConsD (t : DG) (u : DGs) : DGs := fun ds ρ s P => match ds with
  | d :: r => t d ρ s (fun ρ' s' => u r ρ' s' P)
  | [] => False
theorem pdgs_nil : PDGs X [] [] gNil gNilD := ⟨pgs_nil, fun d ρ s P P' h q => by
  match d, q with
  | [], q => exact h _ _ q, fun s H σ ρ d v P rs r q => by
  match d, r, q with
  | [], .nil, q => exact ⟨rfl, q σ H (Stp.refl s H) rs (OnlyAt.refl σ)⟩⟩
theorem pdgs_cons {es : List Expr} {g : TG} {gs : TGs} {tg : DG} {tgs : DGs} {ws vs : List Nat} (h : PDG X e ws g tg) (k : PDGs X es vs gs tgs) (hs : (assignEach (e :: es) X.env).map (·.2) = assign e X.env :: (assignEach es X.env).map (·.2) := by rfl) : PDGs X (e :: es) (ws ++ vs) (gCons g gs) (gConsD tg tgs) :=
  ⟨pgs_cons h.run k.run hs, fun d ρ s P P' hp q => by
    match d, q with
    | d :: r, q => exact h.mo _ _ _ _ _ (fun ρ' s' q1 => k.mo _ _ _ _ _ hp q1) q, fun s H σ ρ d v P rs r q => by
    match d, r, q with
    | d :: ds, .cons (v := v) (vs := us) r1 r2, q =>
      refine ⟨v, us, rfl, h.lift s H σ ρ d v _ rs r1 (h.mo _ _ _ _ _ (fun ρ1 s1 q1 => ?_) q)⟩
      intro σ1 H1 st1 rs1 o1
      exact k.lift s1 H1 σ1 ρ1 ds _ P rs1 (r2.stp st1) (k.mo _ _ _ _ _ (fun ρ2 s2 q2 σ2 H2 st2 rs2 o2 => q2 σ2 H2 (st1.trans st2) rs2 (o1.trans o2)) q1)⟩
def gTupD (n : Nat) (t : DGs) : DG := fun d ρ s P => match d with
  | .tup ds => ds.length = n ∧ t ds ρ s P
  | _ => False
theorem pdg_tup {es : List Expr} {k : Nat} {gs : TGs} {tgs : DGs} {n : Nat} {ws : List Nat} (hc : X.calm = true) (h : PDGs X es ws gs tgs) (hn : (assignEach es X.env).length = n := by rfl) (hst : (assignEach es X.env).findIdx? (·.1) = none := by rfl) : PDG X (.Tuple es k pos) ws (gTup X.K n gs) (gTupD n tgs) :=
  ⟨pg_tup hc h.run hn hst, fun d ρ s P P' hp q => by
    match d, q with
    | .tup ds, q => exact ⟨q.1, h.mo _ _ _ _ _ hp q.2⟩, fun s H σ ρ d v P rs r q => by
    match d, r, q with
    | .tup ds, .tup (a := a) (xs := xs) hT r1, q => exact ⟨a, xs, rfl, hT.sq, by rw [← r1.length]; exact q.1, h.lift s H σ ρ ds xs P rs r1 q.2⟩⟩
/-- target = e -/
def dAsg (te : DE) (g : DG) : DS := fun K ρ s => te ρ s (fun d s1 => g d ρ s1 K.nx) K.xc
theorem mo_asg {te : DE} {g : DG} (h : MoE te) (k : ∀ d ρ s (P P' : Rho → Sto → Prop), (∀ ρ s, P ρ s → P' ρ s) → g d ρ s P → g d ρ s P') : MoS (dAsg te g) := fun K K' ρ s l q =>
  h ρ s _ _ _ _ (fun d s1 q1 => k _ _ _ _ _ l.nx q1) l.xc q
theorem lift_asg {te : DE} {g : TG} {tg : DG} {x : Expr} {ws : List Nat} (h : MoE te) (k : PDG X x ws g tg) : ∀ D σ H, liftS X.K E (dAsg te tg) D σ H → tAsg (liftE X.K E te) g D σ H := fun D σ H ⟨ρ, s, rs, q⟩ => ⟨ρ, s, rs, h ρ s _ _ _ _ (fun d s1 q1 => by
  intro v H1 st c r
  exact k.lift0 s1 H1 σ ρ d v _ (rs.stp st c) r (k.mo _ _ _ _ _ (fun _ _ z => z.stp st) q1)) (fun _ _ _ z => z) q⟩
theorem pd_asg {tg : Expr} {g : TG} {tgd : DG} {ws : List Nat} (h : PD X E e te) (k : PDG X tg ws g tgd) (hs : swapsWithSole [tg] e pos.line X.env = pure false := by rfl) (hw : swappedStores [tg] e X.env = pure none := by rfl)
    (h1 : (assignEach [tg] X.env).map (·.2) = [assign tg X.env] := by rfl) : PDS X E (.Assign [tg] e pos) (dAsg te tgd) := ⟨mo_asg h.mo k.mo, ps_weak (ps_asg h.run k.run hs hw h1) (lift_asg h.mo k)⟩
/-- name = e -/
theorem pd_set {i : Nat} {x : Str} {pos' : Pos} (hN : X.N.Nodup) (hi : X.N[i]? = some x) (hx : Loc X.env.scope x) (h : PD X E e te) (hs : swapsWith e (some (.Name x pos')) pos.line X.env = pure false := by rfl) (hf : X.fn x = true ∨ X.env.scope.names.lookup x = some .local := by first | exact .inl rfl | exact .inr rfl | assumption) :
    PDS X E (.Assign [.Name x pos'] e pos) (dAsg te (gN i)) := ⟨mo_asg h.mo (fun d ρ s P P' hp q => hp _ _ q), ps_weak (ps_set hN hi hx h.run hs hf) (lift_asg (x := .Name x pos') h.mo (pdg_name hN hi hx hf))⟩
/-- a, b = e1, e2 by two local names -/
def dPar (i j : Nat) (t : DA) : DS := fun K ρ s => t ρ s (fun ds s1 => match ds with
  | [d, e] => K.nx (ss (ss ρ i (some d)) j (some e)) s1
  | _ => False) K.xc
theorem pd_par {i j : Nat} {x y : Str} {a b : Expr} {ta : DA} {px py pt : Pos} {kt k2 pt2} (hc : X.calm = true) (hN : X.N.Nodup) (hi : X.N[i]? = some x) (hj : X.N[j]? = some y) (hij : i ≠ j)
    (hx : X.env.scope.names.lookup x = some .local) (hy : X.env.scope.names.lookup y = some .local) (h : PDA X E [a, b] ta)
    (hw : swappedStores [.Tuple [.Name x px, .Name y py] kt pt]
        (.Tuple [a, b] k2 pt2) X.env = pure (some [x, y]))
    (hs : swapsWithSole [.Tuple [.Name x px, .Name y py] kt pt]
        (.Tuple [a, b] k2 pt2) pos.line X.env = pure false := by rfl) :
    PDS X E (.Assign [.Tuple [.Name x px, .Name y py] kt pt] (.Tuple [a, b] k2 pt2) pos) (dPar i j ta) := ⟨fun K K' ρ s l q => h.mo ρ s _ _ _ _ (fun ds s1 q1 => by
      match ds, q1 with
      | [d, e], q1 => exact l.nx _ _ q1) l.xc q, ps_weak (ps_par hc hN hi hj hij hx hy h.run hw hs) fun D σ H ⟨ρ, s, rs, q⟩ => ⟨ρ, s, rs, h.mo ρ s _ _ _ _ (fun ds s1 q1 => by
      intro vs H1 st c r
      match ds, r, q1 with
      | [d, e], .cons (v := v) r1 (.cons (v := w) r2 .nil), q1 => exact ⟨v, w, rfl, q1 _ H1 st (((rs.stp st c).set r1 i).set r2 j)⟩) (fun _ _ _ z => z) q⟩⟩

/-! ### while -/
def dWhile (c : DT) (b : DS) : DS := fun K ρ s => ∃ W : Nat → Rho → Sto → Prop, (∃ m, W m ρ s) ∧ ∀ m ρ s, W m ρ s → c ρ s (fun x s1 => match x with
  | true => b { K with nx := fun ρ2 s2 => ∃ m', m' < m ∧ W m' ρ2 s2, ct := fun ρ2 s2 => ∃ m', m' < m ∧ W m' ρ2 s2, bk := K.nx } ρ s1
  | false => K.nx ρ s1) K.xc
theorem pd_while {c : Expr} {body : List Stmt} {tc : DT} {tb : DS} (hp : PassesOwn (model X.prog X.w) X.A X.env X.xe) (hc : PDT X E c tc) (hb : PDSs X E body tb) : PDS X E (.While c body [] pos) (dWhile tc tb) := by
  refine ⟨fun K K' ρ s l q => ?_, ps_weak (ps_while hp hc.run hb.run) fun D σ H ⟨ρ, s, rs, W, ⟨m0, w0⟩, q⟩ => ?_⟩
  · obtain ⟨W, w0, q⟩ := q
    refine ⟨W, w0, fun m ρ s w => hc.mo ρ s _ _ _ _ (fun x s1 q1 => ?_) l.xc (q m ρ s w)⟩
    cases x with
    | true => exact hb.mo.go q1 ⟨fun _ _ z => z, l.rt, l.xc, l.nx, fun _ _ z => z⟩
    | false => exact l.nx _ _ q1
  · refine ⟨fun m σ1 H1 => ∃ ρ1 s1, Stp s H s1 H1 ∧ RS X.K H1 s1 σ1 ρ1 ∧ W m ρ1 s1, ⟨m0, ρ, s, Stp.refl s H, rs, w0⟩, ?_⟩
    rintro m σ1 H1 ⟨ρ1, s1, st1, rs1, w1⟩
    refine ⟨ρ1, s1, rs1, hc.mo ρ1 s1 _ _ _ _ (fun x s2 q2 => ?_) (fun _ _ _ z => z.stp st1) (q m ρ1 s1 w1)⟩
    intro H2 st2 c2
    have st12 := st1.trans st2
    cases x with
    | true =>
      rw [if_pos rfl]
      refine ⟨fun σ' H' => ∃ ρ' s', Stp s H s' H' ∧ RS X.K H' s' σ' ρ' ∧ ∃ m', m' < m ∧ W m' ρ' s', ?_, ρ1, s2, rs1.stp st2 c2, ?_⟩
      · rintro σ' H' ⟨ρ', s', a1, a2, m', a3, a4⟩
        exact ⟨m', a3, ρ', s', a1, a2, a4⟩
      · refine hb.mo.go q2 ⟨?_, fun _ _ z => z.stp st12, fun _ _ _ z => z.stp st12, fun _ _ z => z.stp st12, ?_⟩
        · intro ρ3 s3 ⟨m', a3, a4⟩ σ' H' st3 rs3
          exact ⟨ρ3, s3, st12.trans st3, rs3, m', a3, a4⟩
        · intro ρ3 s3 ⟨m', a3, a4⟩ σ' H' st3 rs3
          exact ⟨ρ3, s3, st12.trans st3, rs3, m', a3, a4⟩
    | false =>
      rw [if_neg
          Bool.false_ne_true]
      exact q2 σ1 H2 st12 (rs1.stp st2 c2)

/-! ### what is walked -/
def Walks (K : PySem.W.Frag) (J : It) (ds : List D) (s : Sto) (H : Hp) : Prop := ∀ s2 H2, Stp s H s2 H2 → Cells K s2 H2 →
  (∀ i d, ds[i]? = some d → J.go i H2 ∧ ∀ x H3, J.yld i H2 x H3 → Stp s2 H2 s2 H3 ∧ Cells K s2 H3 ∧ Rp K s2 H3 d x) ∧ J.stop ds.length H2
def WL (K : PySem.W.Frag) (s : Sto) (H : Hp) (R : It → Hp → Prop) : List D → Sto → Prop := fun ds s' => ∀ J H', Stp s H s' H' → Cells K s' H' → Walks K J ds s' H' → R J H'
structure PDI (X : Cx) (E : XK) (tg iter : Expr) (wi : TI) (t : DA) : Prop where
  run : PI X tg iter wi
  mo : MoA t
  lift : ∀ (s : Sto) (H : Hp) (σ : L2.St) (ρ : Rho) (R : It → Hp → Prop), RS X.K H s σ ρ → t ρ s (WL X.K s H R) (XL X.K s H E) → wi σ H R
def forD (g : DG) (b : DS) : List D → DEnds → Rho → Sto → Prop
  | [], K, ρ, s => K.nx ρ s
  | d :: ds, K, ρ, s => g d ρ s (fun ρ1 s1 => b { K with nx := forD g b ds K, ct := forD g b ds K, bk := K.nx } ρ1 s1)
def dFor (it : DA) (g : DG) (b : DS) : DS := fun K ρ s => it ρ s (fun ds s1 => forD g b ds K ρ s1) K.xc
theorem mo_forD {g : DG} {b : DS} (hg : ∀ d ρ s (P P' : Rho → Sto → Prop), (∀ ρ s, P ρ s → P' ρ s) → g d ρ s P → g d ρ s P') (hb : MoS b) : ∀ (ds : List D) (K K' : DEnds) (ρ : Rho) (s : Sto), LeD K K' → forD g b ds K ρ s → forD g b ds K' ρ s
  | [], K, K', ρ, s, l, q => l.nx _ _ q
  | d :: ds, K, K', ρ, s, l, q => hg _ _ _ _ _ (fun ρ1 s1 q1 => hb.go (K := { K with nx := forD g b ds K, ct := forD g b ds K, bk := K.nx }) q1 ⟨fun ρ2 s2 q2 => mo_forD hg hb ds K K' ρ2 s2 l q2, l.rt, l.xc, l.nx, fun ρ2 s2 q2 => mo_forD hg hb ds K K' ρ2 s2 l q2⟩)
      (show g d ρ s (fun ρ1 s1 => b { K with nx := forD g b ds K, ct := forD g b ds K, bk := K.nx } ρ1 s1) from q)
theorem pd_for {tg iter : Expr} {body : List Stmt} {wi : TI} {it : DA} {g : TG} {tgd : DG} {tb : DS} {ws : List Nat} (hp : PassesOwn (model X.prog X.w) X.A X.env X.xe) (hc : X.calm = true) (hi : PDI X E tg iter wi it) (hg : PDG X tg ws g tgd) (hb : PDSs X E body tb)
    (hs : ∀ x, foldedSetIterable iter X.env x = pure x := by intro _; rfl) : PDS X E (.For tg iter body [] pos) (dFor it tgd tb) := by
  refine ⟨fun K K' ρ s l q => hi.mo ρ s _ _ _ _ (fun ds s1 q1 => mo_forD hg.mo hb.mo ds K K' ρ s1 l q1) l.xc q, ps_weak (ps_for hp hc hi.run hg.run hb.run hs) fun D σ H ⟨ρ, s, rs, q⟩ => ?_⟩
  refine hi.lift s H σ ρ _ rs (hi.mo ρ s _ _ _ _ (fun ds s1 q1 => ?_) (fun _ _ _ z => z) q)
  intro J H1 st1 c1 wk
  refine ⟨fun i m σ2 H2 => ∃ ρ2 s2, m = ds.length - i ∧ i ≤ ds.length ∧ Stp s1 H1 s2 H2 ∧ RS X.K H2 s2 σ2 ρ2 ∧ forD tgd tb (ds.drop i) (endsL X.K E s H D) ρ2 s2, ⟨ds.length, ρ, s1, rfl, Nat.zero_le _, Stp.refl s1 H1, rs.stp st1 c1, q1⟩, ?_⟩
  rintro i m σ2 H2 ⟨ρ2, s2, rfl, hi2, st2, rs2, f2⟩
  have w2 := wk s2 H2 st2 rs2.cel
  by_cases h : i < ds.length
  · obtain ⟨go, yl⟩ := w2.1 i ds[i] (List.getElem?_eq_getElem h)
    rw [List.drop_eq_getElem_cons h] at f2
    refine .inr ⟨go, fun σ' H' => ∃ ρ' s', Stp s1 H1 s' H' ∧ RS X.K H' s' σ' ρ' ∧ forD tgd tb (ds.drop (i + 1)) (endsL X.K E s H D) ρ' s', ?_, fun x H3 y => ?_⟩
    · rintro σ' H' ⟨ρ', s', a1, a2, a3⟩
      exact ⟨ds.length - (i + 1), by omega, ρ', s', rfl, h, a1, a2, a3⟩
    · obtain ⟨st3, c3, r3⟩ := yl x H3 y
      refine hg.lift0 s2 H3 σ2 ρ2 ds[i] x _ (rs2.stp st3 c3) r3 (hg.mo _ _ _ _ _ (fun ρ4 s4 q4 => ?_) f2)
      intro σ4 H4 st4 rs4
      have st04 := ((st1.trans st2).trans st3).trans st4
      have st14 := (st2.trans st3).trans st4
      refine ⟨ρ4, s4, rs4, hb.mo.go q4 ⟨?_, fun _ _ z => z.stp st04, fun _ _ _ z => z.stp st04, fun _ _ z => z.stp st04, ?_⟩⟩
      · intro ρ5 s5 q5 σ5 H5 st5 rs5
        exact ⟨ρ5, s5, st14.trans st5, rs5, q5⟩
      · intro ρ5 s5 q5 σ5 H5 st5 rs5
        exact ⟨ρ5, s5, st14.trans st5, rs5, q5⟩
  · have e : i = ds.length := by omega
    subst e
    rw [List.drop_length] at f2
    exact .inl ⟨w2.2, f2 σ2 H2 (st1.trans st2) rs2⟩

/-! ### comprehensions -/
def lcD (g : DG) (tt : DT) (te : DE) (Dl : Addr) (ρ0 : Rho) : List D → List D → Sto → (List D → Sto → Prop) → Prop
  | [], acc, s, Q => Q acc s
  | d :: ds, acc, s, Q => g d ρ0 s (fun ρ1 s1 => tt ρ1 s1 (fun b s2 => match b with
    | true => te ρ1 s2 (fun y s3 => s3 Dl = some (.lst acc) ∧ acc.length < sizeLine ∧ lcD g tt te Dl ρ0 ds (acc ++ [y]) (supd s3 Dl (.lst (acc ++ [y]))) Q) (fun _ _ _ => False)
    | false => lcD g tt te Dl ρ0 ds acc s2 Q) (fun _ _ _ => False))
def wipeD (ρ : Rho) : List Nat → Rho
  | [] => ρ
  | v :: vs => ss (wipeD ρ vs) v none
/-- the new list stands still behind -/
def dLc (it : DA) (g : DG) (tt : DT) (te : DE) (vs : List Nat) : DE := fun ρ s Q Z => it ρ s (fun ds s1 => ∀ Dl, s1 Dl = none → lcD g tt te Dl (wipeD ρ vs) ds [] (supd s1 Dl (.lst [])) (fun acc s2 => s2 Dl = some (.lst acc) ∧ Q (.lst acc) (sdel s2 Dl))) Z
/-- .. is a cell behind -/
def dLcC (it : DA) (g : DG) (tt : DT) (te : DE) (vs : List Nat) : DE := fun ρ s Q Z => it ρ s (fun ds s1 => ∀ Dl, s1 Dl = none → lcD g tt te Dl (wipeD ρ vs) ds [] (supd s1 Dl (.lst [])) (fun acc s2 => s2 Dl = some (.lst acc) ∧ Q (.ref Dl) s2)) Z
theorem mo_lcD {g : DG} {tt : DT} {te : DE} {Dl : Addr} {ρ0 : Rho} (hg : ∀ d ρ s (P P' : Rho → Sto → Prop), (∀ ρ s, P ρ s → P' ρ s) → g d ρ s P → g d ρ s P') (ht : MoT tt) (he : MoE te) :
    ∀ (ds acc : List D) (s : Sto) (Q Q' : List D → Sto → Prop), (∀ d s, Q d s → Q' d s) → lcD g tt te Dl ρ0 ds acc s Q → lcD g tt te Dl ρ0 ds acc s Q'
  | [], acc, s, Q, Q', h, q => h _ _ q
  | d :: ds, acc, s, Q, Q', h, q => hg _ _ _ _ _ (fun ρ1 s1 q1 => ht ρ1 s1 _ _ _ _ (fun b s2 q2 => by
      cases b with
      | true => exact he ρ1 s2 _ _ _ _ (fun y s3 q3 => ⟨q3.1, q3.2.1, mo_lcD hg ht he ds _ _ Q Q' h q3.2.2⟩) (fun _ _ _ z => z) q2
      | false => exact mo_lcD hg ht he ds _ _ Q Q' h q2) (fun _ _ _ z => z) q1) q
def EF : XK := fun _ _ _ => False
theorem RS.wipe {s : Sto} {H : Hp} {σ : L2.St} {ρ : Rho} (r : RS K H s σ ρ) : ∀ vs : List Nat, RS K H s (L2.wipe σ vs) (wipeD ρ vs)
  | [] => r
  | v :: vs => (RS.wipe r vs).forget v
theorem wipe_get (σ : L2.St) (j : Nat) : ∀ vs : List Nat, (L2.wipe σ vs)[j]? = if j ∈ vs then (if j < σ.length then some none else none) else σ[j]?
  | [] => by
    rw [if_neg List.not_mem_nil]
    rfl
  | v :: vs => by
    show ((L2.wipe σ vs).set v none)[j]? = _
    by_cases h : v = j
    · rw [if_pos (by rw [h]; exact List.mem_cons_self), h]
      by_cases hl : j < σ.length
      · rw [if_pos hl, List.getElem?_set_self (by rw [L2.wipe_length]; exact hl)]
      · rw [if_neg hl, List.getElem?_eq_none (by rw [List.length_set, L2.wipe_length]; exact Nat.le_of_not_lt hl)]
    · rw [List.getElem?_set_ne h, wipe_get σ j vs]
      by_cases hv : j ∈ vs
      · rw [if_pos hv, if_pos (List.mem_cons_of_mem _ hv)]
      · rw [if_neg hv, if_neg fun z => by
          rcases List.mem_cons.mp z with e | e
          · exact h e.symm
          · exact hv e]
theorem wipe_only {σ σ2 : L2.St} {ws vs : List Nat} (h : OnlyAt ws (L2.wipe σ vs) σ2) (hv : ∀ w, w ∈ ws → w ∈ vs) : L2.wipe σ2 vs = L2.wipe σ vs := by
  apply List.ext_getElem?
  intro j
  have hl : σ2.length = σ.length := h.1.trans (L2.wipe_length _ _)
  rw [wipe_get, wipe_get, hl]
  by_cases hj : j ∈ vs
  · rw [if_pos hj, if_pos hj]
  · rw [if_neg hj, if_neg hj, h.2 j fun z => hj (hv j z), wipe_get, if_neg hj]
/-- tests of a comprehension -/
structure PDTs (X : Cx) (ifs : List Expr) (t : DT) : Prop where
  run : PTs X ifs (liftT X.K EF t)
  mo : MoT t
def dYes : DT := fun _ s Q _ => Q true s
theorem pdts_nil : PDTs X [] dYes := ⟨⟨fun pins s σ H Q I ⟨ρ, s', rs, q⟩ => pts_nil.run pins s σ H Q I (q H (Stp.refl s' H) rs.cel)⟩, fun _ _ _ _ _ _ h _ q => h _ _ q⟩
theorem pdts_one {c : Expr} {t : DT} (h : PDT X EF c t) : PDTs X [c] t := ⟨pts_one h.run, h.mo⟩
variable {elt tg iter : Expr} {ifs : List Expr} {scope : Scope} {own : List (Str × Nat)} {wi : TI} {it : DA} {g : TG} {tgd : DG} {td : DT} {ws : List Nat}
abbrev BlkX (X : Cx) (scope : Scope) (s : Shared) (H : Hp) (C : Addr) (cl : List (Str × Addr)) (fp : List Addr) : Cx := X.blk s H scope (compEnvC scope cl C X.env) fp
/-- the reading of a comprehension, Qd: what follows -/
theorem lift_lc {Qd : List D → Addr → Sto → Prop} {Q : VK} {s : Sto} {H : Hp} {σ : L2.St} {ρ : Rho} (hi : PDI X E tg iter wi it) (gm : ∀ d ρ s (P P' : Rho → Sto → Prop), (∀ ρ s, P ρ s → P' ρ s) → tgd d ρ s P → tgd d ρ s P')
    (gl : ∀ (s : Sto) (H : Hp) (σ : L2.St) (ρ : Rho) (d : D) (v : V) (P : L2.St → Hp → Prop), RS X.K H s σ ρ → Rp X.K s H d v → tgd d ρ s (GL X.K ws s H σ P) → g v σ H P)
    (tm : MoT td) (em : MoE te) (hw : ∀ w, w ∈ ws → w ∈ own.map (·.2)) (rs : RS X.K H s σ ρ)
    (hQ : ∀ acc Dl s2 H2, Stp s H s2 H2 → Cells X.K s2 H2 → s2 Dl = some (.lst acc) → Qd acc Dl s2 → Q (.ref Dl) H2)
    (q : it ρ s (fun ds s1 => ∀ Dl, s1 Dl = none → lcD tgd td te Dl (wipeD ρ (own.map (·.2))) ds [] (supd s1 Dl (.lst [])) (fun acc s2 => s2 Dl = some (.lst acc) ∧ Qd acc Dl s2)) (XL X.K s H E)) :
    tLc wi g (liftT X.K EF td) (liftE X.K EF te) (own.map (·.2)) σ H Q := by
  refine hi.lift s H σ ρ _ rs (hi.mo ρ s _ _ _ _ (fun ds s1 q1 => ?_) (fun _ _ _ z => z) q)
  intro J H1 st1 c1 wk Dl hD
  have q2 := q1 Dl (c1.free hD)
  have cN : Cells X.K (supd s1 Dl (.lst [])) (upd H1 Dl (.lst [])) := cell_new_lst c1 hD .nil
  have stN : Stp s1 H1 (supd s1 Dl (.lst [])) (upd H1 Dl (.lst [])) := stp_cell hD
  have rsN := ((rs.stp st1 c1).stp stN cN).wipe (own.map (·.2))
  refine ⟨fun i m H2 => m = ds.length - i ∧ i ≤ ds.length ∧ ∃ acc s2, Stp (supd s1 Dl (.lst [])) (upd H1 Dl (.lst [])) s2 H2 ∧ RS X.K H2 s2 (L2.wipe σ (own.map (·.2))) (wipeD ρ (own.map (·.2))) ∧
    lcD tgd td te Dl (wipeD ρ (own.map (·.2))) (ds.drop i) acc s2 (fun acc s2 => s2 Dl = some (.lst acc) ∧ Qd acc Dl s2), ⟨ds.length, rfl, Nat.zero_le _, [], _, Stp.refl _ _, rsN, q2⟩, ?_⟩
  rintro i m H2 ⟨rfl, hi2, acc, s2, st2, rs2, f2⟩
  have w2 := wk s2 H2 (stN.trans st2) rs2.cel
  by_cases h : i < ds.length
  · obtain ⟨go, yl⟩ := w2.1 i ds[i] (List.getElem?_eq_getElem h)
    rw [List.drop_eq_getElem_cons h] at f2
    refine .inr ⟨go, fun H' => ∃ acc s', Stp (supd s1 Dl (.lst [])) (upd H1 Dl (.lst [])) s' H' ∧ RS X.K H' s' (L2.wipe σ (own.map (·.2))) (wipeD ρ (own.map (·.2))) ∧
      lcD tgd td te Dl (wipeD ρ (own.map (·.2))) (ds.drop (i + 1)) acc s' (fun acc s2 => s2 Dl = some (.lst acc) ∧ Qd acc Dl s2), ?_, fun x H3 y => ?_⟩
    · rintro H' ⟨acc', s', a1, a2, a3⟩
      exact ⟨ds.length - (i + 1), by omega, rfl, h, acc', s', a1, a2, a3⟩
    · obtain ⟨st3, c3, r3⟩ := yl x H3 y
      refine gl s2 H3 _ _ ds[i] x _ (rs2.stp st3 c3) r3 (gm _ _ _ _ _ (fun ρ4 s4 q4 => ?_) f2)
      intro σ4 H4 st4 rs4 o4
      refine ⟨wipe_only o4 hw, ρ4, s4, rs4, tm ρ4 s4 _ _ _ _ (fun b s5 q5 => ?_) (fun _ _ _ z => z.elim) q4⟩
      intro H5 st5 c5
      have st25 := (st3.trans st4).trans st5
      cases b with
      | true =>
        rw [if_pos rfl]
        refine ⟨ρ4, s5, rs4.stp st5 c5, em ρ4 s5 _ _ _ _ (fun d s6 q6 => ?_) (fun _ _ _ z => z.elim) q5⟩
        intro v H6 st6 c6 r6
        obtain ⟨e1, e2, e3⟩ := q6
        have st26 := st25.trans st6
        obtain ⟨xs, hx, rx⟩ := c6 Dl _ e1
        have cP : Cells X.K (supd s6 Dl (.lst (acc ++ [d]))) (upd H6 Dl (.lst (xs ++ [v]))) := cells_put c6 e1 ⟨_, upd_same, (rx.append (.one r6)).stp (stp_put e1)⟩
        have stP : Stp s6 H6 (supd s6 Dl (.lst (acc ++ [d]))) (upd H6 Dl (.lst (xs ++ [v]))) := stp_put e1
        exact ⟨xs, hx, by rw [← rx.length]; exact e2, acc ++ [d], _, st2.trans (st26.trans stP), rs2.stp (st26.trans stP) cP, e3⟩
      | false =>
        rw [if_neg
            Bool.false_ne_true]
        exact ⟨acc, s5, st2.trans st25, rs2.stp st25 c5, q5⟩
  · have e : i = ds.length := by omega
    subst e
    rw [List.drop_length] at f2
    exact .inl ⟨w2.2, hQ acc Dl s2 H2 ((st1.trans stN).trans st2) rs2.cel f2.1 f2.2⟩
theorem mo_lc {it : DA} {tgd : DG} {td : DT} {te : DE} {vs : List Nat} (hi : MoA it) (hg : ∀ d ρ s (P P' : Rho → Sto → Prop), (∀ ρ s, P ρ s → P' ρ s) → tgd d ρ s P → tgd d ρ s P') (ht : MoT td) (he : MoE te) : MoE (dLc it tgd td te vs) :=
  fun ρ s Q Q' Z Z' h hz q => hi ρ s _ _ _ _ (fun ds s1 q1 Dl hD => mo_lcD hg ht he _ _ _ _ _ (fun acc s2 q2 => ⟨q2.1, h _ _ q2.2⟩) (q1 Dl hD)) hz q
theorem mo_lcC {it : DA} {tgd : DG} {td : DT} {te : DE} {vs : List Nat} (hi : MoA it) (hg : ∀ d ρ s (P P' : Rho → Sto → Prop), (∀ ρ s, P ρ s → P' ρ s) → tgd d ρ s P → tgd d ρ s P') (ht : MoT td) (he : MoE te) : MoE (dLcC it tgd td te vs) :=
  fun ρ s Q Q' Z Z' h hz q => hi ρ s _ _ _ _ (fun ds s1 q1 Dl hD => mo_lcD hg ht he _ _ _ _ _ (fun acc s2 q2 => ⟨q2.1, h _ _ q2.2⟩) (q1 Dl hD)) hz q
theorem pd_lc {te : DE} (hc : X.calm = true) (hN : X.N.Nodup) (hi : PDI X E tg iter wi it) (ok : BlkOk X.N X.env.scope scope own) (hg : ∀ s H C cl fp, PDG (BlkX X scope s H C cl fp) tg ws g tgd) (ht : ∀ s H C cl fp, PDTs (BlkX X scope s H C cl fp) ifs td)
    (he : ∀ s H C cl fp, PD (BlkX X scope s H C cl fp) EF elt te) (hw : ∀ w, w ∈ ws → w ∈ own.map (·.2)) (hs : ∀ x, foldedSetIterable iter X.env x = pure x := by intro _; rfl) : PD X E (.ListComp elt [⟨tg, iter, ifs, 0⟩] scope pos) (dLc it tgd td te (own.map (·.2))) := by
  have g0 := hg {} (fun _ => none) 0 [] []
  have t0 := ht {} (fun _ => none) 0 [] []
  have e0 := he {} (fun _ => none) 0 [] []
  refine ⟨mo_lc hi.mo g0.mo t0.mo e0.mo, pe_weak (pe_lc (te := liftE X.K EF te) (tt := liftT X.K EF td) hc hN hi.run ok (fun s H C cl fp => (hg s H C cl fp).run) (fun s H C cl fp => (ht s H C cl fp).run) (fun s H C cl fp => (he s H C cl fp).run) hs) fun σ H Q ⟨ρ, s, rs, q⟩ => ?_⟩
  exact lift_lc (Qd := fun acc Dl s2 => QL X.K s H Q (.lst acc) (sdel s2 Dl)) hi g0.mo g0.lift t0.mo e0.mo hw rs (fun acc Dl s2 H2 st c e qd => qd (.ref Dl) H2 (st.trans stp_del) (cells_del c) (rp_frz c e rfl)) q
theorem pd_lcC {te : DE} (hc : X.calm = true) (hN : X.N.Nodup) (hi : PDI X E tg iter wi it) (ok : BlkOk X.N X.env.scope scope own) (hg : ∀ s H C cl fp, PDG (BlkX X scope s H C cl fp) tg ws g tgd) (ht : ∀ s H C cl fp, PDTs (BlkX X scope s H C cl fp) ifs td)
    (he : ∀ s H C cl fp, PD (BlkX X scope s H C cl fp) EF elt te) (hw : ∀ w, w ∈ ws → w ∈ own.map (·.2)) (hs : ∀ x, foldedSetIterable iter X.env x = pure x := by intro _; rfl) : PD X E (.ListComp elt [⟨tg, iter, ifs, 0⟩] scope pos) (dLcC it tgd td te (own.map (·.2))) := by
  have g0 := hg {} (fun _ => none) 0 [] []
  have t0 := ht {} (fun _ => none) 0 [] []
  have e0 := he {} (fun _ => none) 0 [] []
  refine ⟨mo_lcC hi.mo g0.mo t0.mo e0.mo, pe_weak (pe_lc (te := liftE X.K EF te) (tt := liftT X.K EF td) hc hN hi.run ok (fun s H C cl fp => (hg s H C cl fp).run) (fun s H C cl fp => (ht s H C cl fp).run) (fun s H C cl fp => (he s H C cl fp).run) hs) fun σ H Q ⟨ρ, s, rs, q⟩ => ?_⟩
  exact lift_lc (Qd := fun acc Dl s2 => QL X.K s H Q (.ref Dl) s2) hi g0.mo g0.lift t0.mo e0.mo hw rs (fun acc Dl s2 H2 st c e qd => qd (.ref Dl) H2 st c (.ref Dl)) q
/-- name = [..] on one line -/
theorem pd_setLc {te : DE} {i : Nat} {y : Str} {py spos : Pos} (hc : X.calm = true) (hN : X.N.Nodup) (hy : X.N[i]? = some y) (hyl : X.env.scope.names.lookup y = some .local) (hsw : swapsWith (.ListComp elt [⟨tg, iter, ifs, 0⟩] scope pos) (some (.Name y py)) spos.line X.env = pure true)
    (hi : PDI X E tg iter wi it) (ok : BlkOk X.N X.env.scope scope own) (hg : ∀ s H C cl fp, PDG (BlkX X scope s H C cl fp) tg ws g tgd) (ht : ∀ s H C cl fp, PDTs (BlkX X scope s H C cl fp) ifs td)
    (he : ∀ s H C cl fp, PD (BlkX X scope s H C cl fp) EF elt te) (hw : ∀ w, w ∈ ws → w ∈ own.map (·.2)) (hs : ∀ x, foldedSetIterable iter X.env x = pure x := by intro _; rfl) : PDS X E (.Assign [.Name y py] (.ListComp elt [⟨tg, iter, ifs, 0⟩] scope pos) spos) (dAsg (dLc it tgd td te (own.map (·.2))) (gN i)) := by
  have g0 := hg {} (fun _ => none) 0 [] []
  have t0 := ht {} (fun _ => none) 0 [] []
  have e0 := he {} (fun _ => none) 0 [] []
  refine ⟨mo_asg (mo_lc hi.mo g0.mo t0.mo e0.mo) (fun d ρ s P P' hp q => hp _ _ q), ps_weak (ps_setLc (te := liftE X.K EF te) (tt := liftT X.K EF td) hc hN hy hyl hsw hi.run ok (fun s H C cl fp => (hg s H C cl fp).run) (fun s H C cl fp => (ht s H C cl fp).run) (fun s H C cl fp => (he s H C cl fp).run) hs) fun D σ H ⟨ρ, s, rs, q⟩ => ?_⟩
  exact lift_lc (Qd := fun acc Dl s2 => SL X.K s H D.nx (ss ρ i (some (.lst acc))) (sdel s2 Dl)) hi g0.mo g0.lift t0.mo e0.mo hw rs (fun acc Dl s2 H2 st c e qd => qd _ H2 (st.trans stp_del) ((rs.stp (st.trans stp_del) (cells_del c)).set (rp_frz c e rfl) i)) q
theorem pd_setLcC {te : DE} {i : Nat} {y : Str} {py spos : Pos} (hc : X.calm = true) (hN : X.N.Nodup) (hy : X.N[i]? = some y) (hyl : X.env.scope.names.lookup y = some .local) (hsw : swapsWith (.ListComp elt [⟨tg, iter, ifs, 0⟩] scope pos) (some (.Name y py)) spos.line X.env = pure true)
    (hi : PDI X E tg iter wi it) (ok : BlkOk X.N X.env.scope scope own) (hg : ∀ s H C cl fp, PDG (BlkX X scope s H C cl fp) tg ws g tgd) (ht : ∀ s H C cl fp, PDTs (BlkX X scope s H C cl fp) ifs td)
    (he : ∀ s H C cl fp, PD (BlkX X scope s H C cl fp) EF elt te) (hw : ∀ w, w ∈ ws → w ∈ own.map (·.2)) (hs : ∀ x, foldedSetIterable iter X.env x = pure x := by intro _; rfl) : PDS X E (.Assign [.Name y py] (.ListComp elt [⟨tg, iter, ifs, 0⟩] scope pos) spos) (dAsg (dLcC it tgd td te (own.map (·.2))) (gN i)) := by
  have g0 := hg {} (fun _ => none) 0 [] []
  have t0 := ht {} (fun _ => none) 0 [] []
  have e0 := he {} (fun _ => none) 0 [] []
  refine ⟨mo_asg (mo_lcC hi.mo g0.mo t0.mo e0.mo) (fun d ρ s P P' hp q => hp _ _ q), ps_weak (ps_setLc (te := liftE X.K EF te) (tt := liftT X.K EF td) hc hN hy hyl hsw hi.run ok (fun s H C cl fp => (hg s H C cl fp).run) (fun s H C cl fp => (ht s H C cl fp).run) (fun s H C cl fp => (he s H C cl fp).run) hs) fun D σ H ⟨ρ, s, rs, q⟩ => ?_⟩
  exact lift_lc (Qd := fun acc Dl s2 => SL X.K s H D.nx (ss ρ i (some (.ref Dl))) s2) hi g0.mo g0.lift t0.mo e0.mo hw rs (fun acc Dl s2 H2 st c e qd => qd _ H2 st ((rs.stp st c).set (.ref Dl) i)) q
end

/-! ### a def -/
section
variable {P : Program} {w : World} {K : PySem.W.Frag}
    {mg : Str → Option Value} {base : Heap}
abbrev cxG (P : Program) (w : World) (K : PySem.W.Frag) (mg : Str → Option Value) (base : Heap) (N : List Str) (qual : Str) (sc : Scope) (f : Addr) (cdv : Value) (A : Around) (outer : List Env) (s : Shared) (H : Hp) (E : XK) : Cx := cxOf (L2.CX P w) P w K mg base N qual sc f cdv A outer s H E
theorem takesG {N : List Str} {qual : Str} {sc : Scope} {f : Addr} {cdv : Value} {A : Around} {outer : List Env} {s : Shared} {H : Hp} {E : XK} : Takes (cxG P w K mg base N qual sc f cdv A outer s H E) (fun cls d _ H => E cls d H) := takes_of rfl rfl rfl rfl
theorem passG {N : List Str} {qual : Str} {sc : Scope} {f : Addr} {cdv : Value} {A : Around} {outer : List Env} {s : Shared} {H : Hp} {E : XK} : PassX (cxG P w K mg base N qual sc f cdv A outer s H E) E := passes_call takesG fun _ _ _ _ h => h
theorem passOwnG {N : List Str} {qual : Str} {sc : Scope} {f : Addr} {cdv : Value} {A : Around} {outer : List Env} {s : Shared} {H : Hp} {E : XK} : PassesOwn (model P w) (cxG P w K mg base N qual sc f cdv A outer s H E).A (cxG P w K mg base N qual sc f cdv A outer s H E).env (cxG P w K mg base N qual sc f cdv A outer s H E).xe := PassesOwn.leaving
theorem passB {X : Cx} : PassX X EF := passL
def startD (n : Nat) (ds : List D) : Rho := ds.map some ++ List.replicate (n - ds.length) none
def noEnd : Rho → Sto → Prop := fun _ _ => False
theorem sg_start {s : Sto} {H : Hp} : ∀ {ds : List D} {vs : List V} (m : Nat) {i : Nat} {d : D}, RpL K s H ds vs → sg (ds.map some ++ List.replicate m none) i = some d → ∃ v, (vs.map some ++ List.replicate m none)[i]? = some (some v) ∧ Rp K s H d v
  | _, _, 0, i, d, .nil, e => by
    cases i <;> cases e
  | _, _, m + 1, 0, d, .nil, e => by cases e
  | _, _, m + 1, i + 1, d, .nil, e => by
    obtain ⟨v, h1, _⟩ := sg_start m (i := i) (d := d) (ds := []) (vs := []) (RpL.nil (s := s) (H := H)) e
    exfalso
    revert h1
    show (List.replicate m (none : Option V))[i]? = some (some v) → False
    intro h1
    have q := List.mem_of_getElem? h1
    have z := List.eq_of_mem_replicate q
    cases z
  | _, _, m, 0, d, .cons (v := v) h r, e => by
    cases e
    exact ⟨v, rfl, h⟩
  | _, _, m, i + 1, d, .cons h r, e => by
    obtain ⟨v, h1, h2⟩ := sg_start m (i := i) (d := d) r e
    exact ⟨v, h1, h2⟩
theorem rs_start {s : Sto} {H : Hp} {N : List Str} {ds : List D} {vs : List V} (r : RpL K s H ds vs) (c : Cells K s H) : RS K H s (L2.start N vs) (startD N.length ds) := by
  have hl := r.length
  refine ⟨?_, fun i d e => ?_, c⟩
  · unfold L2.start startD
    rw [List.length_append, List.length_append, List.length_map, List.length_map, List.length_replicate, List.length_replicate, hl]
  · unfold L2.start
    unfold startD at e
    rw [hl] at e
    exact sg_start _ r e
/-- THE RULE for a def -/
theorem okG {x qual : Str} {st : Stmt} {f : Addr} {fd : FuncData} {N ps : List Str} {k n : Nat} {g : DF} (F : Fun K x qual st f fd) (S : FnScope N ps (defScope st)) (hn : ps.length = n)
    (hbody : ∀ (cdv : Value) (A : Around) (outer : List Env) (s : Shared) (H : Hp) (E : XK), Room k (A.deeper (envOfC qual (defScope st) s.heap.objs.size f cdv)) →
      ∃ t, PDSs (cxG P w K mg base N qual (defScope st) f cdv A outer s H E) E (defBody st) t ∧ ∀ ds s Q Z, ds.length = n → g ds s Q Z → t ⟨fun _ s' => Q .non s', Q, Z, noEnd, noEnd⟩ (startD N.length ds) s) :
    FnOk P w K mg base (L2.CX P w) (k + 1) f fd ps (spG K n g) := by
  refine F.okX S (fun vs H Q E h => ?_) (fun cdv A outer s H vs Q E hr h => ?_)
  · obtain ⟨ds, s, h1, h2, _⟩ := h
    rw [← h2.length, h1, hn]
  · obtain ⟨ds, st0, h1, h2, c, h3⟩ := h
    obtain ⟨t, ht, hq⟩ := hbody cdv A outer s H E hr
    refine ⟨_, ht.run, _, st0, rs_start h2 c, ht.mo.go (hq ds st0 _ _ h1 h3) ⟨?_, fun _ _ z => z, fun _ _ _ z => z, fun _ _ z => z.elim, fun _ _ z => z.elim⟩⟩
    intro ρ' s' q σ' H' st rs
    exact q .non H' st rs.cel .non
theorem defG {x : Str} {st : Stmt} {f : Addr} {fd : FuncData} {ps : List Str} {k n : Nat} {g : DF} (F : Fun K x x st f fd) (hb : Binds K fd ps []) (hm : mg x = some (.ref f)) (mo : MoF g) (ok : FnOk P w K mg base (L2.CX P w) k f fd ps (spG K n g)) : DefOk P w K mg base k x n g :=
  ⟨mo, f, fd, ps, hm, F.kp, hb, ok⟩
end
end G

/-! GLay5: the operators and built-ins over data. -/
namespace G
open PySem
open PySem.Spec PyProof.Rows L2
section
variable {X : Cx} {E : XK} {K : PySem.W.Frag}
theorem ql {s : Sto} {H : Hp} {Q : VK} {d : D} {v : V} (h : QL K s H Q d s) (c : Cells K s H) (r : Rp K s H d v) : Q v H := h v H (Stp.refl s H) c r

/-! ### numbers -/
def rdI (C : Int → Int → Prop) (g : Int → Int → D) : RD := fun x y s Q => match x, y with
  | .int i, .int j => C i j ∧ Q (g i j) s
  | _, _ => False
theorem mo_I {C : Int → Int → Prop} {g : Int → Int → D} : MoR (rdI C g) := fun x y s Q Q' h q => by
  match x, y, q with
  | .int i, .int j, q => exact ⟨q.1, h _ _ q.2⟩
theorem op_I {C : Int → Int → Prop} {g : Int → Int → V} {gd : Int → Int → D} (hg : ∀ s H i j, Rp K s H (gd i j) (g i j)) : OpD K (rI C g) (rdI C gd) := fun s H x y dx dy Q c rx ry q => by
  match dx, dy, q, rx, ry with
  | .int i, .int j, q, .int _, .int _ => exact ⟨i, j, rfl, rfl, q.1, ql q.2 c (hg s H i j)⟩
def rdI0 (g : Int → Int → D) : RD := fun x y s Q => match x, y with
  | .int i, .int j => Q (g i j) s
  | _, _ => False
theorem mo_I0 {g : Int → Int → D} : MoR (rdI0 g) := fun x y s Q Q' h q => by
  match x, y, q with
  | .int i, .int j, q => exact h _ _ q
theorem op_I0 {g : Int → Int → V} {gd : Int → Int → D} (hg : ∀ s H i j, Rp K s H (gd i j) (g i j)) : OpD K (rI0 g) (rdI0 gd) := fun s H x y dx dy Q c rx ry q => by
  match dx, dy, q, rx, ry with
  | .int i, .int j, q, .int _, .int _ => exact ⟨i, j, rfl, rfl, ql q c (hg s H i j)⟩
variable {a b : Expr} {ta tb : DE} {pos : Pos}
def rdAddI : RD := rdI0 fun i j => .int (i + j)
def rdSubI : RD := rdI0 fun i j => .int (i - j)
def rdMulI : RD := rdI CMul fun i j => .int (i * j)
def rdModI : RD := rdI (fun _ j => 0 < j) fun i j => .int (i % j)
def rdDivI : RD := rdI CDiv fun i j => .int (i / j)
def rdPowI : RD := rdI CPow fun i j => .int (i ^ j.toNat)
theorem pd_addI (ha : PD X E a ta) (hb : PD X E b tb) : PD X E (.BinOp a .Add b pos) (dOp rdAddI ta tb) := pd_op op_add (op_I0 fun _ _ _ _ => .int _) mo_I0 ha hb
theorem pd_subI (ha : PD X E a ta) (hb : PD X E b tb) : PD X E (.BinOp a .Sub b pos) (dOp rdSubI ta tb) := pd_op op_sub (op_I0 fun _ _ _ _ => .int _) mo_I0 ha hb
theorem pd_mulI (ha : PD X E a ta) (hb : PD X E b tb) : PD X E (.BinOp a .Mult b pos) (dOp rdMulI ta tb) := pd_op op_mul (op_I fun _ _ _ _ => .int _) mo_I ha hb
theorem pd_modI (ha : PD X E a ta) (hb : PD X E b tb) : PD X E (.BinOp a .Mod b pos) (dOp rdModI ta tb) := pd_op op_mod (op_I fun _ _ _ _ => .int _) mo_I ha hb
theorem pd_divI (ha : PD X E a ta) (hb : PD X E b tb) : PD X E (.BinOp a .FloorDiv b pos) (dOp rdDivI ta tb) := pd_op op_fdiv (op_I fun _ _ _ _ => .int _) mo_I ha hb
theorem pd_powI (ha : PD X E a ta) (hb : PD X E b tb) : PD X E (.BinOp a .Pow b pos) (dOp rdPowI ta tb) := pd_op op_pow (op_I fun _ _ _ _ => .int _) mo_I ha hb
def rdLt : RD := rdI0 fun i j => .bl (decide (i < j))
def rdLe : RD := rdI0 fun i j => .bl (decide (i ≤ j))
def rdGt : RD := rdI0 fun i j => .bl (decide (j < i))
def rdGe : RD := rdI0 fun i j => .bl (decide (j ≤ i))
theorem pd_lt (ha : PD X E a ta) (hb : PD X E b tb) : PD X E (.Compare a [.Lt] [b] pos) (dOp rdLt ta tb) := pd_cmp op_lt (op_I0 fun _ _ _ _ => .bl _) mo_I0 ha hb (nomark _)
theorem pd_le (ha : PD X E a ta) (hb : PD X E b tb) : PD X E (.Compare a [.LtE] [b] pos) (dOp rdLe ta tb) := pd_cmp op_le (op_I0 fun _ _ _ _ => .bl _) mo_I0 ha hb (nomark _)
theorem pd_gt (ha : PD X E a ta) (hb : PD X E b tb) : PD X E (.Compare a [.Gt] [b] pos) (dOp rdGt ta tb) := pd_cmp op_gt (op_I0 fun _ _ _ _ => .bl _) mo_I0 ha hb (nomark _)
theorem pd_ge (ha : PD X E a ta) (hb : PD X E b tb) : PD X E (.Compare a [.GtE] [b] pos) (dOp rdGe ta tb) := pd_cmp op_ge (op_I0 fun _ _ _ _ => .bl _) mo_I0 ha hb (nomark _)
theorem pt_ltD (ha : PD X E a ta) (hb : PD X E b tb) : PDT X E (.Compare a [.Lt] [b] pos) (dB (dOp rdLt ta tb)) := pd_cmpT op_lt (op_I0 fun _ _ _ _ => .bl _) mo_I0 ha hb (nomark _)
theorem pt_leD (ha : PD X E a ta) (hb : PD X E b tb) : PDT X E (.Compare a [.LtE] [b] pos) (dB (dOp rdLe ta tb)) := pd_cmpT op_le (op_I0 fun _ _ _ _ => .bl _) mo_I0 ha hb (nomark _)
theorem pt_gtD (ha : PD X E a ta) (hb : PD X E b tb) : PDT X E (.Compare a [.Gt] [b] pos) (dB (dOp rdGt ta tb)) := pd_cmpT op_gt (op_I0 fun _ _ _ _ => .bl _) mo_I0 ha hb (nomark _)
theorem pt_geD (ha : PD X E a ta) (hb : PD X E b tb) : PDT X E (.Compare a [.GtE] [b] pos) (dB (dOp rdGe ta tb)) := pd_cmpT op_ge (op_I0 fun _ _ _ _ => .bl _) mo_I0 ha hb (nomark _)

/-! ### texts, tuples, lists put together -/
def rdAddS : RD := fun x y s Q => match x, y with
  | .str i, .str j => i.length + j.length ≤ sizeLine ∧ Q (.str (i ++ j)) s
  | _, _ => False
theorem pd_addS (ha : PD X E a ta) (hb : PD X E b tb) : PD X E (.BinOp a .Add b pos) (dOp rdAddS ta tb) := pd_op op_add_str (fun s H x y dx dy Q c rx ry q => by
  match dx, dy, q, rx, ry with
  | .str i, .str j, q, .str _, .str _ => exact ⟨i, j, rfl, rfl, q.1, ql q.2 c (.str _)⟩) (fun x y s Q Q' h q => by
  match x, y, q with
  | .str i, .str j, q => exact ⟨q.1, h _ _ q.2⟩) ha hb
def rdAddL : RD := fun x y s Q => match x, y with
  | .lst i, .lst j => i.length + j.length ≤ sizeLine ∧ Q (.lst (i ++ j)) s
  | _, _ => False
theorem pd_addL (ha : PD X E a ta) (hb : PD X E b tb) : PD X E (.BinOp a .Add b pos) (dOp rdAddL ta tb) := pd_op op_cat (fun s H x y dx dy Q c rx ry q => by
  match dx, dy, q, rx, ry with
  | .lst i, .lst j, q, .lst (a := p) (xs := xs) h1 r1, .lst (a := p2) (xs := ys) h2 r2 =>
    refine ⟨p, p2, xs, ys, rfl, rfl, h1.2, h2.2, by rw [← r1.length, ← r2.length]; exact q.1, fun l hl => ?_⟩
    exact q.2 _ _ (stp_new hl) (cells_new c hl) (rp_new_lst c hl (r1.append r2))) (fun x y s Q Q' h q => by
  match x, y, q with
  | .lst i, .lst j, q => exact ⟨q.1, h _ _ q.2⟩) ha hb
def rdAddT : RD := fun x y s Q => match x, y with
  | .tup i, .tup j => i ≠ [] ∧ i.length + j.length ≤ sizeLine ∧ Q (.tup (i ++ j)) s
  | _, _ => False
theorem RpL.nil_iff {s : Sto} {H : Hp} {ds : List D} {vs : List V} (r : RpL K s H ds vs) : ds = [] ↔ vs = [] := by
  cases r with
  | nil => exact ⟨fun _ => rfl, fun _ => rfl⟩
  | cons _ _ => exact ⟨fun z => (nomatch z), fun z => (nomatch z)⟩
theorem pd_addT (ha : PD X E a ta) (hb : PD X E b tb) : PD X E (.BinOp a .Add b pos) (dOp rdAddT ta tb) := pd_op op_catT (fun s H x y dx dy Q c rx ry q => by
  match dx, dy, q, rx, ry with
  | .tup i, .tup j, q, .tup (a := p) (xs := xs) h1 r1, .tup (a := p2) (xs := ys) h2 r2 =>
    refine ⟨p, p2, xs, ys, rfl, rfl, h1.sq, h2.sq, fun z => q.1 (r1.nil_iff.mpr z), by rw [← r1.length, ← r2.length]; exact q.2.1, ?_⟩
    first
      | exact ⟨fun e => ql (by have z := r2.nil_iff.mpr e; subst z; have q2 := q.2.2; rw [List.append_nil] at q2; exact q2) c (.tup h1 r1), fun _ l hl => q.2.2 _ _ (stp_new hl) (cells_new c hl) (rp_new_tup c hl (r1.append r2))⟩
      | exact fun l hl => q.2.2 _ _ (stp_new hl) (cells_new c hl) (rp_new_tup c hl (r1.append r2))
      | (by_cases e : ys = []
         · exact .inl ⟨e, ql (by have z := r2.nil_iff.mpr e; subst z; have q2 := q.2.2; rw [List.append_nil] at q2; exact q2) c (.tup h1 r1)⟩
         · exact .inr ⟨e, fun l hl => q.2.2 _ _ (stp_new hl) (cells_new c hl) (rp_new_tup c hl (r1.append r2))⟩)) (fun x y s Q Q' h q => by
  match x, y, q with
  | .tup i, .tup j, q => exact ⟨q.1, q.2.1, h _ _ q.2.2⟩) ha hb

/-! ### == of scalars -/
def eqS : D → D → Option Bool
  | .str i, .str j => some (i == j)
  | .int i, .int j => some (i == j)
  | .bl i, .bl j => some (i == j)
  | .non, .non => some true
  | .non, .str _ => some false
  | .str _, .non => some false
  | .non, .int _ => some false
  | .int _, .non => some false
  | .str _, .int _ => some false
  | .int _, .str _ => some false
  | _, _ => none
def rdEq (neg : Bool) : RD := fun x y s Q => match eqS x y with
  | some k => Q (.bl (if neg then !k else k)) s
  | none => False
theorem mo_Eq {neg : Bool} : MoR (rdEq neg) := fun x y s Q Q' h q => by
  unfold rdEq at q ⊢
  split at q
  · exact h _ _ q
  · exact q
theorem op_Eq : OpD K rEq (rdEq false) := fun s H x y dx dy Q c rx ry q => by
  unfold rdEq at q
  split at q
  · rename_i k e
    match dx, dy, rx, ry, e with
    | .str i, .str j, .str _, .str _, e => exact ⟨rfl, by rw [dec_str]; cases e; exact ql q c (.bl _)⟩
    | .int i, .int j, .int _, .int _, e => exact ⟨rfl, by rw [dec_int]; cases e; exact ql q c (.bl _)⟩
    | .bl i, .bl j, .bl _, .bl _, e => exact ⟨rfl, by rw [dec_bl]; cases e; exact ql q c (.bl _)⟩
    | .non, .non, .non, .non, e => exact ⟨rfl, by cases e; exact ql q c (.bl _)⟩
    | .non, .str _, .non, .str _, e => exact ⟨rfl, by cases e; exact ql q c (.bl _)⟩
    | .str _, .non, .str _, .non, e => exact ⟨rfl, by cases e; exact ql q c (.bl _)⟩
    | .non, .int _, .non, .int _, e => exact ⟨rfl, by cases e; exact ql q c (.bl _)⟩
    | .int _, .non, .int _, .non, e => exact ⟨rfl, by cases e; exact ql q c (.bl _)⟩
    | .str _, .int _, .str _, .int _, e => exact ⟨rfl, by cases e; exact ql q c (.bl _)⟩
    | .int _, .str _, .int _, .str _, e => exact ⟨rfl, by cases e; exact ql q c (.bl _)⟩
  · exact q.elim
theorem op_Ne : OpD K rNe (rdEq true) := fun s H x y dx dy Q c rx ry q => by
  unfold rdEq at q
  split at q
  · rename_i k e
    match dx, dy, rx, ry, e with
    | .str i, .str j, .str _, .str _, e => exact ⟨rfl, by rw [dec_str]; cases e; exact ql q c (.bl _)⟩
    | .int i, .int j, .int _, .int _, e => exact ⟨rfl, by rw [dec_int]; cases e; exact ql q c (.bl _)⟩
    | .bl i, .bl j, .bl _, .bl _, e => exact ⟨rfl, by rw [dec_bl]; cases e; exact ql q c (.bl _)⟩
    | .non, .non, .non, .non, e => exact ⟨rfl, by cases e; exact ql q c (.bl _)⟩
    | .non, .str _, .non, .str _, e => exact ⟨rfl, by cases e; exact ql q c (.bl _)⟩
    | .str _, .non, .str _, .non, e => exact ⟨rfl, by cases e; exact ql q c (.bl _)⟩
    | .non, .int _, .non, .int _, e => exact ⟨rfl, by cases e; exact ql q c (.bl _)⟩
    | .int _, .non, .int _, .non, e => exact ⟨rfl, by cases e; exact ql q c (.bl _)⟩
    | .str _, .int _, .str _, .int _, e => exact ⟨rfl, by cases e; exact ql q c (.bl _)⟩
    | .int _, .str _, .int _, .str _, e => exact ⟨rfl, by cases e; exact ql q c (.bl _)⟩
  · exact q.elim
theorem pd_eq (ha : PD X E a ta) (hb : PD X E b tb) : PD X E (.Compare a [.Eq] [b] pos) (dOp (rdEq false) ta tb) := pd_cmp op_eq op_Eq mo_Eq ha hb (nomark _)
theorem pd_ne (ha : PD X E a ta) (hb : PD X E b tb) : PD X E (.Compare a [.NotEq] [b] pos) (dOp (rdEq true) ta tb) := pd_cmp op_ne op_Ne mo_Eq ha hb (nomark _)
theorem pt_eqD (ha : PD X E a ta) (hb : PD X E b tb) : PDT X E (.Compare a [.Eq] [b] pos) (dB (dOp (rdEq false) ta tb)) := pd_cmpT op_eq op_Eq mo_Eq ha hb (nomark _)
theorem pt_neD (ha : PD X E a ta) (hb : PD X E b tb) : PDT X E (.Compare a [.NotEq] [b] pos) (dB (dOp (rdEq true) ta tb)) := pd_cmpT op_ne op_Ne mo_Eq ha hb (nomark _)

/-! ### == of data -/
mutual
def toP : D → Option PyData
  | .non => some .none
  | .bl b => some (.bool b)
  | .int i => some (.int i)
  | .str x => some (.str x)
  | .tup l => (toPs l).map .tuple
  | .lst l => (toPs l).map .list
  | .fz l => (toPs l).map .list
  | .ty _ => none
  | .ref _ => none
  | .ins _ _ => none
def toPs : List D → Option (List PyData)
  | [] => some []
  | d :: ds => match toP d, toPs ds with
    | some x,
        some r => some (x :: r)
    | _, _ => none
end
mutual
theorem Rp.dp {s : Sto} {H : Hp} : ∀ {d : D} {v : V} {p : PyData}, Rp K s H d v → toP d = some p → Dp K H v p
  | _, _, _, .non, e => by cases e; exact .non
  | _, _, _, .bl b, e => by cases e; exact .bl b
  | _, _, _, .int i, e => by cases e; exact .int i
  | _, _, _, .str x, e => by cases e; exact .str x
  | _, _, _, .ty _, e => by cases e
  | _, _, _, .ref _, e => by cases e
  | _, _, _, .ins _ _ _, e => by cases e
  | _, _, _, .tup (l := l) h r, e => by
    unfold toP at e
    cases q : toPs l with
    | none =>
      rw [q] at e
      cases e
    | some ps =>
      rw [q] at e
      cases e
      exact .tup h.sq (RpL.dp r q)
  | _, _, _, .lst (l := l) h r, e => by
    unfold toP at e
    cases q : toPs l with
    | none =>
      rw [q] at e
      cases e
    | some ps =>
      rw [q] at e
      cases e
      exact .lst h.sq (RpL.dp r q)
  | _, _, _, .fz (l := l) h r, e => by
    unfold toP at e
    cases q : toPs l with
    | none =>
      rw [q] at e
      cases e
    | some ps =>
      rw [q] at e
      cases e
      exact .lst h.sq (RpL.dp r q)
theorem RpL.dp {s : Sto} {H : Hp} : ∀ {d : List D} {v : List V} {p : List PyData}, RpL K s H d v → toPs d = some p → DpAll K H v p
  | _, _, _, .nil, e => by
    unfold toPs at e
    cases e
    exact .nil
  | _, _, _, .cons (d := d) (ds := ds) h r, e => by
    unfold toPs at e
    cases q1 : toP d with
    | none =>
      rw [q1] at e
      cases e
    | some x =>
      cases q2 : toPs ds with
      | none =>
        rw [q1, q2] at e
        cases e
      | some y =>
        rw [q1, q2] at e
        cases e
        exact .cons (Rp.dp h q1) (RpL.dp r q2)
end
def rdEqD (neg : Bool) : RD := fun x y s Q => ∃ p q, toP x = some p ∧ toP y = some q ∧ SeqAt.shaped p = true ∧ SeqAt.shaped q = true ∧ Q (.bl (if neg then !PyData.eqv p q else PyData.eqv p q)) s
theorem mo_EqD {neg : Bool} : MoR (rdEqD neg) := fun x y s Q Q' h ⟨p, q, h1, h2, h3, h4, h5⟩ => ⟨p, q, h1, h2, h3, h4, h _ _ h5⟩
theorem op_EqD : OpD K (rEqD K) (rdEqD false) := fun s H x y dx dy Q c rx ry ⟨p, q, h1, h2, h3, h4, h5⟩ => ⟨p, q, rx.dp h1, ry.dp h2, h3, h4, ql h5 c (.bl _)⟩
theorem op_NeD : OpD K (rNeD K) (rdEqD true) := fun s H x y dx dy Q c rx ry ⟨p, q, h1, h2, h3, h4, h5⟩ => ⟨p, q, rx.dp h1, ry.dp h2, h3, h4, ql h5 c (.bl _)⟩
theorem pd_eqP {k : Nat} (hr : Room k X.A) (ha : PD X E a ta) (hb : PD X E b tb) : PD X E (.Compare a [.Eq] [b] pos) (dOp (rdEqD false) ta tb) := pd_cmp (op_eqD hr.units) op_EqD mo_EqD ha hb (nomark _)
theorem pd_neP {k : Nat} (hr : Room k X.A) (ha : PD X E a ta) (hb : PD X E b tb) : PD X E (.Compare a [.NotEq] [b] pos) (dOp (rdEqD true) ta tb) := pd_cmp (op_neD hr.units) op_NeD mo_EqD ha hb (nomark _)
theorem pt_eqP {k : Nat} (hr : Room k X.A) (ha : PD X E a ta) (hb : PD X E b tb) : PDT X E (.Compare a [.Eq] [b] pos) (dB (dOp (rdEqD false) ta tb)) := pd_cmpT (op_eqD hr.units) op_EqD mo_EqD ha hb (nomark _)
theorem pt_neP {k : Nat} (hr : Room k X.A) (ha : PD X E a ta) (hb : PD X E b tb) : PDT X E (.Compare a [.NotEq] [b] pos) (dB (dOp (rdEqD true) ta tb)) := pd_cmpT (op_neD hr.units) op_NeD mo_EqD ha hb (nomark _)

/-! ### is None, is a bool -/
def isNon : D → Bool
  | .non => true
  | _ => false
theorem dec_non {s : Sto} {H : Hp} {d : D} {v : V} (r : Rp K s H d v) : decide (v = V.non) = isNon d := by
  cases r <;> rfl
def rdIsN (neg : Bool) : RD := fun x y s Q => match y with
  | .non => Q (.bl (if neg then !isNon x else isNon x)) s
  | _ => False
theorem mo_IsN {neg : Bool} : MoR (rdIsN neg) := fun x y s Q Q' h q => by
  match y, q with
  | .non, q => exact h _ _ q
theorem pd_isN (ha : PD X E a ta) (hb : PD X E b tb) : PD X E (.Compare a [.Is] [b] pos) (dOp (rdIsN false) ta tb) := pd_cmp op_isN (fun s H x y dx dy Q c rx ry q => by
  match dy, q, ry with
  | .non, q, .non => exact ⟨rfl, by rw [dec_non rx]; exact ql q c (.bl _)⟩) mo_IsN ha hb (nomark _)
theorem pt_isN (ha : PD X E a ta) (hb : PD X E b tb) : PDT X E (.Compare a [.Is] [b] pos) (dB (dOp (rdIsN false) ta tb)) := pd_cmpT op_isN (fun s H x y dx dy Q c rx ry q => by
  match dy, q, ry with
  | .non, q, .non => exact ⟨rfl, by rw [dec_non rx]; exact ql q c (.bl _)⟩) mo_IsN ha hb (nomark _)
theorem pd_notN (ha : PD X E a ta) (hb : PD X E b tb) : PD X E (.Compare a [.IsNot] [b] pos) (dOp (rdIsN true) ta tb) := pd_cmp op_notN (fun s H x y dx dy Q c rx ry q => by
  match dy, q, ry with
  | .non, q, .non => exact ⟨rfl, by rw [dec_non rx]; exact ql q c (.bl _)⟩) mo_IsN ha hb (nomark _)
theorem pt_notN (ha : PD X E a ta) (hb : PD X E b tb) : PDT X E (.Compare a [.IsNot] [b] pos) (dB (dOp (rdIsN true) ta tb)) := pd_cmpT op_notN (fun s H x y dx dy Q c rx ry q => by
  match dy, q, ry with
  | .non, q, .non => exact ⟨rfl, by rw [dec_non rx]; exact ql q c (.bl _)⟩) mo_IsN ha hb (nomark _)
def rIsBl : R2 := fun x y H Q => ∃ b : Bool, y = .bl b ∧ Q (.bl (decide (x = .bl b))) H
theorem op_isBlA : OpR X (compareOp .Is) rIsBl := by
  intro pins s σ H
      x y v u Q I rx ry h
  obtain ⟨b, rfl, q⟩ := h
  cases
      (show u = Value.bool b from ry)
  have hp : PySem.plainIs v (.bool b) = true ∧ (v == Value.bool b) = decide (x = V.bl b) := by
    cases x with
    | non => cases (show v = Value.none from rx); exact ⟨rfl, rfl⟩
    | bl c =>
      cases (show v = Value.bool c from rx)
      refine ⟨rfl, ?_⟩
      cases c <;> cases b <;> rfl
    | int i => obtain ⟨t, rfl⟩ := (show ∃ t, v = Value.int i t from rx); exact ⟨rfl, rfl⟩
    | str i => obtain ⟨t, rfl⟩ := (show ∃ t, v = Value.str i t from rx); exact ⟨rfl, rfl⟩
    | byt i => obtain ⟨t, rfl⟩ := (show ∃ t, v = Value.bytes i t from rx); exact ⟨rfl, rfl⟩
    | flt i => obtain ⟨t, rfl⟩ := (show ∃ t, v = Value.float i t from rx); exact ⟨rfl, rfl⟩
    | ref i => cases (show v = Value.ref i from rx); exact ⟨rfl, rfl⟩
    | ty i => cases (show v = Value.type i from rx); exact ⟨rfl, rfl⟩
  exact wpAny_is_plain hp.1 ⟨.bl _, H, I, by rw [hp.2]; rfl, q⟩
def isBl (b : Bool) : D → Bool
  | .bl c => c == b
  | _ => false
theorem dec_isBl {s : Sto} {H : Hp} {d : D} {v : V} {b : Bool} (r : Rp K s H d v) : decide (v = V.bl b) = isBl b d := by
  cases r with
  | bl c => cases c <;> cases b <;> rfl
  | _ => rfl
def rdIsB : RD := fun x y s Q => match y with
  | .bl b => Q (.bl (isBl b x)) s
  | _ => False
theorem mo_IsB : MoR rdIsB := fun x y s Q Q' h q => by
  match y, q with
  | .bl b, q => exact h _ _ q
theorem op_IsB : OpD K rIsBl rdIsB := fun s H x y dx dy Q c rx ry q => by
  match dy, q, ry with
  | .bl b, q, .bl _ => exact ⟨b, rfl, by rw [dec_isBl rx]; exact ql q c (.bl _)⟩
theorem pd_isB (ha : PD X E a ta) (hb : PD X E b tb) : PD X E (.Compare a [.Is] [b] pos) (dOp rdIsB ta tb) := pd_cmp op_isBlA op_IsB mo_IsB ha hb (nomark _)
theorem pt_isB (ha : PD X E a ta) (hb : PD X E b tb) : PDT X E (.Compare a [.Is] [b] pos) (dB (dOp rdIsB ta tb)) := pd_cmpT op_isBlA op_IsB mo_IsB ha hb (nomark _)

/-! ### in: a text in texts, a number in numbers; a sign in a text -/
def strsOf : List D → Option (List Str)
  | [] => some []
  | .str x :: r => (strsOf r).map (x :: ·)
  | _ => none
def itemsOf : D → Option (List D)
  | .lst l => some l
  | .tup l => some l
  | .fz l => some l
  | _ => none
def rdInS (neg : Bool) : RD := fun x y s Q => match x, itemsOf y with
  | .str i, some l => match strsOf l with
    | some ss => Q (.bl (if neg then !ss.contains i else ss.contains i)) s
    | none => False
  | _, _ => False
theorem RpL.strs {s : Sto} {H : Hp} : ∀ {ds : List D} {vs : List V} {xs : List Str}, RpL K s H ds vs → strsOf ds = some xs → vs = xs.map V.str
  | _, _, _, .nil, e => by cases e; rfl
  | _, _, _, .cons (d := d) (ds := ds) h r, e => by
    cases h with
    | str y =>
      unfold strsOf at e
      cases q : strsOf ds with
      | none =>
        rw [q] at e
        cases e
      | some ys =>
        rw [q] at e
        cases e
        rw [RpL.strs r q]
        rfl
    | _ => cases e
theorem inV_strs (i : Str) : ∀ xs : List Str, inV (.str i) (xs.map V.str) = xs.contains i
  | [] => rfl
  | x :: xs => by
    have ih := inV_strs i xs
    unfold inV at ih ⊢
    rw [List.map_cons, List.any_cons, ih, List.contains_cons]
    have e : eqV (V.str x) (V.str i) = (i == x) := by
      show (x == i) = (i == x)
      rw [BEq.comm]
    rw [e]
theorem flat_strs : ∀ xs : List Str, (xs.map V.str).all flatV = true
  | [] => rfl
  | x :: xs => by
    rw [List.map_cons, List.all_cons, flat_strs xs]
    rfl
theorem op_InS {neg : Bool} : OpD K (rIn K neg) (rdInS neg) := fun s H x y dx dy Q c rx ry q => by
  unfold rdInS at q
  split at q
  · rename_i i l e
    split at q
    · rename_i xs e2
      cases rx
      have go : ∀ {p : Addr} {ys : List V}, RpL K s H l ys → (SqL K H p ys ∨ SqT K H p ys) → rIn K neg (.str i) (.ref p) H Q := fun {p ys} r h => by
        have z := r.strs e2
        refine ⟨p, ys, rfl, h, rfl, by rw [z]; exact flat_strs xs, ?_⟩
        rw [z, inV_strs]
        exact ql q c (.bl _)
      cases ry with
      | lst h r => cases e; exact go r (.inl h.sq)
      | fz h r => cases e; exact go r (.inl h.sq)
      | tup h r => cases e; exact go r (.inr h.sq)
      | _ => cases e
    · exact q.elim
  · exact q.elim
theorem mo_InS {neg : Bool} : MoR (rdInS neg) := fun x y s Q Q' h q => by
  unfold rdInS at q ⊢
  split at q
  · split at q
    · exact h _ _ q
    · exact q
  · exact q
theorem pd_inS (ha : PD X E a ta) (hb : PD X E b tb) (hk : behindInMarks .In b = false := by rfl) : PD X E (.Compare a [.In] [b] pos) (dOp (rdInS false) ta tb) := pd_cmp op_in_seq op_InS mo_InS ha hb hk
theorem pt_inS (ha : PD X E a ta) (hb : PD X E b tb) (hk : behindInMarks .In b = false := by rfl) : PDT X E (.Compare a [.In] [b] pos) (dB (dOp (rdInS false) ta tb)) := pd_cmpT op_in_seq op_InS mo_InS ha hb hk
theorem pd_notInS (ha : PD X E a ta) (hb : PD X E b tb) (hk : behindInMarks .NotIn b = false := by rfl) : PD X E (.Compare a [.NotIn] [b] pos) (dOp (rdInS true) ta tb) := pd_cmp op_notIn_seq op_InS mo_InS ha hb hk
theorem pt_notInS (ha : PD X E a ta) (hb : PD X E b tb) (hk : behindInMarks .NotIn b = false := by rfl) : PDT X E (.Compare a [.NotIn] [b] pos) (dB (dOp (rdInS true) ta tb)) := pd_cmpT op_notIn_seq op_InS mo_InS ha hb hk
/-- a sign in a text -/
def rdInT : RD := fun x y s Q => match y with
  | .str z => ∃ c, x = .str ⟨#[c]⟩ ∧ Q (.bl (decide (c ∈ z.cps.toList))) s
  | _ => False
theorem op_InT : OpD K (fun x y H Q => ∃ (c : Nat) (z : Str), x = .str ⟨#[c]⟩ ∧ y = .str z ∧ Q (.bl (decide (c ∈ z.cps.toList))) H) rdInT := fun s H x y dx dy Q c rx ry q => by
  match dy, ry, q with
  | .str z, .str _, ⟨e, h1, q2⟩ =>
    subst h1
    cases rx
    exact ⟨e, z, rfl, rfl, ql q2 c (.bl _)⟩
theorem mo_InT : MoR rdInT := fun x y s Q Q' h q => by
  match y, q with
  | .str z, ⟨e, h1, q⟩ => exact ⟨e, h1, h _ _ q⟩
theorem pd_inT (ha : PD X E a ta) (hb : PD X E b tb) (hk : behindInMarks .In b = false := by rfl) : PD X E (.Compare a [.In] [b] pos) (dOp rdInT ta tb) := pd_cmp op_in_sign op_InT mo_InT ha hb hk
theorem pt_inT (ha : PD X E a ta) (hb : PD X E b tb) (hk : behindInMarks .In b = false := by rfl) : PDT X E (.Compare a [.In] [b] pos) (dB (dOp rdInT ta tb)) := pd_cmpT op_in_sign op_InT mo_InT ha hb hk
end
end G

/-! GLay6: built-in calls, isinstance, subscripts, slices, what is walked. -/
namespace G
open PySem
open PySem.Spec PyProof.Rows L2
section
variable {X : Cx} {E : XK} {K : PySem.W.Frag} {pos p : Pos} {e e2 : Expr} {es : List Expr} {tA : DA} {te : DE}

/-! ### len -/
def cellLen : Option Cell → Option Nat
  | some (.lst l) => some l.length
  | _ => none
def lenOf (s : Sto) : D → Option Nat
  | .tup l => some l.length
  | .lst l => some l.length
  | .fz l => some l.length
  | .ref a => cellLen (s a)
  | _ => none
def rcLen : RC := fun ds s Q => match ds with
  | [.str x] => x.length ≤ sizeLine ∧ Q (.int x.length) s
  | [d] => match lenOf s d with
    | some n => Q (.int n) s
    | none => False
  | _ => False
theorem mo_len : MoC rcLen := fun ds s Q Q' h q => by
  unfold rcLen at q ⊢
  split at q
  · exact ⟨q.1, h _ _ q.2⟩
  · split at q
    · exact h _ _ q
    · exact q
  · exact q
theorem ca_len : CaD K (fun xs H Q => ∃ x n, xs = [x] ∧ LenV K x H n ∧ Q (.int n) H) rcLen := fun s H vs ds Q c r q => by
  unfold rcLen at q
  split at q
  · rename_i x
    match vs, r with
    | [_], .cons (.str _) .nil => exact ⟨_, _, rfl, ⟨q.1, rfl⟩, ql q.2 c (.int _)⟩
  · rename_i d _
    split at q
    · rename_i n e
      match vs, r with
      | [v], .cons rd .nil =>
        refine ⟨v, n, rfl, ?_, ql q c (.int _)⟩
        cases rd with
        | tup h rr => cases e; exact .inr ⟨_, h.sq, rr.length⟩
        | lst h rr => cases e; exact .inl ⟨_, h.sq, rr.length⟩
        | fz h rr => cases e; exact .inl ⟨_, h.sq, rr.length⟩
        | ref a =>
          have e2 : cellLen (s a) = some n := e
          cases hc : s a with
          | none =>
            rw [hc] at e2
            cases e2
          | some ce =>
            rw [hc] at e2
            cases ce with
            | lst l =>
              cases e2
              obtain ⟨xs, h1, rr⟩ := c a _ hc
              exact .inl ⟨xs, SqL.of h1, rr.length⟩
            | _ => cases e2
        | _ => cases e
    · exact q.elim
  · exact q.elim
theorem pd_len {e : Expr} (hm : X.mg "len" = none) (ha : PDA X E [e] tA) (hg : Gl X "len" := by rfl) (he : starEach (e :: []) X.env = (false, eval e X.env) :: starEach [] X.env := by rfl) : PD X E (.Call (.Name "len" p) [e] [] pos) (dCB rcLen tA) :=
  pd_callB call_len ca_len mo_len hg hm PySem.boot_len ha (he := he)

/-! ### int, str, list, tuple, all, any, max, min -/
def rcInt : RC := fun ds s Q => match ds with
  | [.int i] => Q (.int i) s
  | _ => False
theorem pd_int1 {e : Expr} (hm : X.mg "int" = none) (ha : PDA X E [e] tA) (hg : Gl X "int" := by rfl) (he : starEach (e :: []) X.env = (false, eval e X.env) :: starEach [] X.env := by rfl) : PD X E (.Call (.Name "int" p) [e] [] pos) (dCB rcInt tA) :=
  pd_callTy call_int1 (fun s H vs ds Q c r q => by
    match ds, vs, r, q with
    | [.int i], [_], .cons (.int _) .nil, q => exact .inl ⟨i, rfl, ql q c (.int _)⟩) (fun ds s Q Q' h q => by
    match ds, q with
    | [.int i], q => exact h _ _ q) hg hm (by decide +kernel) ha (he := he)
def rcStr : RC := fun ds s Q => match ds with
  | [.int i] => i.natAbs.log2 < 1920 ∧ Q (.str (toString i)) s
  | _ => False
theorem pd_str1 {e : Expr} (hm : X.mg "str" = none) (ha : PDA X E [e] tA) (hg : Gl X "str" := by rfl) (he : starEach (e :: []) X.env = (false, eval e X.env) :: starEach [] X.env := by rfl) : PD X E (.Call (.Name "str" p) [e] [] pos) (dCB rcStr tA) :=
  pd_callTy call_str_int (fun s H vs ds Q c r q => by
    match ds, vs, r, q with
    | [.int i], [_], .cons (.int _) .nil, q => exact ⟨i, rfl, q.1, ql q.2 c (.str _)⟩) (fun ds s Q Q' h q => by
    match ds, q with
    | [.int i], q => exact ⟨q.1, h _ _ q.2⟩) hg hm (by decide +kernel) ha (he := he)
theorem rp_items {s : Sto} {H : Hp} {d : D} {v : V} {l : List D} (r : Rp K s H d v) (e : itemsOf d = some l) : ∃ a xs, v = .ref a ∧ (SqL K H a xs ∨ SqT K H a xs) ∧ RpL K s H l xs := by
  cases r with
  | tup h rr => cases e; exact ⟨_, _, rfl, .inr h.sq, rr⟩
  | lst h rr => cases e; exact ⟨_, _, rfl, .inl h.sq, rr⟩
  | fz h rr => cases e; exact ⟨_, _, rfl, .inl h.sq, rr⟩
  | _ => cases e
def rcList : RC := fun ds s Q => match ds with
  | [d] => match itemsOf d with
    | some l => Q (.lst l) s
    | none => False
  | _ => False
def rcListC : RC := fun ds s Q => match ds with
  | [d] => match itemsOf d with
    | some l => ∀ a, s a = none → Q (.ref a) (supd s a (.lst l))
    | none => False
  | _ => False
def rcTup : RC := fun ds s Q => match ds with
  | [d] => match itemsOf d with
    | some l => Q (.tup l) s
    | none => False
  | _ => False
theorem pd_list1 {e : Expr} (hm : X.mg "list" = none) (ha : PDA X E [e] tA) (hg : Gl X "list" := by rfl) (he : starEach (e :: []) X.env = (false, eval e X.env) :: starEach [] X.env := by rfl) : PD X E (.Call (.Name "list" p) [e] [] pos) (dCB rcList tA) :=
  pd_callTy call_list_of (fun s H vs ds Q c r q => by
    unfold rcList at q
    split at q
    · split at q
      · rename_i d l el
        match vs, r with
        | [v], .cons rd .nil =>
          obtain ⟨a, xs, rfl, h1, rr⟩ := rp_items rd el
          exact ⟨a, xs, rfl, h1, fun n hn => q _ _ (stp_new hn) (cells_new c hn) (rp_new_lst c hn rr)⟩
      · exact q.elim
    · exact q.elim) (fun ds s Q Q' h q => by
    unfold rcList at q ⊢
    split at q
    · split at q
      · exact h _ _ q
      · exact q
    · exact q) hg hm (by decide +kernel) ha (he := he)
theorem pd_list1C {e : Expr} (hm : X.mg "list" = none) (ha : PDA X E [e] tA) (hg : Gl X "list" := by rfl) (he : starEach (e :: []) X.env = (false, eval e X.env) :: starEach [] X.env := by rfl) : PD X E (.Call (.Name "list" p) [e] [] pos) (dCB rcListC tA) :=
  pd_callTy call_list_of (fun s H vs ds Q c r q => by
    unfold rcListC at q
    split at q
    · split at q
      · rename_i d l el
        match vs, r with
        | [v], .cons rd .nil =>
          obtain ⟨a, xs, rfl, h1, rr⟩ := rp_items rd el
          exact ⟨a, xs, rfl, h1, fun n hn => q n (c.free hn) _ _ (stp_cell hn) (cell_new_lst c hn rr) (.ref n)⟩
      · exact q.elim
    · exact q.elim) (fun ds s Q Q' h q => by
    unfold rcListC at q ⊢
    split at q
    · split at q
      · exact fun a ha => h _ _ (q a ha)
      · exact q
    · exact q) hg hm (by decide +kernel) ha (he := he)
theorem pd_tup1 {e : Expr} (hm : X.mg "tuple" = none) (ha : PDA X E [e] tA) (hg : Gl X "tuple" := by rfl) (he : starEach (e :: []) X.env = (false, eval e X.env) :: starEach [] X.env := by rfl) : PD X E (.Call (.Name "tuple" p) [e] [] pos) (dCB rcTup tA) :=
  pd_callTy call_tuple_of (fun s H vs ds Q c r q => by
    unfold rcTup at q
    split at q
    · split at q
      · rename_i d l el
        match vs, r with
        | [v], .cons rd .nil =>
          cases rd with
          | tup h rr => cases el; exact ⟨_, _, rfl, .inr ⟨h.sq, ql q c (.tup h rr)⟩⟩
          | lst h rr => cases el; exact ⟨_, _, rfl, .inl ⟨h.sq, fun n hn => q _ _ (stp_new hn) (cells_new c hn) (rp_new_tup c hn rr)⟩⟩
          | fz h rr => cases el; exact ⟨_, _, rfl, .inl ⟨h.sq, fun n hn => q _ _ (stp_new hn) (cells_new c hn) (rp_new_tup c hn rr)⟩⟩
          | _ => cases el
      · exact q.elim
    · exact q.elim) (fun ds s Q Q' h q => by
    unfold rcTup at q ⊢
    split at q
    · split at q
      · exact h _ _ q
      · exact q
    · exact q) hg hm (by decide +kernel) ha (he := he)
def blsOf : List D → Option (List Bool)
  | [] => some []
  | .bl b :: r => (blsOf r).map (b :: ·)
  | _ => none
theorem RpL.bls {s : Sto} {H : Hp} : ∀ {ds : List D} {vs : List V} {xs : List Bool}, RpL K s H ds vs → blsOf ds = some xs → vs = xs.map V.bl
  | _, _, _, .nil, e => by cases e; rfl
  | _, _, _, .cons (d := d) (ds := ds) h r, e => by
    cases h with
    | bl y =>
      unfold blsOf at e
      cases q : blsOf ds with
      | none =>
        rw [q] at e
        cases e
      | some ys =>
        rw [q] at e
        cases e
        rw [RpL.bls r q]
        rfl
    | _ => cases e
theorem blsOf_map (l : List Bool) : blsOf (l.map D.bl) = some l := by
  induction l with
  | nil => rfl
  | cons b r ih =>
    show (blsOf (r.map D.bl)).map (b :: ·) = _
    rw [ih]
    rfl
def rcAll (f : List Bool → Bool) : RC := fun ds s Q => match ds with
  | [.lst l] => match blsOf l with
    | some bs => Q (.bl (f bs)) s
    | none => False
  | _ => False
theorem mo_all {f : List Bool → Bool} : MoC (rcAll f) := fun ds s Q Q' h q => by
  unfold rcAll at q ⊢
  split at q
  · split at q
    · exact h _ _ q
    · exact q
  · exact q
theorem ca_all {f : List Bool → Bool} : CaD K (fun vs H Q => ∃ (a : Addr) (bs : List Bool), vs = [V.ref a] ∧ SqL K H a (bs.map V.bl) ∧ Q (.bl (f bs)) H) (rcAll f) := fun s H vs ds Q c r q => by
  unfold rcAll at q
  split at q
  · split at q
    · rename_i l bs eb
      match vs, r with
      | [_], .cons (.lst h rr) .nil =>
        have z := rr.bls eb
        subst z
        exact ⟨_, bs, rfl, h.sq, ql q c (.bl _)⟩
    · exact q.elim
  · exact q.elim
theorem pd_all {e : Expr} (hc : X.calm = true) (hm : X.mg "all" = none) (ha : PDA X E [e] tA) (hg : Gl X "all" := by rfl) (he : starEach (e :: []) X.env = (false, eval e X.env) :: starEach [] X.env := by rfl) : PD X E (.Call (.Name "all" p) [e] [] pos) (dCB (rcAll fun bs => bs.all id) tA) :=
  pd_callB (cr_all hc) ca_all mo_all hg hm (by decide +kernel) ha (he := he)
theorem pd_any {e : Expr} (hc : X.calm = true) (hm : X.mg "any" = none) (ha : PDA X E [e] tA) (hg : Gl X "any" := by rfl) (he : starEach (e :: []) X.env = (false, eval e X.env) :: starEach [] X.env := by rfl) : PD X E (.Call (.Name "any" p) [e] [] pos) (dCB (rcAll fun bs => bs.any id) tA) :=
  pd_callB (cr_any hc) ca_all mo_all hg hm (by decide +kernel) ha (he := he)
def rcI2 (f : Int → Int → Int) : RC := fun ds s Q => match ds with
  | [.int i, .int j] => Q (.int (f i j)) s
  | _ => False
theorem mo_I2 {f : Int → Int → Int} : MoC (rcI2 f) := fun ds s Q Q' h q => by
  match ds, q with
  | [.int i, .int j], q => exact h _ _ q
theorem ca_I2 {f : Int → Int → Int} : CaD K (fun xs H Q => ∃ i j, xs = [.int i, .int j] ∧ Q (.int (f i j)) H) (rcI2 f) := fun s H vs ds Q c r q => by
  match ds, vs, r, q with
  | [.int i, .int j], [_, _], .cons (.int _) (.cons (.int _) .nil), q => exact ⟨i, j, rfl, ql q c (.int _)⟩
theorem pd_max2 {e e2 : Expr} (hc : X.calm = true) (hm : X.mg "max" = none) (ha : PDA X E [e, e2] tA) (hg : Gl X "max" := by rfl) (he : starEach (e :: [e2]) X.env = (false, eval e X.env) :: starEach [e2] X.env := by rfl) (hpl : (backTo pos (starEach [e2] X.env)).any (·.1) = false := by rfl) : PD X E (.Call (.Name "max" p) [e, e2] [] pos) (dCB (rcI2 fun i j => if j > i then j else i) tA) :=
  pd_callB (call_max2 hc) ca_I2 mo_I2 hg hm (by decide +kernel) ha (he := he) (hpl := hpl)
theorem pd_min2 {e e2 : Expr} (hc : X.calm = true) (hm : X.mg "min" = none) (ha : PDA X E [e, e2] tA) (hg : Gl X "min" := by rfl) (he : starEach (e :: [e2]) X.env = (false, eval e X.env) :: starEach [e2] X.env := by rfl) (hpl : (backTo pos (starEach [e2] X.env)).any (·.1) = false := by rfl) : PD X E (.Call (.Name "min" p) [e, e2] [] pos) (dCB (rcI2 fun i j => if j < i then j else i) tA) :=
  pd_callB (call_min2 hc) ca_I2 mo_I2 hg hm (by decide +kernel) ha (he := he) (hpl := hpl)

/-! ### isinstance with a built-in class -/
def cellTy : Option Cell → Option String
  | some
      (.lst _) => some "list"
  | some (.dK _) => some "dict"
  | _ => none
def tyN (s : Sto) : D → Option String
  | .non => some "NoneType"
  | .bl _ => some "bool"
  | .int _ => some "int"
  | .str _ => some "str"
  | .tup _ => some "tuple"
  | .lst _ => some "list"
  | .ref a => cellTy (s a)
  | _ => none
def isTy (t n : String) : Bool := t == n || (t == "bool" && n == "int")
def rcIsi : RC := fun ds s Q => match ds with
  | [d, .ty n] => match tyN s d with
    | some t => ["tuple", "int", "bool", "str", "list", "dict"].contains n = true ∧ Q (.bl (isTy t n)) s
    | none => False
  | _ => False
theorem kit_isTy {K : PySem.W.Frag} {t n : String} (ht : ["NoneType", "bool", "int", "str", "tuple", "list", "dict"].contains t = true) (hn : ["tuple", "int", "bool", "str", "list", "dict"].contains n = true) : PySem.W.kitOne K (.type t) (.type n) = some (isTy t n) := by
  have go : ∀ t ∈ ["NoneType", "bool", "int", "str", "tuple", "list", "dict"], ∀ n ∈ ["tuple", "int", "bool", "str", "list", "dict"], kitB t n = some (isTy t n) := by decide +kernel
  exact kit_ty (go t (by simpa using ht) n (by simpa using hn))
theorem rp_tyx {s : Sto} {H : Hp} {d : D} {v : V} {t : String} (c : Cells K s H) (r : Rp K s H d v) (e : tyN s d = some t) : TyX K H v (.type t) ∧ ["NoneType", "bool", "int", "str", "tuple", "list", "dict"].contains t = true := by
  cases r with
  | non => cases e; exact ⟨.base .non, by decide⟩
  | bl b => cases e; exact ⟨.base (.bl b), by decide⟩
  | int b => cases e; exact ⟨.base (.int b), by decide⟩
  | str b => cases e; exact ⟨.base (.str b), by decide⟩
  | tup h rr =>
    cases e
    refine ⟨?_, by decide⟩
    rcases h with ⟨_, h | ⟨o, h⟩⟩ | ⟨o, its, n, h1, h2, _⟩
    · exact .base (.tup h)
    · exact .fTuple h
    · exact .kTuple h1 h2
  | lst h rr => cases e; exact ⟨.base (.lst h.2), by decide⟩
  | fz h rr => cases e
  | ref a =>
    have e2 : cellTy (s a) = some t := e
    cases hc : s a with
    | none =>
      rw [hc] at e2
      cases e2
    | some ce =>
      rw [hc] at e2
      cases ce with
      | lst l =>
        cases e2
        obtain ⟨xs, h1, rr⟩ := c a _ hc
        exact ⟨.base (.lst h1), by decide⟩
      | dK l =>
        cases e2
        obtain ⟨xs, h1, rr⟩ := c a _ hc
        exact ⟨.base (.dK h1), by decide⟩
      | ins _ _ => cases e2
      | tab _ => cases e2
  | _ => cases e
theorem mo_isi : MoC rcIsi := fun ds s Q Q' h q => by
  unfold rcIsi at q ⊢
  split at q
  · split at q
    · exact ⟨q.1, h _ _ q.2⟩
    · exact q
  · exact q
theorem ca_isi : CaD K (rIsi K) rcIsi := fun s H vs ds Q c r q => by
  unfold rcIsi at q
  split at q
  · split at q
    · rename_i d n _ t et
      match vs, r with
      | [v, _], .cons rd (.cons (.ty _) .nil) =>
        obtain ⟨h1, h2⟩ := rp_tyx c rd et
        exact ⟨v, .ty n, .type t, .type n, _, rfl, .ty n, h1, kit_isTy h2 q.1, ql q.2 c (.bl _)⟩
    · exact q.elim
  · exact q.elim
theorem pd_isi {e e2 : Expr} (hm : X.mg "isinstance" = none) (ha : PDA X E [e, e2] tA) (hg : Gl X "isinstance" := by rfl) (he : starEach (e :: [e2]) X.env = (false, eval e X.env) :: starEach [e2] X.env := by rfl) (hpl : (backTo pos (starEach [e2] X.env)).any (·.1) = false := by rfl) : PD X E (.Call (.Name "isinstance" p) [e, e2] [] pos) (dCB rcIsi tA) :=
  pd_callB call_isi ca_isi mo_isi hg hm (by decide +kernel) ha (he := he) (hpl := hpl)

/-! ### subscripts -/
def rdIx : RD := fun x y s Q => match itemsOf x, y with
  | some l, .int i => match atI l i with
    | some d => Q d s
    | none => False
  | _, _ => False
theorem mo_Ix : MoR rdIx := fun x y s Q Q' h q => by
  unfold rdIx at q ⊢
  split at q
  · split at q
    · exact h _ _ q
    · exact q
  · exact q
theorem atI_rp {s : Sto} {H : Hp} {l : List D} {xs : List V} {i : Int} {d : D} (r : RpL K s H l xs) (e : atI l i = some d) : ∃ v, atI xs i = some v ∧ Rp K s H d v := by
  unfold atI at e ⊢
  rw [← r.length]
  cases q : ixN l.length i with
  | none =>
    rw [q] at e
    cases e
  | some j =>
    rw [q] at e
    exact r.get e
theorem op_Ix : OpD K (rIx K) rdIx := fun s H x y dx dy Q c rx ry q => by
  unfold rdIx at q
  split at q
  · rename_i l i el
    split at q
    · rename_i d ed
      cases ry
      cases rx with
      | tup h rr =>
        cases el
        obtain ⟨v, h1, h2⟩ := atI_rp rr ed
        exact .inr (.inl ⟨_, _, i, v, rfl, rfl, h.sq, h1, ql q c h2⟩)
      | lst h rr =>
        cases el
        obtain ⟨v, h1, h2⟩ := atI_rp rr ed
        exact .inl ⟨_, _, i, v, rfl, rfl, h.sq, h1, ql q c h2⟩
      | fz h rr =>
        cases el
        obtain ⟨v, h1, h2⟩ := atI_rp rr ed
        exact .inl ⟨_, _, i, v, rfl, rfl, h.sq, h1, ql q c h2⟩
      | _ => cases el
    · exact q.elim
  · exact q.elim
variable {a b : Expr} {ta tb : DE}
theorem pd_ixS (ha : PD X E a ta) (hb : PD X E b tb) (hs : PlainIx b := by intro _ _; rfl) : PD X E (.Subscript a b pos) (dOp rdIx ta tb) := pd_ix ix_seq op_Ix mo_Ix ha hb hs
/-- a sign of a text -/
def rdIxT : RD := fun x y s Q => match x, y with
  | .str z, .int i => z.length ≤ sizeLine ∧ match atI z.cps.toList i with
    | some c => Q (.str ⟨#[c]⟩) s
    | none => False
  | _, _ => False
theorem pd_ixT (ha : PD X E a ta) (hb : PD X E b tb) (hs : PlainIx b := by intro _ _; rfl) : PD X E (.Subscript a b pos) (dOp rdIxT ta tb) := pd_ix ix_str (fun s H x y dx dy Q c rx ry q => by
  unfold rdIxT at q
  split at q
  · rename_i z i
    obtain ⟨q1, q2⟩ := q
    split at q2
    · rename_i ch ec
      cases rx
      cases ry
      exact ⟨z, i, ch, rfl, rfl, q1, ec, ql q2 c (.str _)⟩
    · exact q2.elim
  · exact q.elim) (fun x y s Q Q' h q => by
  unfold rdIxT at q ⊢
  split at q
  · obtain ⟨q1, q2⟩ := q
    refine ⟨q1, ?_⟩
    split at q2
    · exact h _ _ q2
    · exact q2
  · exact q) ha hb hs

/-! ### slices -/
def rsT : RSl := fun d lo hi s Q => match d with
  | .str z => z.length ≤ sizeLine ∧ Q (.str (cutS z lo hi)) s
  | _ => False
theorem pd_slT {tl th : DO} {lo hi : Option Expr} {p2 : Pos} (he : PD X E e te) (hl : PDO X E lo tl) (hh : PDO X E hi th) : PD X E (.Subscript e (.Slice lo hi none p2) pos) (dSl rsT te tl th) := pd_sl sl_str (fun s H v d lo hi Q c r q => by
  match d, q, r with
  | .str z, q, .str _ => exact ⟨z, rfl, q.1, ql q.2 c (.str _)⟩) (fun d lo hi s Q Q' h q => by
  match d, q with
  | .str z, q => exact ⟨q.1, h _ _ q.2⟩) he hl hh
/-- a list's, a tuple's part (a tuple's, where it is not the whole) -/
def cutD (xs : List D) (lo hi : Option Int) : List D := (xs.drop (HT.sIx xs.length 0 lo)).take (HT.sIx xs.length xs.length hi - HT.sIx xs.length 0 lo)
theorem RpL.cut {s : Sto} {H : Hp} {l : List D} {xs : List V} (r : RpL K s H l xs) (lo hi : Option Int) : RpL K s H (cutD l lo hi) (cutV xs lo hi) := by
  unfold cutD cutV
  rw [← r.length]
  exact (r.drop _).take _
def rsL : RSl := fun d lo hi s Q => match d with
  | .lst l => Q (.lst (cutD l lo hi)) s
  | _ => False
theorem pd_slL {tl th : DO} {lo hi : Option Expr} {p2 : Pos} (he : PD X E e te) (hl : PDO X E lo tl) (hh : PDO X E hi th) : PD X E (.Subscript e (.Slice lo hi none p2) pos) (dSl rsL te tl th) := pd_sl sl_list (fun s H v d lo hi Q c r q => by
  match d, q, r with
  | .lst l, q, .lst h rr => exact ⟨_, _, rfl, h.sq, fun n hn => q _ _ (stp_new hn) (cells_new c hn) (rp_new_lst c hn (rr.cut lo hi))⟩) (fun d lo hi s Q Q' h q => by
  match d, q with
  | .lst z, q => exact h _ _ q) he hl hh
end
end G

/-! GLay7: what is walked; cells: lists, dicts, instances; errors raised. -/
namespace G
open PySem
open PySem.Spec PyProof.Rows L2
section
variable {X : Cx} {E : XK} {K : PySem.W.Frag} {pos p : Pos} {e e2 : Expr} {es : List Expr} {tA : DA} {te : DE}
def rsU : RSl := fun d lo hi s Q => match d with
  | .tup l => ¬ (HT.sIx l.length 0 lo = 0 ∧ HT.sIx l.length l.length hi = l.length) ∧ Q (.tup (cutD l lo hi)) s
  | _ => False
/-- a tuple's part, not the whole -/
theorem pd_slU {tl th : DO} {lo hi : Option Expr} {p2 : Pos} (he : PD X E e te) (hl : PDO X E lo tl) (hh : PDO X E hi th) : PD X E (.Subscript e (.Slice lo hi none p2) pos) (dSl rsU te tl th) := pd_sl sl_tup (fun s H v d lo hi Q c r q => by
  match d, q, r with
  | .tup l, q, .tup h rr => exact ⟨_, _, rfl, h.sq, by rw [← rr.length]; exact q.1, fun n hn => q.2 _ _ (stp_new hn) (cells_new c hn) (rp_new_tup c hn (rr.cut lo hi))⟩) (fun d lo hi s Q Q' h q => by
  match d, q with
  | .tup z, q => exact ⟨q.1, h _ _ q.2⟩) he hl hh

/-! ### what is walked -/
variable {tg iter : Expr}
def itL (te : DE) : DA := fun ρ s Q Z => te ρ s (fun d s1 => match d with
  | .lst l => Q l s1
  | .fz l => Q l s1
  | _ => False) Z
def itT (te : DE) : DA := fun ρ s Q Z => te ρ s (fun d s1 => match d with
  | .tup l => Q l s1
  | _ => False) Z
theorem mo_itL (h : MoE te) : MoA (itL te) := fun ρ s Q Q' Z Z' hq hz q => h ρ s _ _ Z Z' (fun d s1 q1 => by
  match d, q1 with
  | .lst l, q1 => exact hq _ _ q1
  | .fz l, q1 => exact hq _ _ q1) hz q
theorem mo_itT (h : MoE te) : MoA (itT te) := fun ρ s Q Q' Z Z' hq hz q => h ρ s _ _ Z Z' (fun d s1 q1 => by
  match d, q1 with
  | .tup l, q1 => exact hq _ _ q1) hz q
theorem sql_inj {H : Hp} {a : Addr} {xs ys : List V} (h : H a = some (.lst xs) ∨ ∃ o, H a = some (.frz o (.lst xs))) (nk : ∀ o, K.lookup a = some o → False) (k : SqL K H a ys) : ys = xs := by
  rcases k with (k | ⟨o, k⟩) | ⟨o, _, _, hk, _⟩
  · rcases h with h | ⟨o, h⟩
    · rw [h] at k; cases k; rfl
    · rw [h] at k; cases k
  · rcases h with h | ⟨o2, h⟩
    · rw [h] at k; cases k
    · rw [h] at k; cases k; rfl
  · exact (nk o hk).elim
/-- at turn i it yields the i-th item, whatever else is known of the list -/
theorem walks_list {a : Addr} {xs : List V} {l : List D} {s : Sto} {H : Hp} (h : ∀ s2 H2, Stp s H s2 H2 → SqL K H2 a xs) (rr : RpL K s H l xs) : Walks K (Itl K a) l s H := fun s2 H2 st c => by
  have r2 := rr.stp st
  have q := h s2 H2 st
  refine ⟨fun i d hd => ?_, ⟨xs, q, by rw [← rr.length]; exact Nat.le_refl _⟩⟩
  obtain ⟨v, h1, h2⟩ := r2.get hd
  refine ⟨⟨xs, v, q, h1⟩, fun x H3 y => ?_⟩
  obtain ⟨e, y⟩ := y
  subst e
  have z := y xs q
  rw [h1] at z
  cases z
  exact ⟨Stp.refl _ _, c, h2⟩
theorem walks_tup {a : Addr} {xs : List V} {l : List D} {s : Sto} {H : Hp} (h : ∀ s2 H2, Stp s H s2 H2 → SqT K H2 a xs) (rr : RpL K s H l xs) : Walks K (Itt K a) l s H := fun s2 H2 st c => by
  have r2 := rr.stp st
  have q := h s2 H2 st
  refine ⟨fun i d hd => ?_, ⟨xs, q, by rw [← rr.length]; exact Nat.le_refl _⟩⟩
  obtain ⟨v, h1, h2⟩ := r2.get hd
  refine ⟨⟨xs, v, q, h1⟩, fun x H3 y => ?_⟩
  obtain ⟨e, y⟩ := y
  subst e
  have z := y xs q
  rw [h1] at z
  cases z
  exact ⟨Stp.refl _ _, c, h2⟩
theorem pdi_list (h : PD X E iter te) : PDI X E tg iter (iList X.K (liftE X.K E te)) (itL te) := ⟨pi_list h.run, mo_itL h.mo, fun s H σ ρ R rs q => ⟨ρ, s, rs, h.mo ρ s _ _ _ _ (fun d s1 q1 => by
  intro v H1 st c r
  match d, q1, r with
  | .lst l, q1, .lst (a := a) (xs := xs) hL rr => exact ⟨a, rfl, ⟨xs, hL.sq⟩, q1 _ H1 st c (walks_list (fun s2 H2 st2 => (hL.stp st2).sq) rr)⟩
  | .fz l, q1, .fz (a := a) (xs := xs) hL rr => exact ⟨a, rfl, ⟨xs, hL.sq⟩, q1 _ H1 st c (walks_list (fun s2 H2 st2 => (hL.stp st2).sq) rr)⟩) (fun _ _ _ z => z) q⟩⟩
theorem pdi_tup (h : PD X E iter te) : PDI X E tg iter (iTup X.K (liftE X.K E te)) (itT te) := ⟨pi_tup h.run, mo_itT h.mo, fun s H σ ρ R rs q => ⟨ρ, s, rs, h.mo ρ s _ _ _ _ (fun d s1 q1 => by
  intro v H1 st c r
  match d, q1, r with
  | .tup l, q1, .tup (a := a) (xs := xs) hL rr => exact ⟨a, rfl, ⟨xs, hL.sq⟩, q1 _ H1 st c (walks_tup (fun s2 H2 st2 => (hL.stp st2).sq) rr)⟩) (fun _ _ _ z => z) q⟩⟩
def signsD (z : Str) : List D := z.cps.toList.map fun c => .str ⟨#[c]⟩
def itS (te : DE) : DA := fun ρ s Q Z => te ρ s (fun d s1 => match d with
  | .str z => Q (signsD z) s1
  | _ => False) Z
theorem pdi_str (h : PD X E iter te) : PDI X E tg iter (iStr (liftE X.K E te)) (itS te) := ⟨pi_str h.run, fun ρ s Q Q' Z Z' hq hz q => h.mo ρ s _ _ Z Z' (fun d s1 q1 => by
  match d, q1 with
  | .str z, q1 => exact hq _ _ q1) hz q, fun s H σ ρ R rs q => ⟨ρ, s, rs, h.mo ρ s _ _ _ _ (fun d s1 q1 => by
  intro v H1 st c r
  match d, q1, r with
  | .str z, q1, .str _ =>
    refine ⟨z, rfl, q1 _ H1 st c fun s2 H2 st2 c2 => ⟨fun i d hd => ?_, by show z.cps.size ≤ _; unfold signsD; rw [List.length_map]; exact Nat.le_of_eq Array.length_toList.symm⟩⟩
    unfold signsD at hd
    rw [List.getElem?_map] at hd
    cases hc : z.cps.toList[i]? with
    | none =>
      rw [hc] at hd
      cases hd
    | some ch =>
      rw [hc] at hd
      cases hd
      have hc' : z.cps[i]? = some ch := by rw [← Array.getElem?_toList]; exact hc
      refine ⟨by obtain ⟨h1, _⟩ := Array.getElem?_eq_some_iff.mp hc'; exact h1, fun x H3 y => ?_⟩
      obtain ⟨e1, c3, e2, e3⟩ := y
      rw [hc'] at e2
      cases e2
      subst e1
      subst e3
      exact ⟨Stp.refl _ _, c2, .str _⟩) (fun _ _ _ z => z) q⟩⟩
def rangeD (lo : Int) (n : Nat) : List D := (List.range n).map fun i => .int (lo + (i : Nat))
def itR1 (tA : DA) : DA := fun ρ s Q Z => tA ρ s (fun ds s1 => match ds with
  | [.int j] => -(2 ^ 62) ≤ j ∧ j < 2 ^ 62 ∧ Q (rangeD 0 j.toNat) s1
  | _ => False) Z
def itR2 (tA : DA) : DA := fun ρ s Q Z => tA ρ s (fun ds s1 => match ds with
  | [.int i, .int j] => (-(2 ^ 62) ≤ i ∧ i < 2 ^ 62 ∧ -(2 ^ 62) ≤ j ∧ j < 2 ^ 62) ∧ Q (rangeD i (j - i).toNat) s1
  | _ => False) Z
theorem walks_range {lo : Int} {n : Nat} {s : Sto} {H : Hp} : Walks K (Itr lo n) (rangeD lo n) s H := fun s2 H2 st c => by
  have hl : (rangeD lo n).length = n := by unfold rangeD; rw [List.length_map, List.length_range]
  refine ⟨fun i d hd => ?_, Nat.le_of_eq hl.symm⟩
  have hi : i < n := by
    obtain ⟨h1, _⟩ := List.getElem?_eq_some_iff.mp hd
    rw [hl] at h1
    exact h1
  unfold rangeD at hd
  rw [List.getElem?_map, List.getElem?_range hi] at hd
  cases hd
  refine ⟨hi, fun x H3 y => ?_⟩
  obtain ⟨e1, e2⟩ := y
  subst e1
  subst e2
  exact ⟨Stp.refl _ _, c, .int _⟩
theorem pdi_range1 {a : Expr} (hm : X.mg "range" = none) (h : PDA X E [a] tA) (hg : Gl X "range" := by rfl) (hs : starEach [a] X.env = [(false, eval a X.env)] := by rfl) : PDI X E tg (.Call (.Name "range" p) [a] [] pos) (iRng1 (liftA X.K E tA)) (itR1 tA) := ⟨pi_range1 hg hm h.run hs, fun ρ s Q Q' Z Z' hq hz q => h.mo ρ s _ _ Z Z' (fun d s1 q1 => by
  match d, q1 with
  | [.int j], q1 => exact ⟨q1.1, q1.2.1, hq _ _ q1.2.2⟩) hz q, fun s H σ ρ R rs q => ⟨ρ, s, rs, h.mo ρ s _ _ _ _ (fun ds s1 q1 => by
  intro vs H1 st c r
  match ds, vs, q1, r with
  | [.int j], [_], q1, .cons (.int _) .nil => exact ⟨j, rfl, q1.1, q1.2.1, q1.2.2 _ H1 st c walks_range⟩) (fun _ _ _ z => z) q⟩⟩
theorem pdi_range2 {a b : Expr} (hm : X.mg "range" = none) (h : PDA X E [a, b] tA) (hg : Gl X "range" := by rfl) (hs : starEach [a, b] X.env = [(false, eval a X.env), (false, eval b X.env)] := by rfl) (hs2 : starEach [b] X.env = [(false, eval b X.env)] := by rfl) : PDI X E tg (.Call (.Name "range" p) [a, b] [] pos) (iRng2 (liftA X.K E tA)) (itR2 tA) := ⟨pi_range2 hg hm h.run hs hs2, fun ρ s Q Q' Z Z' hq hz q => h.mo ρ s _ _ Z Z' (fun d s1 q1 => by
  match d, q1 with
  | [.int i, .int j], q1 => exact ⟨q1.1, hq _ _ q1.2⟩) hz q, fun s H σ ρ R rs q => ⟨ρ, s, rs, h.mo ρ s _ _ _ _ (fun ds s1 q1 => by
  intro vs H1 st c r
  match ds, vs, q1, r with
  | [.int i, .int j], [_, _], q1, .cons (.int _) (.cons (.int _) .nil) => exact ⟨i, j, rfl, q1.1, q1.2 _ H1 st c walks_range⟩) (fun _ _ _ z => z) q⟩⟩
def enumD (l : List D) : List D := (List.range l.length).zipWith (fun i d => .tup [.int (i : Nat), d]) l
def itE (tA : DA) : DA := fun ρ s Q Z => tA ρ s (fun ds s1 => match ds with
  | [.lst l] => Q (enumD l) s1
  | _ => False) Z
theorem pdi_enum {elts : List Expr} {kk : Nat} {tpos : Pos} (hm : X.mg "enumerate" = none) (h : PDA X E [e] tA) (hg : Gl X "enumerate" := by rfl) (hs : starEach [e] X.env = [(false, eval e X.env)] := by rfl) : PDI X E (.Tuple elts kk tpos) (.Call (.Name "enumerate" p) [e] [] pos) (iEnum X.K (liftA X.K E tA)) (itE tA) := ⟨pi_enum hg hm h.run hs, fun ρ s Q Q' Z Z' hq hz q => h.mo ρ s _ _ Z Z' (fun d s1 q1 => by
  match d, q1 with
  | [.lst l], q1 => exact hq _ _ q1) hz q, fun s H σ ρ R rs q => ⟨ρ, s, rs, h.mo ρ s _ _ _ _ (fun ds s1 q1 => by
  intro vs H1 st c r
  match ds, vs, q1, r with
  | [.lst l], [_], q1, .cons (.lst (a := a) (xs := xs) hL rr) .nil =>
    refine ⟨a, xs, rfl, hL.sq, q1 _ H1 st c fun s2 H2 st2 c2 => ?_⟩
    have r2 := rr.stp st2
    have h2 : SqL X.K H2 a xs := (hL.stp st2).sq
    have hl : (enumD l).length = l.length := by unfold enumD; rw [List.length_zipWith, List.length_range, Nat.min_self]
    refine ⟨fun i d hd => ?_, ⟨xs, h2, by rw [hl, rr.length]; exact Nat.le_refl _⟩⟩
    unfold enumD at hd
    rw [List.getElem?_zipWith] at hd
    cases hi : l[i]? with
    | none =>
      rw [hi] at hd
      cases hr : (List.range l.length)[i]? with
      | none =>
        rw [hr] at hd
        cases hd
      | some _ =>
        rw [hr] at hd
        cases hd
    | some d0 =>
      have il : i < l.length := (List.getElem?_eq_some_iff.mp hi).1
      rw [hi, List.getElem?_range il] at hd
      cases hd
      obtain ⟨v, e1, e2⟩ := r2.get hi
      refine ⟨⟨xs, v, h2, e1⟩, fun x H3 y => ?_⟩
      obtain ⟨T, x0, rfl, hT, rfl, f⟩ := y
      have z := f xs h2
      rw [e1] at z
      cases z
      exact ⟨stp_new hT, cells_new c2 hT, rp_new_tup c2 hT (.cons (.int _) (.cons e2 .nil))⟩) (fun _ _ _ z => z) q⟩⟩
def zipD (l m : List D) : List D := List.zipWith (fun d e => .tup [d, e]) l m
def itZ (tA : DA) : DA := fun ρ s Q Z => tA ρ s (fun ds s1 => match ds with
  | [.lst l, .lst m] => Q (zipD l m) s1
  | [.tup l, .tup m] => Q (zipD l m) s1
  | _ => False) Z
theorem zip_at {s : Sto} {H : Hp} {l m : List D} {xs ys : List V} (r1 : RpL K s H l xs) (r2 : RpL K s H m ys) {i : Nat} {d : D} (h : (zipD l m)[i]? = some d) : ∃ x y d1 d2, xs[i]? = some x ∧ ys[i]? = some y ∧ d = .tup [d1, d2] ∧ Rp K s H d1 x ∧ Rp K s H d2 y := by
  unfold zipD at h
  rw [List.getElem?_zipWith] at h
  cases h1 : l[i]? with
  | none =>
    rw [h1] at h
    cases h
  | some d1 =>
    cases h2 : m[i]? with
    | none =>
      rw [h1, h2] at h
      cases h
    | some d2 =>
      rw [h1, h2] at h
      cases h
      obtain ⟨x, e1, f1⟩ := r1.get h1
      obtain ⟨y, e2, f2⟩ := r2.get h2
      exact ⟨x, y, d1, d2, e1, e2, rfl, f1, f2⟩
theorem zip_len (l m : List D) : l.length ≤ (zipD l m).length ∨ m.length ≤ (zipD l m).length := by
  unfold zipD
  rw [List.length_zipWith]
  omega
theorem pdi_zip {elts : List Expr} {kk : Nat} {tpos : Pos} (hm : X.mg "zip" = none) (h : PDA X E [e, e2] tA) (hg : Gl X "zip" := by rfl) (hs : starEach [e, e2] X.env = (false, eval e X.env) :: starEach [e2] X.env := by rfl) (hpl : (backTo pos (starEach [e2] X.env)).any (·.1) = false := by rfl) : PDI X E (.Tuple elts kk tpos) (.Call (.Name "zip" p) [e, e2] [] pos) (RZ.iZipA X.K (liftA X.K E tA)) (itZ tA) := ⟨RZ.pi_zipA hg hm h.run hs hpl, fun ρ s Q Q' Z Z' hq hz q => h.mo ρ s _ _ Z Z' (fun d s1 q1 => by
  match d, q1 with
  | [.lst l, .lst m], q1 => exact hq _ _ q1
  | [.tup l, .tup m], q1 => exact hq _ _ q1) hz q, fun s H σ ρ R rs q => ⟨ρ, s, rs, h.mo ρ s _ _ _ _ (fun ds s1 q1 => by
  intro vs H1 st c r
  match ds, vs, q1, r with
  | [.lst l, .lst m], [_, _], q1, .cons (.lst (a := a) (xs := xs) hL rr) (.cons (.lst (a := b) (xs := ys) hM rm) .nil) =>
    refine ⟨a, b, xs, ys, rfl, .inl ⟨hL.sq, hM.sq, q1 _ H1 st c fun s2 H2 st2 c2 => ?_⟩⟩
    have ha : SqL X.K H2 a xs := (hL.stp st2).sq
    have hb : SqL X.K H2 b ys := (hM.stp st2).sq
    refine ⟨fun i d hd => ?_, ⟨xs, ys, ha, hb, by rw [← rr.length, ← rm.length]; exact zip_len l m⟩⟩
    obtain ⟨x, y, d1, d2, e1, e2, rfl, f1, f2⟩ := zip_at (rr.stp st2) (rm.stp st2) hd
    refine ⟨⟨xs, ys, x, y, ha, hb, e1, e2⟩, fun v H3 w => ?_⟩
    obtain ⟨T, x0, y0, rfl, hT, rfl, g1, g2⟩ := w
    have z1 := g1 xs ha
    have z2 := g2 ys hb
    rw [e1] at z1
    rw [e2] at z2
    cases z1
    cases z2
    exact ⟨stp_new hT, cells_new c2 hT, rp_new_tup c2 hT (.cons f1 (.cons f2 .nil))⟩
  | [.tup l, .tup m], [_, _], q1, .cons (.tup (a := a) (xs := xs) hL rr) (.cons (.tup (a := b) (xs := ys) hM rm) .nil) =>
    refine ⟨a, b, xs, ys, rfl, .inr ⟨hL.sq, hM.sq, q1 _ H1 st c fun s2 H2 st2 c2 => ?_⟩⟩
    have ha : SqT X.K H2 a xs := (hL.stp st2).sq
    have hb : SqT X.K H2 b ys := (hM.stp st2).sq
    refine ⟨fun i d hd => ?_, ⟨xs, ys, ha, hb, by rw [← rr.length, ← rm.length]; exact zip_len l m⟩⟩
    obtain ⟨x, y, d1, d2, e1, e2, rfl, f1, f2⟩ := zip_at (rr.stp st2) (rm.stp st2) hd
    refine ⟨⟨xs, ys, x, y, ha, hb, e1, e2⟩, fun v H3 w => ?_⟩
    obtain ⟨T, x0, y0, rfl, hT, rfl, g1, g2⟩ := w
    have z1 := g1 xs ha
    have z2 := g2 ys hb
    rw [e1] at z1
    rw [e2] at z2
    cases z1
    cases z2
    exact ⟨stp_new hT, cells_new c2 hT, rp_new_tup c2 hT (.cons f1 (.cons f2 .nil))⟩) (fun _ _ _ z => z) q⟩⟩

/-! ### lists that are cells -/
abbrev RB := D → List D → Sto → DQ → Prop
def MoB (rd : RB) : Prop := ∀ d ds s (Q Q' : DQ), (∀ d s', Q d s' → Q' d s') → rd d ds s Q → rd d ds s Q'
def BmD (K : PySem.W.Frag) (r : V → List V → Hp → VK → Prop) (rd : RB) : Prop := ∀ (s : Sto) (H : Hp) (v : V) (vs : List V) (d : D) (ds : List D) (Q : VK), Cells K s H → Rp K s H d v → RpL K s H ds vs → rd d ds s (QL K s H Q) → r v vs H Q
def isLC (s : Sto) (d : D) : Prop := match d with
  | .ref a => match s a with
    | some (.lst _) => True
    | _ => False
  | _ => False
theorem ty_lc {s : Sto} {H : Hp} {d : D} {v : V} (c : Cells K s H) (r : Rp K s H d v) (h : isLC s d) : tyV K "list" v H := by
  unfold isLC at h
  split at h
  · rename_i a
    cases r
    split at h
    · rename_i l hl
      obtain ⟨xs, e, _⟩ := c a _ hl
      exact .inl ⟨rfl, xs, SqL.of e⟩
    · exact h.elim
  · exact h.elim
def dBM (rd : RB) (to : DE) (t : DA) : DE := fun ρ s Q Z => to ρ s (fun d s1 => isLC s1 d ∧ t ρ s1 (fun ds s2 => rd d ds s2 Q) Z) Z
theorem lift_bm {r : V → List V → Hp → VK → Prop} {rd : RB} {to : DE} (hd : BmD K r rd) (hm : MoB rd) (ho : MoE to) (ha : MoA tA) : ∀ σ H Q, liftE K E (dBM rd to tA) σ H Q → tBM K "list" r (liftE K E to) (liftA K E tA) σ H Q := fun σ H Q ⟨ρ, s, rs, q⟩ => ⟨ρ, s, rs, ho ρ s _ _ _ _ (fun d s1 q1 => by
  intro v H1 st c rv
  refine ⟨ty_lc c rv q1.1, ρ, s1, rs.stp st c, ha ρ s1 _ _ _ _ (fun ds s2 q2 => ?_) (fun _ _ _ z => XL.stp st z) q1.2⟩
  intro vs H2 st2 c2 r2
  exact hd s2 H2 v vs d ds Q c2 (rv.stp st2) r2 (hm _ _ _ _ _ (fun _ _ z => z.stp (st.trans st2)) q2)) (fun _ _ _ z => z) q⟩
theorem mo_bm {rd : RB} {to : DE} (hm : MoB rd) (ho : MoE to) (ha : MoA tA) : MoE (dBM rd to tA) := fun ρ s Q Q' Z Z' hq hz q => ho ρ s _ _ Z Z' (fun d s1 q1 => ⟨q1.1, ha ρ s1 _ _ Z Z' (fun ds s2 q2 => hm _ _ _ _ _ hq q2) hz q1.2⟩) hz q
def rbApp : RB := fun d ds s Q => match d, ds with
  | .ref a, [x] => match s a with
    | some (.lst l) => l.length < sizeLine ∧ Q .non (supd s a (.lst (l ++ [x])))
    | _ => False
  | _, _ => False
theorem mo_app : MoB rbApp := fun d ds s Q Q' h q => by
  unfold rbApp at q ⊢
  split at q
  · split at q
    · exact ⟨q.1, h _ _ q.2⟩
    · exact q
  · exact q
theorem bm_app : BmD K rAppend rbApp := fun s H v vs d ds Q c r rr q => by
  unfold rbApp at q
  split at q
  · rename_i a x
    split at q
    · rename_i l hl
      cases r
      match vs, rr with
      | [y], .cons ry .nil =>
        obtain ⟨xs, e, rx⟩ := c a _ hl
        refine ⟨a, xs, y, rfl, rfl, e, by rw [← rx.length]; exact q.1, ?_⟩
        exact q.2 _ _ (stp_put hl) (cells_put c hl ⟨_, upd_same, (rx.append (.one ry)).stp (stp_put hl)⟩) .non
    · exact q.elim
  · exact q.elim
theorem pd_append {o e : Expr} {to : DE} {apos cpos : Pos} (ho : PD X E o to) (ha : PDA X E [e] tA) (hbase : attributeBase o "append" X.env (eval o X.env) = eval o X.env := by rfl)
    (hfew : ((backTo cpos (starEach (e :: []) X.env)).all (fun x => !x.1) && (backToKw cpos (keywordEach [] X.env)).all (fun x => x.1.isSome) && decide ((e :: []).length + ([] : List Keyword).length + (if ([] : List Keyword).isEmpty then 0 else 1) < 30)) = true := by rfl)
    (hline : (apos.endLine == cpos.line) = true := by rfl) (hs : starEach (e :: []) X.env = (false, eval e X.env) :: starEach [] X.env := by rfl) (hplain : (backTo cpos (starEach [] X.env)).any (·.1) = false := by rfl) :
    PD X E (.Call (.Attribute o "append" apos) [e] [] cpos) (dBM rbApp to tA) :=
  ⟨mo_bm mo_app ho.mo ha.mo, pe_weak (pe_bm PySem.F.plainAttrs_list PySem.F.slot_list_append PySem.F.type_list_append mt_append ho.run ha.run hbase hfew hline hs hplain) (lift_bm bm_app mo_app ho.mo ha.mo)⟩
/-- pop(i) -/
def rbPop : RB := fun d ds s Q => match d, ds with
  | .ref a, [.int i] => match s a with
    | some (.lst l) => ∃ (k : Nat) (x : D), (-(2 ^ 63) ≤ i ∧ i < 2 ^ 63) ∧ seqIndex? i l.length = some k ∧ l[k]? = some x ∧ Q x (supd s a (.lst (l.eraseIdx k)))
    | _ => False
  | _, _ => False
theorem mo_pop : MoB rbPop := fun d ds s Q Q' h q => by
  unfold rbPop at q ⊢
  split at q
  · split at q
    · obtain ⟨k, x, h1, h2, h3, h4⟩ := q
      exact ⟨k, x, h1, h2, h3, h _ _ h4⟩
    · exact q
  · exact q
theorem bm_pop : BmD K rPopAt rbPop := fun s H v vs d ds Q c r rr q => by
  unfold rbPop at q
  split at q
  · rename_i a i
    split at q
    · rename_i l hl
      obtain ⟨k, x, ⟨h1, h1'⟩, h2, h3, h4⟩ := q
      cases r
      match vs, rr with
      | [_], .cons (.int _) .nil =>
        obtain ⟨xs, e, rx⟩ := c a _ hl
        obtain ⟨y, hy, ry⟩ := rx.get h3
        refine ⟨a, xs, i, k, y, rfl, rfl, e, h1, h1', by rw [← rx.length]; exact h2, hy, ?_⟩
        exact h4 _ _ (stp_put hl) (cells_put c hl ⟨_, upd_same, (rx.eraseIdx k).stp (stp_put hl)⟩) (ry.stp (stp_put hl))
    · exact q.elim
  · exact q.elim
theorem pd_popAt {o e : Expr} {to : DE} {apos cpos : Pos} (ho : PD X E o to) (ha : PDA X E [e] tA) (hbase : attributeBase o "pop" X.env (eval o X.env) = eval o X.env := by rfl)
    (hfew : ((backTo cpos (starEach (e :: []) X.env)).all (fun x => !x.1) && (backToKw cpos (keywordEach [] X.env)).all (fun x => x.1.isSome) && decide ((e :: []).length + ([] : List Keyword).length + (if ([] : List Keyword).isEmpty then 0 else 1) < 30)) = true := by rfl)
    (hline : (apos.endLine == cpos.line) = true := by rfl) (hs : starEach (e :: []) X.env = (false, eval e X.env) :: starEach [] X.env := by rfl) (hplain : (backTo cpos (starEach [] X.env)).any (·.1) = false := by rfl) :
    PD X E (.Call (.Attribute o "pop" apos) [e] [] cpos) (dBM rbPop to tA) :=
  ⟨mo_bm mo_pop ho.mo ha.mo, pe_weak (pe_bm PySem.F.plainAttrs_list PySem.F.slot_list_pop PySem.F.type_list_pop mt_popAt ho.run ha.run hbase hfew hline hs hplain) (lift_bm bm_pop mo_pop ho.mo ha.mo)⟩

/-! ### texts' methods: split at a text -/
def dM1 (rd : RB) (to te : DE) : DE := fun ρ s Q Z => to ρ s (fun d s1 => match d with
  | .str z => te ρ s1 (fun x s2 => rd (.str z) [x] s2 Q) Z
  | _ => False) Z
def rbSplit : RB := fun d ds s Q => match d, ds with
  | .str a, [.str b] => (b.length == 0) = false ∧ a.length + 2 ≤ sizeLine ∧ Q (.lst ((Txt.split a b).map D.str)) s
  | _, _ => False
theorem RpL.ofStrs {s : Sto} {H : Hp} : ∀ xs : List Str, RpL K s H (xs.map D.str) (xs.map V.str)
  | [] => .nil
  | x :: r => .cons (.str x) (RpL.ofStrs r)
theorem pd_split {o e : Expr} {to te : DE} {apos pos : Pos} (ho : PD X E o to) (he : PD X E e te) (hs : starEach [e] X.env = [(false, eval e X.env)] := by rfl) (hbase : attributeBase o "split" X.env (eval o X.env) = eval o X.env := by rfl) (hline : (apos.endLine == pos.line) = true := by rfl) :
    PD X E (.Call (.Attribute o "split" apos) [e] [] pos) (dM1 rbSplit to te) :=
  ⟨fun ρ s Q Q' Z Z' hq hz q => ho.mo ρ s _ _ Z Z' (fun d s1 q1 => by
      match d, q1 with
      | .str z, q1 => exact he.mo ρ s1 _ _ Z Z' (fun x s2 q2 => by
          match x, q2 with
          | .str b, q2 => exact ⟨q2.1, q2.2.1, hq _ _ q2.2.2⟩) hz q1) hz q,
    pe_weak (pe_split ho.run he.run hs hbase hline) fun σ H Q ⟨ρ, s, rs, q⟩ => ⟨ρ, s, rs, ho.mo ρ s _ _ _ _ (fun d s1 q1 => by
      intro v H1 st c r
      match d, q1, r with
      | .str z, q1, .str _ =>
        refine ⟨⟨z, rfl⟩, ρ, s1, rs.stp st c, he.mo ρ s1 _ _ _ _ (fun x s2 q2 => ?_) (fun _ _ _ z => XL.stp st z) q1⟩
        intro v2 H2 st2 c2 r2
        match x, q2, r2 with
        | .str b, q2, .str _ => exact ⟨z, b, rfl, rfl, q2.1, q2.2.1, fun n hn => q2.2.2 _ _ ((st.trans st2).trans (stp_new hn)) (cells_new c2 hn) (rp_new_lst c2 hn (RpL.ofStrs _))⟩) (fun _ _ _ z => z) q⟩⟩
end
end G

/-! GLay8: instances (fields, methods, making), dicts with written text keys, errors raised. -/
namespace G
open PySem
open PySem.Spec PyProof.Rows L2
section
variable {X : Cx} {E : XK} {K : PySem.W.Frag} {pos p : Pos} {e e2 : Expr} {es : List Expr} {tA : DA} {te : DE}

/-! ### fields -/
/-- the fields of an instance of the class at C -/
def insOf (C : Addr) (s : Sto) : D → Option (List (Str × D))
  | .ins C' l => if C' = C then some l else none
  | .ref a => match s a with
    | some (.ins C' l) => if C' = C then some l else none
    | _ => none
  | _ => none
theorem rp_ins {C : Addr} {s : Sto} {H : Hp} {d : D} {v : V} {l : List (Str × D)} (c : Cells K s H) (r : Rp K s H d v) (h : insOf C s d = some l) : ∃ a dx fs, v = .ref a ∧ H a = some (.ins C dx fs) ∧ RpF K s H l fs := by
  unfold insOf at h
  split at h
  · split at h
    · rename_i C' l' e
      cases h
      cases r with
      | ins hs ha rf =>
        subst e
        exact ⟨_, _, _, rfl, ha, rf⟩
    · cases h
  · split at h
    · split at h
      · rename_i a _ C' l' hl e
        cases h
        subst e
        cases r
        obtain ⟨dx, ys, h1, rf⟩ := c a _ hl
        exact ⟨a, dx, ys, rfl, h1, rf⟩
      · cases h
    · cases h
  · cases h
def dFld (C : Addr) (f : Str) (te : DE) : DE := fun ρ s Q Z => te ρ s (fun d s1 => match insOf C s1 d with
  | some l => match l.lookup f with
    | some x => Q x s1
    | none => False
  | none => False) Z
theorem mo_fld {C : Addr} {f : Str} (h : MoE te) : MoE (dFld C f te) := fun ρ s Q Q' Z Z' hq hz q => h ρ s _ _ Z Z' (fun d s1 q1 => by
  split at q1
  · split at q1
    · exact hq _ _ q1
    · exact q1
  · exact q1) hz q
theorem pd_fld {C : Addr} {f : Str} (c : Cls X.K C) (n : NoAttr X.K C f) (h : PD X E e te) (hb : attributeBase e f X.env (eval e X.env) = eval e X.env := by rfl) : PD X E (.Attribute e f pos) (dFld C f te) :=
  ⟨mo_fld h.mo, pe_weak (pe_fld h.run hb) fun σ H Q ⟨ρ, s, rs, q⟩ => ⟨ρ, s, rs, h.mo ρ s _ _ _ _ (fun d s1 q1 => by
    intro v H1 st ce r
    split at q1
    · rename_i l el
      split at q1
      · rename_i x ex
        obtain ⟨a, dx, fs, rfl, ha, rf⟩ := rp_ins ce r el
        obtain ⟨w, hw, rw'⟩ := rf.lookup ex
        exact ⟨a, C, dx, fs, w, rfl, ha, c, n, hw, q1 w H1 st ce rw'⟩
      · exact q1.elim
    · exact q1.elim) (fun _ _ _ z => z) q⟩⟩
theorem putD_length (f : Str) (d : D) : ∀ l : List (Str × D), (putD f d l).length ≤ l.length + 1
  | [] => Nat.le_refl _
  | (g, e) :: r => by
    unfold putD
    split
    · exact Nat.le_succ _
    · exact Nat.succ_le_succ (putD_length f d r)
theorem RpF.put {s : Sto} {H : Hp} {f : Str} {d : D} {v : V} (h : Rp K s H d v) : ∀ {l : List (Str × D)} {fs : List (Str × V)}, RpF K s H l fs → RpF K s H (putD f d l) (putF f v fs)
  | _, _, .nil => .cons h .nil
  | _, _, .cons (f := g) q r => by
    unfold putD putF
    split
    · exact .cons h r
    · exact .cons q (RpF.put h r)
/-- o.f = e -/
def dSetF (C : Addr) (f : Str) (to te : DE) : DS := fun K ρ s => te ρ s (fun d s1 => to ρ s1 (fun x s2 => match x with
  | .ref a => match s2 a with
    | some (.ins C' l) => C' = C ∧ l.length < 1000 ∧ K.nx ρ (supd s2 a (.ins C (putD f d l)))
    | _ => False
  | _ => False) K.xc) K.xc
theorem pd_setF {C : Addr} {f : Str} {o value : Expr} {to te : DE} {pos' : Pos} (c : Cls X.K C) (n : NoAttr X.K C f) (ho : PD X E o to) (he : PD X E value te) (hs : swapsWith value (some (.Attribute o f pos')) pos.line X.env = pure false := by rfl) : PDS X E (.Assign [.Attribute o f pos'] value pos) (dSetF C f to te) :=
  ⟨fun K K' ρ s l q => he.mo ρ s _ _ _ _ (fun d s1 q1 => ho.mo ρ s1 _ _ _ _ (fun x s2 q2 => by
      split at q2
      · split at q2
        · exact ⟨q2.1, q2.2.1, l.nx _ _ q2.2.2⟩
        · exact q2
      · exact q2) l.xc q1) l.xc q, ps_weak (ps_fld ho.run he.run hs) fun D σ H ⟨ρ, s, rs, q⟩ => ⟨ρ, s, rs, he.mo ρ s _ _ _ _ (fun d s1 q1 => by
      intro v H1 st ce r
      refine ⟨ρ, s1, rs.stp st ce, ho.mo ρ s1 _ _ _ _ (fun x s2 q2 => ?_) (fun _ _ _ z => XL.stp st z) q1⟩
      intro y H2 st2 c2 r2
      split at q2
      · rename_i a
        split at q2
        · rename_i C' l hl
          obtain ⟨e1, e2, e3⟩ := q2
          subst e1
          cases r2
          obtain ⟨dx, fs, ha, rf⟩ := c2 a _ hl
          refine ⟨a, C', dx, fs, rfl, ha, c, n, by rw [← rf.length]; exact e2, ?_⟩
          have stP : Stp s2 H2 (supd s2 a (.ins C' (putD f d l))) (upd H2 a (.ins C' dx (putF f v fs))) := stp_put hl
          have cP : Cells X.K (supd s2 a (.ins C' (putD f d l))) (upd H2 a (.ins C' dx (putF f v fs))) := cells_put c2 hl ⟨dx, _, upd_same, (RpF.put (r.stp st2) rf).stp stP⟩
          exact e3 σ _ ((st.trans st2).trans stP) (rs.stp ((st.trans st2).trans stP) cP)
        · exact q2.elim
      · exact q2.elim) (fun _ _ _ z => z) q⟩⟩
/-- o.f as a target -/
def gF (C : Addr) (f : Str) (to : DE) : DG := fun d ρ s P => to ρ s (fun x s2 => match x with
  | .ref a => match s2 a with
    | some (.ins C' l) => C' = C ∧ l.length < 1000 ∧ P ρ (supd s2 a (.ins C (putD f d l)))
    | _ => False
  | _ => False) (fun _ _ _ => False)
def gFld (K : PySem.W.Frag) (f : Str) (to : TE) : TG := fun v σ H P => to σ H fun x H1 => ∃ a C dx fs, x = .ref a ∧ H1 a = some (.ins C dx fs) ∧ Cls K C ∧ NoAttr K C f ∧ fs.length < 1000 ∧ P σ (upd H1 a (.ins C dx (putF f v fs)))
theorem pg_fld {f : Str} {o : Expr} {to : TE} (ho : PE X o to) : PG X (.Attribute o f pos) (gFld X.K f to) := by
  refine ⟨fun pins s
      σ H v u Q I r h => ?_⟩
  rw [PySem.assign_Attribute]
  refine wpAny_bind (wpAny_holding (thn (ho.run pins s σ H _ I h) fun ov s1 hx => ?_))
  obtain ⟨x, H1, I1, rx, a, C, dx, fs, ex, ea, c, n, l, q⟩ := hx
  subst ex
  obtain rfl : ov = Value.ref a :=
      rx
  refine wpAny_bind (wpAny_standAt (wpAny_bind (wpAny_holding (setattr_ok I1 ea c n l r fun s3 I3 => ?_))))
  exact wpAny_release ⟨σ, _, I3, q⟩
theorem pdg_fld {C : Addr} {f : Str} {o : Expr} {to : DE} (c : Cls X.K C) (n : NoAttr X.K C f) (ho : PD X EF o to) : PDG X (.Attribute o f pos) [] (gFld X.K f (liftE X.K EF to)) (gF C f to) :=
  ⟨pg_fld ho.run, fun d ρ s P P' hp q => ho.mo ρ s _ _ _ _ (fun x s2 q2 => by
      split at q2
      · split at q2
        · exact ⟨q2.1, q2.2.1, hp _ _ q2.2.2⟩
        · exact q2
      · exact q2) (fun _ _ _ z => z) q, fun s H σ ρ d v P rs r q => ⟨ρ, s, rs, ho.mo ρ s _ _ _ _ (fun x s2 q2 => by
      intro y H2 st2 c2 r2
      split at q2
      · rename_i a
        split at q2
        · rename_i C' l hl
          obtain ⟨e1, e2, e3⟩ := q2
          subst e1
          cases r2
          obtain ⟨dx, fs, ha, rf⟩ := c2 a _ hl
          refine ⟨a, C', dx, fs, rfl, ha, c, n, by rw [← rf.length]; exact e2, ?_⟩
          have stP : Stp s2 H2 (supd s2 a (.ins C' (putD f d l))) (upd H2 a (.ins C' dx (putF f v fs))) := stp_put hl
          have cP : Cells X.K (supd s2 a (.ins C' (putD f d l))) (upd H2 a (.ins C' dx (putF f v fs))) := cells_put c2 hl ⟨dx, _, upd_same, (RpF.put (r.stp st2) rf).stp stP⟩
          exact e3 σ _ (st2.trans stP) (rs.stp (st2.trans stP) cP) (OnlyAt.refl σ)
        · exact q2.elim
      · exact q2.elim) (fun _ _ _ z => z.elim) q⟩⟩
/-- o.f += e, whole numbers -/
def dAugF (C : Addr) (f : Str) (g : Int → Int → Int) (to te : DE) : DS := fun K ρ s => to ρ s (fun x s1 => match x with
  | .ref a => match s1 a with
    | some (.ins C' l) => C' = C ∧ match l.lookup f with
      | some (.int i) => te ρ s1 (fun y s2 => match y with
        | .int j => match s2 a with
          | some (.ins C2 l2) => C2 = C ∧ l2.length < 1000 ∧ K.nx ρ (supd s2 a (.ins C (putD f (.int (g i j)) l2)))
          | _ => False
        | _ => False) K.xc
      | _ => False
    | _ => False
  | _ => False) K.xc
theorem pd_augF {C : Addr} {f : Str} {o value : Expr} {to te : DE} {tpos : Pos} {op : Operator} {g : Int → Int → Int} (c : Cls X.K C) (n : NoAttr X.K C f) (hop : InOp X op (fun x y H Q => ∃ i j, x = .int i ∧ y = .int j ∧ Q (.int (g i j)) H)) (ho : PD X E o to) (he : PD X E value te) : PDS X E (.AugAssign (.Attribute o f tpos) op value pos) (dAugF C f g to te) :=
  ⟨fun K K' ρ s l q => ho.mo ρ s _ _ _ _ (fun x s1 q1 => by
      split at q1
      · split at q1
        · refine ⟨q1.1, ?_⟩
          have q2 := q1.2
          split at q2
          · exact he.mo _ _ _ _ _ _ (fun y s2 q3 => by
              split at q3
              · split at q3
                · exact ⟨q3.1, q3.2.1, l.nx _ _ q3.2.2⟩
                · exact q3
              · exact q3) l.xc q2
          · exact q2
        · exact q1
      · exact q1) l.xc q, ps_weak (ps_fldaug ho.run he.run hop) fun D σ H ⟨ρ, s, rs, q⟩ => ⟨ρ, s, rs, ho.mo ρ s _ _ _ _ (fun x s1 q1 => by
      intro v H1 st ce r
      split at q1
      · rename_i a
        split at q1
        · rename_i C' l hl
          obtain ⟨e1, q2⟩ := q1
          subst e1
          split at q2
          · rename_i i ei
            cases r
            obtain ⟨dx, fs, ha, rf⟩ := ce a _ hl
            obtain ⟨w, hw, rw'⟩ := rf.lookup ei
            cases rw'
            refine ⟨a, C', dx, fs, .int i, rfl, ha, c, n, hw, ρ, s1, rs.stp st ce, he.mo ρ s1 _ _ _ _ (fun y s2 q3 => ?_) (fun _ _ _ z => XL.stp st z) q2⟩
            intro y2 H2 st2 c2 r2
            split at q3
            · rename_i j
              split at q3
              · rename_i C2 l2 hl2
                obtain ⟨f1, f2, f3⟩ := q3
                subst f1
                cases r2
                obtain ⟨dx2, fs2, ha2, rf2⟩ := c2 a _ hl2
                refine ⟨i, j, rfl, rfl, dx2, fs2, ha2, by rw [← rf2.length]; exact f2, ?_⟩
                have stP : Stp s2 H2 (supd s2 a (.ins C2 (putD f (.int (g i j)) l2))) (upd H2 a (.ins C2 dx2 (putF f (.int (g i j)) fs2))) := stp_put hl2
                have cP : Cells X.K (supd s2 a (.ins C2 (putD f (.int (g i j)) l2))) (upd H2 a (.ins C2 dx2 (putF f (.int (g i j)) fs2))) := cells_put c2 hl2 ⟨dx2, _, upd_same, (RpF.put (.int _) rf2).stp stP⟩
                exact f3 σ _ ((st.trans st2).trans stP) (rs.stp ((st.trans st2).trans stP) cP)
              · exact q3.elim
            · exact q3.elim
          · exact q2.elim
        · exact q1.elim
      · exact q1.elim) (fun _ _ _ z => z) q⟩⟩

/-! ### methods -/
def dMeth (C : Addr) (m : Str) (n : Nat) (g : DF) (te : DE) (tA : DA) : DE := fun ρ s Q Z => te ρ s (fun d s1 => match insOf C s1 d with
  | some l => l.lookup m = none ∧ tA ρ s1 (fun ds s2 => (d :: ds).length = n ∧ g (d :: ds) s2 Q Z) Z
  | none => False) Z
theorem mo_meth {C : Addr} {m : Str} {n : Nat} {g : DF} (hg : MoF g) (h : MoE te) (k : MoA tA) : MoE (dMeth C m n g te tA) := fun ρ s Q Q' Z Z' hq hz q => h ρ s _ _ Z Z' (fun d s1 q1 => by
  split at q1
  · exact ⟨q1.1, k ρ s1 _ _ Z Z' (fun ds s2 q2 => ⟨q2.1, hg _ _ _ _ _ _ hq hz q2.2⟩) hz q1.2⟩
  · exact q1) hz q
theorem lift_meth {C : Addr} {m : Str} {n : Nat} {g : DF} (hg : MoF g) (h : MoE te) (k : MoA tA) : ∀ σ H Q, liftE K E (dMeth C m n g te tA) σ H Q → tMeth C m (spG K n g) [] E (liftE K E te) (liftA K E tA) σ H Q := fun σ H Q ⟨ρ, s, rs, q⟩ => ⟨ρ, s, rs, h ρ s _ _ _ _ (fun d s1 q1 => by
  intro v H1 st ce r
  split at q1
  · rename_i l el
    obtain ⟨a, dx, fs, rfl, ha, rf⟩ := rp_ins ce r el
    refine ⟨a, dx, fs, rfl, ha, rf.lookup_none q1.1, ρ, s1, rs.stp st ce, k ρ s1 _ _ _ _ (fun ds s2 q2 => ?_) (fun _ _ _ z => XL.stp st z) q1.2⟩
    intro vs H2 st2 c2 r2
    rw [List.append_nil]
    exact ⟨d :: ds, s2, q2.1, .cons (r.stp st2) r2, c2, hg _ _ _ _ _ _ (fun _ _ z => z.stp (st.trans st2)) (fun _ _ _ z => XL.stp (st.trans st2) z) q2.2⟩
  · exact q1.elim) (fun _ _ _ z => z) q⟩
/-- all that a caller must know of a method -/
structure MetOk (P : Program) (w : World) (K : PySem.W.Frag) (mg : Str → Option Value) (base : Heap) (k : Nat) (C : Addr) (m : Str) (n : Nat) (g : DF) : Prop where
  mo : MoF g
  cl : Cls K C
  ok : ∃ (f : Addr) (fd : FuncData) (ps : List Str), Meth K C m f ∧ Binds K fd ps [] ∧ FnOk P w K mg base (L2.CX P w) k f fd ps (spG K n g)
theorem pd_meth {C : Addr} {m : Str} {k n : Nat} {g : DF} {o : Expr} {to : DE} {apos : Pos} {pl : Sem Bool} (F : MetOk X.prog X.w X.K X.mg X.base k C m n g) (hr : Room k X.A) (hx : PassX X E) (ho : PD X E o to) (ha : PDA X E (e :: es) tA)
    (hst : starEach (e :: es) X.env = (false, eval e X.env) :: starEach es X.env :=
        by rfl) (hpl : (backTo pos (starEach es X.env)).any (·.1) = false := by rfl)
    (ht : eval (.Call (.Attribute o m apos)
        (e :: es) [] pos) X.env = (do
      let ov ← eval o X.env
      standAt apos.atName
      let (f, first) ← holding [ov]
          (getMethod ov m pl)
      callWith pos f first (backTo pos (starEach (e :: es) X.env)) (backToKw pos (keywordEach [] X.env))) := by rfl) : PD X E (.Call (.Attribute o m apos) (e :: es) [] pos) (dMeth C m n g to tA) := by
  obtain ⟨f, fd, ps, hm, hb, ok⟩ := F.ok
  exact ⟨mo_meth F.mo ho.mo ha.mo, pe_weak (pe_meth ho.run F.cl hm ok hr hb .nil hx ha.run hst hpl ht) (lift_meth F.mo ho.mo ha.mo)⟩
theorem pd_meth0 {C : Addr} {m : Str} {k n : Nat} {g : DF} {o : Expr} {to : DE} {apos : Pos} {pl : Sem Bool} (F : MetOk X.prog X.w X.K X.mg X.base k C m n g) (hr : Room k X.A) (hx : PassX X E) (ho : PD X E o to)
    (ht : eval (.Call
        (.Attribute o m apos) [] [] pos) X.env = (do
      let ov ← eval o X.env
      standAt apos.atName
      let (f, first) ← holding [ov]
          (getMethod ov m pl)
      callWith pos f first (backTo pos (starEach [] X.env)) (backToKw pos (keywordEach [] X.env))) := by rfl) : PD X E (.Call (.Attribute o m apos) [] [] pos) (dMeth C m n g to dNil) := by
  obtain ⟨f, fd, ps, hm, hb, ok⟩ := F.ok
  have N : PDA X E [] dNil := pda_nil
  refine ⟨mo_meth F.mo ho.mo N.mo, pe_weak (pe_meth0 ho.run F.cl hm ok hr hb .nil hx ht) fun σ H Q h => ?_⟩
  obtain ⟨ρ, s, rs, q⟩ := h
  refine ⟨ρ, s, rs, ho.mo ρ s _ _ _ _ (fun d s1 q1 => ?_) (fun _ _ _ z => z) q⟩
  intro v H1 st ce r
  split at q1
  · rename_i l el
    obtain ⟨a, dx, fs, rfl, ha, rf⟩ := rp_ins ce r el
    refine ⟨a, dx, fs, rfl, ha, rf.lookup_none q1.1, ?_⟩
    exact ⟨[d], s1, q1.2.1, .cons r .nil, ce, F.mo _ _ _ _ _ _ (fun _ _ z => z.stp st) (fun _ _ _ z => XL.stp st z) q1.2.2⟩
  · exact q1.elim

/-! ### making -/
def dMake (C : Addr) (n : Nat) (g : DF) (tA : DA) : DE := fun ρ s Q Z => tA ρ s (fun ds s1 => ds.length + 1 = n ∧ ∀ a, s1 a = none → g (.ref a :: ds) (supd s1 a (.ins C [])) (fun d s2 => d = .non ∧ Q (.ref a) s2) Z) Z
/-- .. that stands still behind -/
def dMakeD (C : Addr) (n : Nat) (g : DF) (tA : DA) : DE := fun ρ s Q Z => tA ρ s (fun ds s1 => ds.length + 1 = n ∧ ∀ a, s1 a = none → g (.ref a :: ds) (supd s1 a (.ins C [])) (fun d s2 => d = .non ∧ ∃ l, s2 a = some (.ins C l) ∧ Q (.ins C l) (sdel s2 a)) Z) Z
theorem mo_make {C : Addr} {n : Nat} {g : DF} (hg : MoF g) (k : MoA tA) : MoE (dMake C n g tA) := fun ρ s Q Q' Z Z' hq hz q => k ρ s _ _ Z Z' (fun ds s1 q1 => ⟨q1.1, fun a ha => hg _ _ _ _ _ _ (fun d s2 q2 => ⟨q2.1, hq _ _ q2.2⟩) hz (q1.2 a ha)⟩) hz q
theorem mo_makeD {C : Addr} {n : Nat} {g : DF} (hg : MoF g) (k : MoA tA) : MoE (dMakeD C n g tA) := fun ρ s Q Q' Z Z' hq hz q => k ρ s _ _ Z Z' (fun ds s1 q1 => ⟨q1.1, fun a ha => hg _ _ _ _ _ _ (fun d s2 q2 => by
  obtain ⟨h1, l, h2, h3⟩ := q2
  exact ⟨h1, l, h2, hq _ _ h3⟩) hz (q1.2 a ha)⟩) hz q
structure MakeOk (P : Program) (w : World) (K : PySem.W.Frag) (mg : Str → Option Value) (base : Heap) (k : Nat) (x : Str) (C : Addr) (n : Nat) (g : DF) : Prop where
  mo : MoF g
  ok : ∃ (f : Addr) (fd : FuncData) (ps : List Str), mg x = some (.ref C) ∧ Mk K C f ∧ Binds K fd ps [] ∧ FnOk P w K mg base (L2.CX P w) k f fd ps (spG K n g)
theorem made_st {C x dx : Addr} {s : Sto} {H : Hp} (c : Cells K s H) (hx : H x = none) (hd : H dx = none) (hne : dx ≠ x) : Stp s H (supd s x (.ins C [])) (upd (upd H dx (.own x)) x (.ins C dx [])) ∧ Cells K (supd s x (.ins C [])) (upd (upd H dx (.own x)) x (.ins C dx [])) := by
  have h2 : (upd H dx (.own x)) x = none := by rw [upd_ne hne.symm]; exact hx
  exact ⟨(stp_new hd).trans (stp_cell h2), cells_cell (cells_new c hd) h2 ⟨dx, [], upd_same, .nil⟩⟩
theorem lift_make {C : Addr} {n : Nat} {g : DF} (hg : MoF g) (k : MoA tA) : ∀ σ H Q, liftE K E (dMake C n g tA) σ H Q → tMake C (spG K n g) [] E (liftA K E tA) σ H Q := fun σ H Q ⟨ρ, s, rs, q⟩ => ⟨ρ, s, rs, k ρ s _ _ _ _ (fun ds s1 q1 => by
  intro vs H1 st ce r x dx hx hd hne
  obtain ⟨stM, cM⟩ := made_st (C := C) ce hx hd hne
  rw [List.append_nil]
  refine ⟨.ref x :: ds, _, q1.1, .cons (.ref x) (r.stp stM), cM, hg _ _ _ _ _ _ (fun d s2 q2 => ?_) (fun _ _ _ z => XL.stp (st.trans stM) z) (q1.2 x (ce.free hx))⟩
  intro v H2 st2 c2 r2
  obtain ⟨e1, e2⟩ := q2
  subst e1
  cases r2
  exact ⟨rfl, e2 _ _ ((st.trans stM).trans st2) c2 (.ref x)⟩) (fun _ _ _ z => z) q⟩
theorem lift_makeD {C : Addr} {n : Nat} {g : DF} (hg : MoF g) (k : MoA tA) : ∀ σ H Q, liftE K E (dMakeD C n g tA) σ H Q → tMake C (spG K n g) [] E (liftA K E tA) σ H Q := fun σ H Q ⟨ρ, s, rs, q⟩ => ⟨ρ, s, rs, k ρ s _ _ _ _ (fun ds s1 q1 => by
  intro vs H1 st ce r x dx hx hd hne
  obtain ⟨stM, cM⟩ := made_st (C := C) ce hx hd hne
  rw [List.append_nil]
  refine ⟨.ref x :: ds, _, q1.1, .cons (.ref x) (r.stp stM), cM, hg _ _ _ _ _ _ (fun d s2 q2 => ?_) (fun _ _ _ z => XL.stp (st.trans stM) z) (q1.2 x (ce.free hx))⟩
  intro v H2 st2 c2 r2
  obtain ⟨e1, l, e2, e3⟩ := q2
  subst e1
  cases r2
  exact ⟨rfl, e3 _ _ (((st.trans stM).trans st2).trans stp_del) (cells_del c2) (rp_frz c2 e2 rfl)⟩) (fun _ _ _ z => z) q⟩
theorem pd_make {C : Addr} {x : Str} {k n : Nat} {g : DF} (F : MakeOk X.prog X.w X.K X.mg X.base k x C n g) (hr : Room (k + 1) X.A) (hx : PassX X E) (ha : PDA X E (e :: es) tA) (hg : Gl X x := by rfl) (hdb : (x == ("__debug__" : Str)) = false := by decide)
    (he : starEach (e :: es) X.env = (false, eval e X.env) :: starEach es X.env := by rfl) (hpl : (backTo pos (starEach es X.env)).any (·.1) = false := by rfl) : PD X E (.Call (.Name x p) (e :: es) [] pos) (dMake C n g tA) := by
  obtain ⟨f, fd, ps, hm, hM, hb, ok⟩ := F.ok
  exact ⟨mo_make F.mo ha.mo, pe_weak (pe_make hM ok hr hg hm hb .nil hx ha.run hdb he hpl) (lift_make F.mo ha.mo)⟩
theorem pd_makeD {C : Addr} {x : Str} {k n : Nat} {g : DF} (F : MakeOk X.prog X.w X.K X.mg X.base k x C n g) (hr : Room (k + 1) X.A) (hx : PassX X E) (ha : PDA X E (e :: es) tA) (hg : Gl X x := by rfl) (hdb : (x == ("__debug__" : Str)) = false := by decide)
    (he : starEach (e :: es) X.env = (false, eval e X.env) :: starEach es X.env := by rfl) (hpl : (backTo pos (starEach es X.env)).any (·.1) = false := by rfl) : PD X E (.Call (.Name x p) (e :: es) [] pos) (dMakeD C n g tA) := by
  obtain ⟨f, fd, ps, hm, hM, hb, ok⟩ := F.ok
  exact ⟨mo_makeD F.mo ha.mo, pe_weak (pe_make hM ok hr hg hm hb .nil hx ha.run hdb he hpl) (lift_makeD F.mo ha.mo)⟩

/-! ### dicts with written keys -/
def valD (kvs : List (Key × D)) (k : Key) : Option D := (kvs.find? fun kv => decide (kv.1 = k)).map (·.2)
def putKD (kvs : List (Key × D)) (k : Key) (v : D) : List (Key × D) :=
  if (kvs.any fun kv => decide (kv.1 = k)) = true then kvs.map
      (fun kv => if kv.1 = k then (kv.1, v) else kv) else kvs ++ [(k, v)]
def keyD : D → Option Key
  | .str x => some (.inr x)
  | .int i => some (.inl i)
  | _ => none
theorem rp_key {s : Sto} {H : Hp} {d : D} {v : V} {k : Key} (r : Rp K s H d v) (h : keyD d = some k) : v = kV k := by
  cases r with
  | str x => cases h; rfl
  | int i => cases h; rfl
  | _ => cases h
theorem RpK.val {s : Sto} {H : Hp} {k : Key} : ∀ {ds : List (Key × D)} {vs : List (Key × V)} {d : D}, RpK K s H ds vs → valD ds k = some d → ∃ v, valV vs k = some v ∧ Rp K s H d v
  | _, _, _, .nil, e => by cases e
  | _, _, d, .cons (k := k') (d := d') (v := v') h r, e => by
    unfold valD at e
    unfold valV
    rw [List.find?_cons] at e ⊢
    by_cases hk : k' = k
    · rw [decide_eq_true hk] at e ⊢
      cases e
      exact ⟨v', rfl, h⟩
    · rw [decide_eq_false hk] at e ⊢
      exact RpK.val r e
theorem RpK.any {s : Sto} {H : Hp} {k : Key} : ∀ {ds : List (Key × D)} {vs : List (Key × V)}, RpK K s H ds vs → (ds.any fun kv => decide (kv.1 = k)) = vs.any fun kv => decide (kv.1 = k)
  | _, _, .nil => rfl
  | _, _, .cons h r => by
    rw [List.any_cons, List.any_cons, RpK.any r]
theorem RpK.map {s : Sto} {H : Hp} {k : Key} {d : D} {v : V} (h : Rp K s H d v) : ∀ {ds : List (Key × D)} {vs : List (Key × V)}, RpK K s H ds vs → RpK K s H (ds.map fun kv => if kv.1 = k then (kv.1, d) else kv) (vs.map fun kv => if kv.1 = k then (kv.1, v) else kv)
  | _, _, .nil => .nil
  | _, _, .cons (k := k') q r => by
    rw [List.map_cons,
        List.map_cons]
    dsimp only
    split
    · exact .cons h (RpK.map h r)
    · exact .cons q (RpK.map h r)
theorem RpK.append {s : Sto} {H : Hp} : ∀ {ds es : List (Key × D)} {vs ws : List (Key × V)}, RpK K s H ds vs → RpK K s H es ws → RpK K s H (ds ++ es) (vs ++ ws)
  | _, _, _, _, .nil, r => r
  | _, _, _, _, .cons h t, r => .cons h (RpK.append t r)
theorem RpK.put {s : Sto} {H : Hp} {k : Key} {d : D} {v : V} (h : Rp K s H d v) {ds : List (Key × D)} {vs : List (Key × V)} (r : RpK K s H ds vs) : RpK K s H (putKD ds k d) (putK vs k v) := by
  unfold putKD putK
  rw [RpK.any (k := k) r]
  split
  · exact RpK.map h r
  · exact r.append (.cons h .nil)
def dDGet (td ty : DE) : DE := fun ρ s Q Z => td ρ s (fun x s1 => ty ρ s1 (fun y s2 => match x, keyD y with
  | .ref a, some k => match s2 a with
    | some (.dK kvs) => match valD kvs k with
      | some d => Q d s2
      | none => False
    | _ => False
  | _, _ => False) Z) Z
theorem pd_dget {o i : Expr} {td ty : DE} {k : Nat} (hr : Room k X.A) (ho : PD X E o td) (hi : PD X E i ty) (hs : NoSl i := by intro _ _; rfl) : PD X E (.Subscript o i pos) (dDGet td ty) :=
  ⟨fun ρ s Q Q' Z Z' hq hz q => ho.mo ρ s _ _ Z Z' (fun x s1 q1 => hi.mo ρ s1 _ _ Z Z' (fun y s2 q2 => by
      split at q2
      · split at q2
        · split at q2
          · exact hq _ _ q2
          · exact q2
        · exact q2
      · exact q2) hz q1) hz q, pe_weak (pe_dget (hu_of hr) ho.run hi.run hs) fun σ H Q ⟨ρ, s, rs, q⟩ => ⟨ρ, s, rs, ho.mo ρ s _ _ _ _ (fun x s1 q1 => by
      intro v H1 st ce r
      refine ⟨ρ, s1, rs.stp st ce, hi.mo ρ s1 _ _ _ _ (fun y s2 q2 => ?_) (fun _ _ _ z => XL.stp st z) q1⟩
      intro w H2 st2 c2 r2
      split at q2
      · rename_i a k ek
        split at q2
        · rename_i kvs hl
          split at q2
          · rename_i d hd
            cases r
            obtain ⟨vs, ha, rk⟩ := c2 a _ hl
            obtain ⟨u, hu, ru⟩ := rk.val hd
            have ez := rp_key r2 ek
            subst ez
            exact ⟨a, u, rfl, by rw [← hu]; exact DGet.k ha, q2 _ _ (st.trans st2) c2 ru⟩
          · exact q2.elim
        · exact q2.elim
      · exact q2.elim) (fun _ _ _ z => z) q⟩⟩
/-- d[k] = e -/
def dDPut (td ty te : DE) : DS := fun K ρ s => te ρ s (fun d s1 => td ρ s1 (fun x s2 => ty ρ s2 (fun y s3 => match x, keyD y with
  | .ref a, some k => match s3 a with
    | some (.dK kvs) => kvs.length < sizeLine ∧ K.nx ρ (supd s3 a (.dK (putKD kvs k d)))
    | _ => False
  | _, _ => False) K.xc) K.xc) K.xc
theorem pd_dput {o i value : Expr} {td ty te : DE} {k : Nat} {pos' : Pos} (hr : Room k X.A) (ho : PD X E o td) (hi : PD X E i ty) (he : PD X E value te) (hs : swapsWith value (some (.Subscript o i pos')) pos.line X.env = pure false := by rfl) : PDS X E (.Assign [.Subscript o i pos'] value pos) (dDPut td ty te) :=
  ⟨fun K K' ρ s l q => he.mo ρ s _ _ _ _ (fun d s1 q1 => ho.mo ρ s1 _ _ _ _ (fun x s2 q2 => hi.mo ρ s2 _ _ _ _ (fun y s3 q3 => by
      split at q3
      · split at q3
        · exact ⟨q3.1, l.nx _ _ q3.2⟩
        · exact q3
      · exact q3) l.xc q2) l.xc q1) l.xc q, ps_weak (ps_dput (hu_of hr) ho.run hi.run he.run hs) fun D σ H ⟨ρ, s, rs, q⟩ => ⟨ρ, s, rs, he.mo ρ s _ _ _ _ (fun d s1 q1 => by
      intro v H1 st ce r
      refine ⟨ρ, s1, rs.stp st ce, ho.mo ρ s1 _ _ _ _ (fun x s2 q2 => ?_) (fun _ _ _ z => XL.stp st z) q1⟩
      intro w H2 st2 c2 r2
      refine ⟨ρ, s2, (rs.stp st ce).stp st2 c2, hi.mo ρ s2 _ _ _ _ (fun y s3 q3 => ?_) (fun _ _ _ z => XL.stp (st.trans st2) z) q2⟩
      intro u H3 st3 c3 r3
      split at q3
      · rename_i a k ek
        split at q3
        · rename_i kvs hl
          cases r2
          obtain ⟨vs, ha, rk⟩ := c3 a _ hl
          have ez := rp_key r3 ek
          subst ez
          refine ⟨a, _, rfl, DPut.k ha (by rw [← rk.length]; exact q3.1), ?_⟩
          have st13 := (st.trans st2).trans st3
          have stP : Stp s3 H3 (supd s3 a (.dK (putKD kvs k d))) (upd H3 a (.dK (putK vs k v))) := stp_put hl
          have cP : Cells X.K (supd s3 a (.dK (putKD kvs k d))) (upd H3 a (.dK (putK vs k v))) := cells_put c3 hl ⟨_, upd_same, (rk.put (r.stp (st2.trans st3))).stp stP⟩
          exact q3.2 σ _ (st13.trans stP) (rs.stp (st13.trans stP) cP)
        · exact q3.elim
      · exact q3.elim) (fun _ _ _ z => z) q⟩⟩
/-- {'a': x, ..}: the values, the new dict a cell -/
def dVals : List (Str × DE) → Rho → Sto → (List (Key × D) → Sto → Prop) → XC → Prop
  | [], _, s, Q, _ => Q [] s
  | (k, te) :: r, ρ, s, Q, Z => te ρ s (fun d s1 => dVals r ρ s1 (fun kvs s2 => Q ((.inr k, d) :: kvs) s2) Z) Z
def mergeD (kvs more : List (Key × D)) : List (Key × D) := more.foldl (fun acc kv => putKD acc kv.1 kv.2) kvs
def dDict (prs : List (Str × DE)) : DE := fun ρ s Q Z => ∀ a, s a = none → dVals prs ρ (supd s a (.dK [])) (fun kvs s1 => s1 a = some (.dK []) ∧ kvs.length ≤ 15 ∧ Q (.ref a) (supd s1 a (.dK (mergeD [] kvs)))) Z
inductive PDVs (X : Cx) (E : XK) : Pos → List (Option Expr) → List Expr → List (Str × DE) → Prop
  | nil {pos : Pos} : PDVs X E pos [] [] []
  | cons {pos : Pos} {k : Str} {j p2} {v : Expr} {te : DE} {ks : List (Option Expr)} {vs : List Expr} {r : List (Str × DE)} : PD X E v te → PDVs X E pos ks vs r → PDVs X E pos (some (.Constant (.str k) j p2) :: ks) (v :: vs) ((k, te) :: r)
def trsOf (K : PySem.W.Frag) (E : XK) : List (Str × DE) → List (TE × TE)
  | [] => []
  | (k, te) :: r => (tC (.str k), liftE K E te) :: trsOf K E r
theorem PDVs.pps {pos : Pos} : ∀ {ks : List (Option Expr)} {vs : List Expr} {prs : List (Str × DE)}, PDVs X E pos ks vs prs → PPs X pos ks vs (trsOf X.K E prs)
  | _, _, _, .nil => pps_nil
  | _, _, _, .cons h r => pps_cons pe_str h.run (PDVs.pps r)
theorem PDVs.mo {pos : Pos} : ∀ {ks : List (Option Expr)} {vs : List Expr} {prs : List (Str × DE)}, PDVs X E pos ks vs prs → ∀ ρ s (Q Q' : List (Key × D) → Sto → Prop) (Z Z' : XC), (∀ d s', Q d s' → Q' d s') → (∀ C fs s', Z C fs s' → Z' C fs s') → dVals prs ρ s Q Z → dVals prs ρ s Q' Z'
  | _, _, _, .nil, ρ, s, Q, Q', Z, Z', hq, hz, q => hq _ _ q
  | _, _, _, .cons h r, ρ, s, Q, Q', Z, Z', hq, hz, q => h.mo ρ s _ _ Z Z' (fun d s1 q1 => PDVs.mo r ρ s1 _ _ Z Z' (fun kvs s2 q2 => hq _ _ q2) hz q1) hz q
theorem PDVs.lift {pos : Pos} : ∀ {ks : List (Option Expr)} {vs : List Expr} {prs : List (Str × DE)}, PDVs X E pos ks vs prs → ∀ {ρ : Rho} {s : Sto} {σ : L2.St} {H : Hp} {Q : List (V × V) → Hp → Prop}, RS X.K H s σ ρ →
    dVals prs ρ s (fun kvs s1 => ∀ vs H1, Stp s H s1 H1 → Cells X.K s1 H1 → RpK X.K s1 H1 kvs vs → Q (vs.map fun kv => (kV kv.1, kv.2)) H1) (XL X.K s H E) → tPairs (trsOf X.K E prs) σ H Q
  | _, _, _, .nil, ρ, s, σ, H, Q, rs, q => q [] H (Stp.refl s H) rs.cel .nil
  | _, _, _, .cons (k := k) h r, ρ, s, σ, H, Q, rs, q => by
    refine ⟨ρ, s, rs, h.mo ρ s _ _ _ _ (fun d s1 q1 => ?_) (fun _ _ _ z => z) q⟩
    intro v H1 st ce rv
    refine PDVs.lift r (rs.stp st ce) (PDVs.mo r _ _ _ _ _ _ (fun kvs s2 q2 => ?_) (fun _ _ _ z => XL.stp st z) q1)
    intro vs H2 st2 c2 r2
    exact q2 ((.inr k, v) :: vs) H2 (st.trans st2) c2 (.cons (rv.stp st2) r2)
theorem RpK.merge {s : Sto} {H : Hp} : ∀ {more : List (Key × D)} {mv : List (Key × V)} {ds : List (Key × D)} {vs : List (Key × V)}, RpK K s H more mv → RpK K s H ds vs → RpK K s H (mergeD ds more) (mergeK vs mv)
  | _, _, _, _, .nil, r => r
  | _, _, _, _, .cons (k := k) (d := d) (v := v) (ds := ds) (vs := vs) h t, r => show RpK K s H (mergeD (putKD _ k d) ds) (mergeK (putK _ k v) vs) from RpK.merge t (r.put h)
theorem pd_dict {keys : List (Option Expr)} {values : List Expr} {prs : List (Str × DE)} (h : PDVs X E pos keys values prs) (hall : keys.all (·.isSome) = true := by rfl) (hl : keys.length = values.length := by rfl) (h0 : keys ≠ [] := by intro z; cases z) (h15 : keys.length ≤ 15 := by decide) : PD X E (.Dict keys values pos) (dDict prs) :=
  ⟨fun ρ s Q Q' Z Z' hq hz q a ha => h.mo ρ _ _ _ Z Z' (fun kvs s1 q1 => ⟨q1.1, q1.2.1, hq _ _ q1.2.2⟩) hz (q a ha), pe_weak (pe_disp h.pps hall hl h0 h15) fun σ H Q ⟨ρ, s, rs, q⟩ p hp => by
    have c0 := rs.cel
    have st0 : Stp s H (supd s p (.dK [])) (upd H p (.dK [])) := stp_cell hp
    have cl0 : Cells X.K (supd s p (.dK [])) (upd H p (.dK [])) := cells_cell c0 hp ⟨[], upd_same, .nil⟩
    refine h.lift (rs.stp st0 cl0) (h.mo ρ _ _ _ _ _ (fun kvs s1 q1 => ?_) (fun _ _ _ z => XL.stp st0 z) (q p (c0.free hp)))
    intro vs H1 st1 c1 rk
    obtain ⟨e1, e2, e3⟩ := q1
    obtain ⟨ys, hy, ry⟩ := c1 p _ e1
    cases ry
    refine ⟨hy, vs, rfl, by rw [← rk.length]; exact e2, ?_⟩
    have stP : Stp s1 H1 (supd s1 p (.dK (mergeD [] kvs))) (upd H1 p (.dK (mergeK [] vs))) := stp_put e1
    exact e3 _ _ ((st0.trans st1).trans stP) (cells_put c1 e1 ⟨_, upd_same, (RpK.merge rk .nil).stp stP⟩) (.ref p)⟩

/-! ### errors -/
/-- raise C(e, ..): mk tells how it is made, ns are its fields' names -/
def dRaise (C : Addr) (ns : List Str) (tA : DA) : DS := fun K ρ s => tA ρ s (fun ds s1 => ds.length = ns.length ∧ K.xc C (ns.zip ds).reverse s1) K.xc
def MkOk (X : Cx) (e : Expr) (C : Addr) (ns : List Str) (ta : TA) : Prop := PMk X e (fun σ H Q => ta σ H fun vs H1 => vs.length = ns.length ∧ ∀ d H2 ys, H1 d = none → H2 d = some (.xd ys) → (∀ a o, H1 a = some o → H2 a = some o) → ys = (ns.zip vs).reverse → Q (.ref C) (some d) H2)
theorem RpL.zip {s : Sto} {H : Hp} : ∀ {ns : List Str} {ds : List D} {vs : List V}, RpL K s H ds vs → RpF K s H (ns.zip ds) (ns.zip vs)
  | [], _, _, _ => .nil
  | _ :: _, _, _, .nil => .nil
  | n :: ns, _, _, .cons h r => .cons h (RpL.zip r)
theorem RpF.append {s : Sto} {H : Hp} : ∀ {ds es : List (Str × D)} {vs ws : List (Str × V)}, RpF K s H ds vs → RpF K s H es ws → RpF K s H (ds ++ es) (vs ++ ws)
  | _, _, _, _, .nil, r => r
  | _, _, _, _, .cons h t, r => .cons h (RpF.append t r)
theorem RpF.reverse {s : Sto} {H : Hp} : ∀ {ds : List (Str × D)} {vs : List (Str × V)}, RpF K s H ds vs → RpF K s H ds.reverse vs.reverse
  | _, _, .nil => .nil
  | _, _, .cons h t => by
    rw [List.reverse_cons,
        List.reverse_cons]
    exact (RpF.reverse t).append (.cons h .nil)
theorem pd_raise {C : Addr} {ns : List Str} (hc : X.calm = true) (tk : Takes X (fun cls d _ H => E cls d H)) (ha : MoA tA) (hm : MkOk X e C ns (liftA X.K E tA)) : PDS X E (.Raise (some e) none pos) (dRaise C ns tA) :=
  ⟨fun K K' ρ s l q => ha ρ s _ _ _ _ (fun ds s1 q1 => ⟨q1.1, l.xc _ _ _ q1.2⟩) l.xc q, ps_weak (ps_raise hc tk hm) fun D σ H ⟨ρ, s, rs, q⟩ => ⟨ρ, s, rs, ha ρ s _ _ _ _ (fun ds s1 q1 => by
    intro vs H1 st ce r
    refine ⟨by rw [← r.length]; exact q1.1, fun d H2 ys hd hy kp ey => ?_⟩
    subst ey
    have stN : Stp s1 H1 s1 H2 := ⟨fun a o hs h _ => ⟨hs, kp a o h⟩⟩
    have cN : Cells X.K s1 H2 := fun a c hcell => by
      obtain ⟨o, ho⟩ := (ce a c hcell).there
      exact (ce a c hcell).stp stN (by rw [ho]; exact kp a o ho)
    exact q1.2 d H2 (st.trans stN) cN ⟨_, hy, (RpL.zip r).reverse.stp stN⟩) (fun _ _ _ z => z) q⟩⟩
end
end G

/-! GLay9: readings over data: what evaluates to what; loops; further statements; an own error's making. -/
namespace G
open PySem
open PySem.Spec PyProof.Rows L2

/-! ### my own: what evaluates to what -/
def Val (t : DE) (ρ : Rho) (s : Sto) (d : D) : Prop := ∀ (Q : DQ) (Z : XC), Q d s → t ρ s Q Z
def TV (t : DT) (ρ : Rho) (s : Sto) (b : Bool) : Prop := ∀ (Q : Bool → Sto → Prop) (Z : XC), Q b s → t ρ s Q Z
def IV (t : DA) (ρ : Rho) (s : Sto) (ds : List D) : Prop := ∀ (Q : List D → Sto → Prop) (Z : XC), Q ds s → t ρ s Q Z
section
variable {ρ : Rho} {s : Sto} {t u : DT} {ta tb : DE} {a b : Bool} {d e : D}
theorem tv_B (h : Val ta ρ s (.bl b)) : TV (dB ta) ρ s b := fun Q Z q => h _ Z q
theorem tv_and (h : TV t ρ s a) (k : a = true → TV u ρ s b) : TV (dAnd t u) ρ s (a && b) := fun Q Z q => h _ Z (by
  cases a with
  | true => exact k rfl Q Z q
  | false => exact q)
theorem tv_or (h : TV t ρ s a) (k : a = false → TV u ρ s b) : TV (dOr t u) ρ s (a || b) := fun Q Z q => h _ Z (by
  cases a with
  | false => exact k rfl Q Z q
  | true => exact q)
theorem tv_not (h : TV t ρ s a) : TV (dNot t) ρ s (!a) := fun Q Z q => h _ Z q
theorem val_and (h : Val ta ρ s (.bl a)) (k : a = true → Val tb ρ s (.bl b)) : Val (dAndV ta tb) ρ s (.bl (a && b)) := fun Q Z q => h _ Z (by
  cases a with
  | true => exact k rfl Q Z q
  | false => exact q)
theorem val_or (h : Val ta ρ s (.bl a)) (k : a = false → Val tb ρ s (.bl b)) : Val (dOrV ta tb) ρ s (.bl (a || b)) := fun Q Z q => h _ Z (by
  cases a with
  | false => exact k rfl Q Z q
  | true => exact q)
theorem val_not (h : Val ta ρ s (.bl a)) : Val (dNotV ta) ρ s (.bl (!a)) := fun Q Z q => h _ Z q
theorem val_if (h : TV t ρ s b) (h1 : b = true → Val ta ρ s d) (h2 : b = false → Val tb ρ s d) : Val (dIf t ta tb) ρ s d := fun Q Z q => h _ Z (by
  cases b with
  | true => exact h1 rfl Q Z q
  | false => exact h2 rfl Q Z q)
theorem val_is (h : Val ta ρ s d) (q : d = e) : Val ta ρ s e := q ▸ h
theorem tv_is {c : Bool} (h : TV t ρ s b) (q : b = c) : TV t ρ s c := q ▸ h
theorem s_ifS {c : DT} {t u : DS} {K : DEnds} (h : TV c ρ s b) (h1 : b = true → t K ρ s) (h2 : b = false → u K ρ s) : dIfS c t u K ρ s := h _ _ (by
  cases b with
  | true => exact h1 rfl
  | false => exact h2 rfl)
/-- an if without else, and more behind -/
theorem s_when {c : DT} {t u : DS} {K : DEnds} (h : TV c ρ s b) (h1 : b = true → t { K with nx := u K } ρ s) (h2 : b = false → u K ρ s) : dSeq (dIfS c t dNext) u K ρ s := h _ _ (by
  cases b with
  | true => exact h1 rfl
  | false => exact h2 rfl)
theorem s_ret {K : DEnds} (h : Val ta ρ s d) (q : K.rt d s) : dRet ta K ρ s := h _ _ q
theorem s_set {K : DEnds} {i : Nat} {u : DS} (h : Val ta ρ s d) (q : u K (ss ρ i (some d)) s) : dSeq (dAsg ta (gN i)) u K ρ s := h _ _ q
end

/-! ### loops -/
theorem forD_inv {g : DG} {b : DS} {K : DEnds} (I : Nat → Rho → Sto → Prop) : ∀ (ds : List D) (i0 : Nat) (ρ : Rho) (s : Sto), I i0 ρ s →
    (∀ i d ρ s NX, ds[i]? = some d → I (i0 + i) ρ s → (∀ ρ' s', I (i0 + i + 1) ρ' s' → NX ρ' s') → g d ρ s (fun ρ1 s1 => b { K with nx := NX, ct := NX, bk := K.nx } ρ1 s1)) →
    (∀ ρ s, I (i0 + ds.length) ρ s → K.nx ρ s) → forD g b ds K ρ s
  | [], i0, ρ, s, h0, _, he => he ρ s h0
  | d :: ds, i0, ρ, s, h0, hs, he => by
    refine hs 0 d ρ s _ rfl h0 fun ρ1 s1 h1 => ?_
    refine forD_inv I ds (i0 + 1) ρ1 s1 h1 (fun i d ρ s NX hd hi hn => ?_) (fun ρ s hI => he ρ s ?_)
    · have e : i0 + 1 + i = i0 + (i + 1) := by omega
      rw [e] at hi hn
      exact hs (i + 1) d ρ s NX hd hi hn
    · rw [List.length_cons]
      have e : i0 + 1 + ds.length = i0 + (ds.length + 1) := by omega
      rw [e] at hI
      exact hI
theorem forD_all {g : DG} {b : DS} {K : DEnds} {ds : List D} {ρ : Rho} {s : Sto} (I : Nat → Rho → Sto → Prop) (h0 : I 0 ρ s)
    (hs : ∀ i d ρ s NX, ds[i]? = some d → I i ρ s → (∀ ρ' s', I (i + 1) ρ' s' → NX ρ' s') → g d ρ s (fun ρ1 s1 => b { K with nx := NX, ct := NX, bk := K.nx } ρ1 s1))
    (he : ∀ ρ s, I ds.length ρ s → K.nx ρ s) : forD g b ds K ρ s :=
  forD_inv I ds 0 ρ s h0 (fun i d ρ s NX hd hi hn => by
    rw [Nat.zero_add] at hi hn
    exact hs i d ρ s NX hd hi hn) (fun ρ s hI => by
    rw [Nat.zero_add] at hI
    exact he ρ s hI)
/-- a comprehension whose turns change nothing -/
theorem lcD_pure {g : DG} {tt : DT} {te : DE} {Dl : Addr} {ρ0 : Rho} (f : D → Option D) : ∀ (ds acc : List D) (s : Sto) (Q : List D → Sto → Prop), acc.length + ds.length < sizeLine → s Dl = some (.lst acc) →
    (∀ d, d ∈ ds → ∃ ρ1 b, (∀ s' P, P ρ1 s' → g d ρ0 s' P) ∧ (∀ s', TV tt ρ1 s' b) ∧ (b = true → ∃ y, f d = some y ∧ ∀ s', Val te ρ1 s' y) ∧ (b = false → f d = none)) →
    Q (acc ++ ds.filterMap f) (supd s Dl (.lst (acc ++ ds.filterMap f))) → lcD g tt te Dl ρ0 ds acc s Q
  | [], acc, s, Q, _, hs, _, q => by
    rw [List.filterMap_nil, List.append_nil] at q
    have e : supd s Dl (.lst acc) = s := by
      funext b
      by_cases h : b = Dl
      · rw [h, supd_same, hs]
      · rw [supd_ne h]
    rw [e] at q
    exact q
  | d :: ds, acc, s, Q, hl, hs, h, q => by
    obtain ⟨ρ1, b, h1, h2, h3, h4⟩ := h d List.mem_cons_self
    rw [List.length_cons] at hl
    refine h1 s _ (h2 s _ _ ?_)
    cases b with
    | true =>
      obtain ⟨y, e, hv⟩ := h3 rfl
      rw [List.filterMap_cons, e] at q
      refine hv s _ _ ⟨hs, by omega, ?_⟩
      refine lcD_pure f ds (acc ++ [y]) _ Q (by rw [List.length_append, List.length_singleton]; omega) supd_same (fun d hd => h d (List.mem_cons_of_mem _ hd)) ?_
      rw [supd_supd, List.append_assoc, List.singleton_append]
      exact q
    | false =>
      rw [List.filterMap_cons, h4 rfl] at q
      exact lcD_pure f ds acc s Q (by omega) hs (fun d hd => h d (List.mem_cons_of_mem _ hd)) q
theorem val_lc {it : DA} {g : DG} {tt : DT} {te : DE} {vs : List Nat} {ρ : Rho} {s : Sto} {ds : List D} (f : D → Option D) (hi : IV it ρ s ds) (hl : ds.length < sizeLine)
    (h : ∀ d, d ∈ ds → ∃ ρ1 b, (∀ s' P, P ρ1 s' → g d (wipeD ρ vs) s' P) ∧ (∀ s', TV tt ρ1 s' b) ∧ (b = true → ∃ y, f d = some y ∧ ∀ s', Val te ρ1 s' y) ∧ (b = false → f d = none)) : Val (dLc it g tt te vs) ρ s (.lst (ds.filterMap f)) := fun Q Z q => hi _ Z fun Dl hD => by
  refine lcD_pure f ds [] _ _ (by rw [List.length_nil, Nat.zero_add]; exact hl) supd_same h ?_
  rw [List.nil_append, supd_supd]
  refine ⟨supd_same, ?_⟩
  rw [sdel_supd hD]
  exact q
/-- .. without tests, the target a name -/
theorem val_lcN {it : DA} {te : DE} {j : Nat} {vs : List Nat} {ρ : Rho} {s : Sto} {ds : List D} (f : D → D) (hi : IV it ρ s ds) (hl : ds.length < sizeLine) (h : ∀ d, d ∈ ds → ∀ s', Val te (ss (wipeD ρ vs) j (some d)) s' (f d)) : Val (dLc it (gN j) dYes te vs) ρ s (.lst (ds.map f)) := by
  have z := val_lc (g := gN j) (tt := dYes) (te := te) (vs := vs) (fun d => some (f d)) hi hl fun d hd => ⟨_, true, fun s' P p => p, fun s' Q Z q => q, fun _ => ⟨_, rfl, h d hd⟩, fun z => nomatch z⟩
  rw [show ds.filterMap (fun d => some (f d)) = ds.map f from by rw [← List.filterMap_eq_map]; rfl] at z
  exact z

section
variable {X : Cx} {E : XK} {K : PySem.W.Frag} {pos p : Pos} {e : Expr} {te : DE}
/-! ### x += e, whole numbers -/
def dAugN (i : Nat) (f : Int → Int → Int) (te : DE) : DS := fun K ρ s => match sg ρ i with
  | some (.int a) => te ρ s (fun d s1 => match d with
    | .int b => K.nx (ss ρ i (some (.int (f a b)))) s1
    | _ => False) K.xc
  | _ => False
theorem pd_augN {i : Nat} {x : Str} {op : Operator} {f : Int → Int → Int} {pos' : Pos} (hN : X.N.Nodup) (hi : X.N[i]? = some x) (hx : Loc X.env.scope x) (he : PD X E e te) (ho : PIp X op (ipI f)) (hf : X.fn x = true ∨ X.env.scope.names.lookup x = some .local := by first | exact .inl rfl | exact .inr rfl | assumption) :
    PDS X E (.AugAssign (.Name x pos') op e pos) (dAugN i f te) := ⟨fun K K' ρ s l q => by
      unfold dAugN at q ⊢
      split at q
      · exact he.mo ρ s _ _ _ _ (fun d s1 q1 => by
          match d, q1 with
          | .int b, q1 => exact l.nx _ _ q1) l.xc q
      · exact q, ps_weak (ps_aug hN hi hx he.run ho hf) fun D σ H ⟨ρ, s, rs, q⟩ => by
      unfold dAugN at q
      split at q
      · rename_i a ea
        obtain ⟨v, h1, h2⟩ := rs.dat i _ ea
        cases h2
        refine ⟨.int a, h1, ρ, s, rs, he.mo ρ s _ _ _ _ (fun d s1 q1 => ?_) (fun _ _ _ z => z) q⟩
        intro w H1 st c r
        match d, q1, r with
        | .int b, q1, .int _ => exact ⟨a, b, rfl, rfl, q1 _ H1 st ((rs.stp st c).set (.int _) i)⟩
      · exact q.elim⟩
theorem pd_aug_add {i : Nat} {x : Str} {pos' : Pos} (hN : X.N.Nodup) (hi : X.N[i]? = some x) (hx : Loc X.env.scope x) (he : PD X E e te) (hf : X.fn x = true ∨ X.env.scope.names.lookup x = some .local := by first | exact .inl rfl | exact .inr rfl | assumption) : PDS X E (.AugAssign (.Name x pos') .Add e pos) (dAugN i (fun a b => a + b) te) := pd_augN hN hi hx he ip_add hf
theorem pd_aug_sub {i : Nat} {x : Str} {pos' : Pos} (hN : X.N.Nodup) (hi : X.N[i]? = some x) (hx : Loc X.env.scope x) (he : PD X E e te) (hf : X.fn x = true ∨ X.env.scope.names.lookup x = some .local := by first | exact .inl rfl | exact .inr rfl | assumption) : PDS X E (.AugAssign (.Name x pos') .Sub e pos) (dAugN i (fun a b => a - b) te) := pd_augN hN hi hx he ip_sub hf
/-- a, b, c = e1, e2, e3 by three local names -/
def dPar3 (i j l : Nat) (t : DA) : DS := fun K ρ s => t ρ s (fun ds s1 => match ds with
  | [d, e, f] => K.nx (ss (ss (ss ρ i (some d)) j (some e)) l (some f)) s1
  | _ => False) K.xc
theorem pd_par3 {i j l : Nat} {x y z : Str} {a b c : Expr} {ta : DA} {px py pz pt : Pos} {kt k2 pt2} (hc : X.calm = true) (hN : X.N.Nodup) (hi : X.N[i]? = some x) (hj : X.N[j]? = some y) (hl : X.N[l]? = some z) (hij : i ≠ j) (hil : i ≠ l) (hjl : j ≠ l)
    (hx : X.env.scope.names.lookup x = some .local) (hy : X.env.scope.names.lookup y = some .local) (hz : X.env.scope.names.lookup z = some .local) (h : PDA X E [a, b, c] ta)
    (hw : swappedStores [.Tuple [.Name x px, .Name y py, .Name z pz] kt pt]
        (.Tuple [a, b, c] k2 pt2) X.env = pure (some [x, y, z]))
    (hs : swapsWithSole [.Tuple [.Name x px, .Name y py, .Name z pz] kt pt]
        (.Tuple [a, b, c] k2 pt2) pos.line X.env = pure false := by rfl) :
    PDS X E (.Assign [.Tuple [.Name x px, .Name y py, .Name z pz] kt pt] (.Tuple [a, b, c] k2 pt2) pos) (dPar3 i j l ta) := ⟨fun K K' ρ s l q => h.mo ρ s _ _ _ _ (fun ds s1 q1 => by
      match ds, q1 with
      | [d, e, f], q1 => exact l.nx _ _ q1) l.xc q, ps_weak (ps_par3 hc hN hi hj hl hij hil hjl hx hy hz h.run hw hs) fun D σ H ⟨ρ, s, rs, q⟩ => ⟨ρ, s, rs, h.mo ρ s _ _ _ _ (fun ds s1 q1 => by
      intro vs H1 st c r
      match ds, r, q1 with
      | [d, e, f], .cons (v := v) r1 (.cons (v := w) r2 (.cons (v := u) r3 .nil)), q1 => exact ⟨v, w, u, rfl, q1 _ H1 st ((((rs.stp st c).set r1 i).set r2 j).set r3 l)⟩) (fun _ _ _ z => z) q⟩⟩
/-- -a -/
def dNeg (ta : DE) : DE := fun ρ s Q Z => ta ρ s (fun d s1 => match d with
  | .int i => Q (.int (-i)) s1
  | _ => False) Z
theorem pd_neg (h : PD X E e te) : PD X E (.UnaryOp .USub e pos) (dNeg te) := ⟨fun ρ s Q Q' Z Z' hq hz q => h.mo ρ s _ _ Z Z' (fun d s1 q1 => by
      match d, q1 with
      | .int i, q1 => exact hq _ _ q1) hz q, pe_weak (pe_un un_neg h.run) fun σ H Q ⟨ρ, s, rs, q⟩ => ⟨ρ, s, rs, h.mo ρ s _ _ _ _ (fun d s1 q1 => by
      intro v H1 st c r
      match d, q1, r with
      | .int i, q1, .int _ => exact ⟨i, rfl, q1 _ H1 st c (.int _)⟩) (fun _ _ _ z => z) q⟩⟩

/-! ### an own error with two fields -/
/-- what __init__ leaves of the new error at a -/
def spX2 (C : Addr) (f1 f2 : Str) : Sp := fun vs H Q _ => ∃ (a : Addr) (x y : V), vs = [.ref a, x, y] ∧ H a = some (exo a C none) ∧ ∀ (d : Addr), H d = none → d ≠ a →
  Q .non (upd (upd (upd H d (exd d [(f1, x)])) a (exo a C (some d))) d (exd d [(f2, y), (f1, x)]))
theorem liftA_mono {t : DA} (h : MoA t) {σ : L2.St} {H : Hp} {Q Q' : List V → Hp → Prop} (k : ∀ vs H, Q vs H → Q' vs H) (q : liftA K E t σ H Q) : liftA K E t σ H Q' := by
  obtain ⟨ρ, s, rs, q⟩ := q
  exact ⟨ρ, s, rs, h ρ s _ _ _ _ (fun ds s1 q1 vs H1 st c r => k vs H1 (q1 vs H1 st c r)) (fun _ _ _ z => z) q⟩
theorem mk2 {C fI : Addr} {x : Str} {k : Nat} {fd : FuncData} {ps : List Str} {f1 f2 : Str} {a b : Expr} {t : DA} (T : OexC X.K C) (iC : PySem.W.findIn X.K (.ref C) "__init__" = some (some (.ref fI))) (tI : PySem.W.typeIn X.K (.ref fI) = some (.type "function"))
    (F1 : FnOk X.prog X.w X.K X.mg X.base CX0 k fI fd ps (spX2 C f1 f2)) (hr : Room (k + 1) X.A) (hb : Binds X.K fd ps []) (hm : X.mg x = some (.ref C)) (ha : PDA X E [a, b] t) (hg : Gl X x := by rfl)
    (hdb : (x == ("__debug__" : Str)) = false := by decide) (he : starEach (a :: [b]) X.env = (false, eval a X.env) :: starEach [b] X.env := by rfl) (hpl : (backTo pos (starEach [b] X.env)).any (·.1) = false := by rfl) : MkOk X (.Call (.Name x p) [a, b] [] pos) C [f1, f2] (liftA X.K E t) := by
  have M := pmk_oex (x := x) (p := p) (pos := pos) T iC tI F1 hr hb .nil (pass0 (X := X)) hg hm ha.run hdb he hpl
  intro pins s σ H Q I h
  refine M pins s σ H Q I (liftA_mono ha.mo (fun vs H1 q => ?_) h)
  obtain ⟨hl, q⟩ := q
  match vs, hl with
  | [v, w], _ =>
    refine ⟨by show 2 ≤ 1000; decide, fun e hn => ?_⟩
    refine ⟨e, v, w, rfl, upd_same, fun d hd hne => ⟨rfl, d, [(f2, w), (f1, v)], ?_, upd_same, ?_, ?_⟩⟩
    · rw [upd_ne hne.symm, upd_same]
    · rw [upd_ne hne] at hd
      exact hd
    · have hd1 : H1 d = none := by
        rw [upd_ne hne] at hd
        exact hd
      refine q d _ _ hd1 upd_same (fun b o hb => ?_) rfl
      have n1 : b ≠ e := ne_of_none hb hn
      have n2 : b ≠ d := ne_of_none hb hd1
      rw [upd_ne n2, del_ne n1, upd_ne n2, upd_ne n1, upd_ne n2, upd_ne n1]
      exact hb
/-- the body of such an __init__: self.f1 = x; self.f2 = y -/
theorem ok_x2 {P : Program} {w : World} {mg : Str → Option Value} {base : Heap} {qual : Str} {st : Stmt} {f C : Addr} {fd : FuncData} {p1 p2 : Str} {f1 f2 : Str} (F : Fun K "__init__" qual st f fd) (S : FnScope ["self", p1, p2] ["self", p1, p2] (defScope st)) (T : OexC K C)
    (n1 : PySem.W.findIn K (.ref C) f1 = some none) (n2 : PySem.W.findIn K (.ref C) f2 = some none)
    (hb : ∀ (cdv : Value) (A : Around) (outer : List Env) (s : Shared) (H : Hp) (E : XK), PSs (cxOf CX0 P w K mg base ["self", p1, p2] qual (defScope st) f cdv A outer s H E).nox (defBody st) (tSeq (tOst K f1 (tVar 0) (tVar 1)) (tOst K f2 (tVar 0) (tVar 2)))) :
    FnOk P w K mg base CX0 1 f fd ["self", p1, p2] (spX2 C f1 f2) := by
  refine F.ok S (fun vs H Q E h => ?_) (fun cdv A outer s H vs Q E hr h => ?_)
  · obtain ⟨a, x, y, rfl, _⟩ := h
    rfl
  · obtain ⟨a, x, y, rfl, ha, q⟩ := h
    refine ⟨_, hb cdv A outer s H E, ?_⟩
    refine ⟨_, rfl, _, rfl, a, C, rfl, T, n1, .inl ⟨ha, fun d hd hne => ?_⟩⟩
    refine ⟨_, rfl, _, rfl, a, C, rfl, T, n2, .inr ⟨d, [(f1, x)], upd_same, ?_, by show 1 ≤ 900; decide, q d hd hne⟩⟩
    rw [upd_ne hne, upd_same]
/-- all that a def must know of such an error -/
structure RaiseOk (P : Program) (w : World) (K : PySem.W.Frag) (mg : Str → Option Value) (base : Heap) (x : Str) (C : Addr) (f1 f2 : Str) : Prop where
  o : OexC K C
  ok : ∃ (fI : Addr) (fd : FuncData) (ps : List Str), PySem.W.findIn K (.ref C) "__init__" = some (some (.ref fI)) ∧ PySem.W.typeIn K (.ref fI) = some (.type "function") ∧ FnOk P w K mg base CX0 1 fI fd ps (spX2 C f1 f2) ∧ Binds K fd ps [] ∧ mg x = some (.ref C)
theorem pd_raise2 {C : Addr} {x : Str} {f1 f2 : Str} {a b : Expr} {t : DA} {pos' : Pos} (R : RaiseOk X.prog X.w X.K X.mg X.base x C f1 f2) (hr : Room 2 X.A) (tk : Takes X (fun cls d _ H => E cls d H)) (ha : PDA X E [a, b] t) (hg : Gl X x := by rfl) (hc : X.calm = true := by rfl)
    (hdb : (x == ("__debug__" : Str)) = false := by decide) (he : starEach (a :: [b]) X.env = (false, eval a X.env) :: starEach [b] X.env := by rfl) (hpl : (backTo pos (starEach [b] X.env)).any (·.1) = false := by rfl) : PDS X E (.Raise (some (.Call (.Name x p) [a, b] [] pos)) none pos') (dRaise C [f1, f2] t) := by
  obtain ⟨fI, fd, ps, h1, h2, h3, h4, h5⟩ := R.ok
  exact pd_raise hc tk ha.mo (mk2 R.o h1 h2 h3 hr h4 h5 ha hg hdb he hpl)
end
end G

/-! GLay10: more of what evaluates to what. -/
namespace G
open PySem
open PySem.Spec PyProof.Rows L2
section
variable {ρ : Rho} {s : Sto} {t u : DT} {ta tb tc : DE} {a b : Bool} {d e f : D}
theorem val_cb1 {rd : RC} (h : Val ta ρ s d) (k : ∀ Q : DQ, Q e s → rd [d] s Q) : Val (dCB rd (dCons ta dNil)) ρ s e := fun Q Z q => h _ Z (k Q q)
theorem val_cb2 {rd : RC} (h : Val ta ρ s d) (h2 : Val tb ρ s f) (k : ∀ Q : DQ, Q e s → rd [d, f] s Q) : Val (dCB rd (dCons ta (dCons tb dNil))) ρ s e := fun Q Z q => h _ Z (h2 _ Z (k Q q))
theorem val_op {rd : RD} (h : Val ta ρ s d) (h2 : Val tb ρ s f) (k : ∀ Q : DQ, Q e s → rd d f s Q) : Val (dOp rd ta tb) ρ s e := fun Q Z q => h _ Z (h2 _ Z (k Q q))
theorem val_v {i : Nat} (h : sg ρ i = some d) : Val (dV i) ρ s d := fun Q Z q => by
  unfold dV
  rw [h]
  exact q
theorem val_C : Val (dC d) ρ s d := fun Q Z q => q
theorem val_call {n : Nat} {g : DF} {t : DA} {ds : List D} (h : IV t ρ s ds) (hn : ds.length = n) (k : ∀ (Q : DQ) (Z : XC), Q e s → g ds s Q Z) : Val (dCall n g t) ρ s e := fun Q Z q => h _ Z ⟨hn, k Q Z q⟩
theorem iv_nil : IV dNil ρ s [] := fun Q Z q => q
theorem iv_cons {t : DA} {ds : List D} (h : Val ta ρ s d) (k : IV t ρ s ds) : IV (dCons ta t) ρ s (d :: ds) := fun Q Z q => h _ Z (k _ Z q)
theorem val_tup {t : DA} {ds : List D} (h : IV t ρ s ds) (hn : ds.length ≤ sizeLine) : Val (dTup t) ρ s (.tup ds) := fun Q Z q => h _ Z ⟨hn, q⟩
theorem val_lst {t : DA} {ds : List D} (h : IV t ρ s ds) (hn : ds.length ≤ sizeLine) : Val (dLst t) ρ s (.lst ds) := fun Q Z q => h _ Z ⟨hn, q⟩
/-- a comprehension whose turns may change the store: I says what holds ahead of turn i, of the made list and the store with the list in it -/
theorem lcD_inv {g : DG} {tt : DT} {te : DE} {Dl : Addr} {ρ0 : Rho} (I : Nat → List D → Sto → Prop) : ∀ (ds : List D) (i0 : Nat) (acc : List D) (s : Sto) (Q : List D → Sto → Prop), I i0 acc s →
    (∀ (i : Nat) (d : D) (acc : List D) (s : Sto) (NX : List D → Sto → Prop), ds[i]? = some d → I (i0 + i) acc s → (∀ acc' s', I (i0 + i + 1) acc' s' → NX acc' s') → g d ρ0 s (fun ρ1 s1 => tt ρ1 s1 (fun b s2 => match b with
      | true => te ρ1 s2 (fun y s3 => s3 Dl = some (.lst acc) ∧ acc.length < sizeLine ∧ NX (acc ++ [y]) (supd s3 Dl (.lst (acc ++ [y])))) (fun _ _ _ => False)
      | false => NX acc s2) (fun _ _ _ => False))) →
    (∀ acc s, I (i0 + ds.length) acc s → Q acc s) → lcD g tt te Dl ρ0 ds acc s Q
  | [], i0, acc, s, Q, h0, _, he => he acc s h0
  | d :: ds, i0, acc, s, Q, h0, hs, he => by
    refine hs 0 d acc s (fun acc' s' => lcD g tt te Dl ρ0 ds acc' s' Q) rfl h0 fun acc' s' h1 => ?_
    refine lcD_inv I ds (i0 + 1) acc' s' Q h1 (fun i d acc s NX hd hi hn => ?_) (fun acc s hI => he acc s ?_)
    · have e : i0 + 1 + i = i0 + (i + 1) := by omega
      rw [e] at hi hn
      exact hs (i + 1) d acc s NX hd hi hn
    · rw [List.length_cons]
      have e : i0 + 1 + ds.length = i0 + (ds.length + 1) := by omega
      rw [e] at hI
      exact hI
/-- .. the target a name, no tests -/
theorem lc_inv {it : DA} {te : DE} {j : Nat} {vs : List Nat} {ρ : Rho} {s : Sto} {Q : DQ} {Z : XC} {ds : List D} (I : Addr → Nat → List D → Sto → Prop) (hi : IV it ρ s ds) (h0 : ∀ Dl, s Dl = none → I Dl 0 [] (supd s Dl (.lst [])))
    (hs : ∀ (Dl : Addr) (i : Nat) (d : D) (acc : List D) (s' : Sto) (NX : List D → Sto → Prop), s Dl = none → ds[i]? = some d → I Dl i acc s' → (∀ acc' s'', I Dl (i + 1) acc' s'' → NX acc' s'') → te (ss (wipeD ρ vs) j (some d)) s' (fun y s3 => s3 Dl = some (.lst acc) ∧ acc.length < sizeLine ∧ NX (acc ++ [y]) (supd s3 Dl (.lst (acc ++ [y])))) (fun _ _ _ => False))
    (he : ∀ Dl acc s', s Dl = none → I Dl ds.length acc s' → s' Dl = some (.lst acc) ∧ Q (.lst acc) (sdel s' Dl)) : dLc it (gN j) dYes te vs ρ s Q Z :=
  hi _ Z fun Dl hD => lcD_inv (I Dl) ds 0 [] _ _ (h0 Dl hD) (fun i d acc s' NX hd h hn => by
    rw [Nat.zero_add] at h hn
    exact hs Dl i d acc s' NX hD hd h hn) (fun acc s' h => by
    rw [Nat.zero_add] at h
    exact he Dl acc s' hD h)
end
/-- a tuple target inside a comprehension -/
theorem pdg_tupB {X : Cx} {scope : Scope} {sh : Shared} {Hh : Hp} {C : Addr} {cl : List (Str × Addr)} {fp : List Addr} {pos : Pos} {es : List Expr} {k : Nat} {gs : TGs} {tgs : DGs} {n : Nat} {ws : List Nat} (hc : X.calm = true) (h : PDGs (BlkX X scope sh Hh C cl fp) es ws gs tgs) (hn : (assignEach es (BlkX X scope sh Hh C cl fp).env).length = n := by rfl) (hst : (assignEach es (BlkX X scope sh Hh C cl fp).env).findIdx? (·.1) = none := by rfl) :
    PDG (BlkX X scope sh Hh C cl fp) (.Tuple es k pos) ws (gTup X.K n gs) (gTupD n tgs) := pdg_tup (X := BlkX X scope sh Hh C cl fp) hc h hn hst
/-! ### types, asked -/
theorem it_NoneType_tuple : isTy "NoneType" "tuple" = false := by decide
theorem it_NoneType_int : isTy "NoneType" "int" = false := by decide
theorem it_NoneType_str : isTy "NoneType" "str" = false := by decide
theorem it_NoneType_bool : isTy "NoneType" "bool" = false := by decide
theorem it_NoneType_list : isTy "NoneType" "list" = false := by decide
theorem it_bool_tuple : isTy "bool" "tuple" = false := by decide
theorem it_bool_int : isTy "bool" "int" = true := by decide
theorem it_bool_str : isTy "bool" "str" = false := by decide
theorem it_bool_bool : isTy "bool" "bool" = true := by decide
theorem it_bool_list : isTy "bool" "list" = false := by decide
theorem it_int_tuple : isTy "int" "tuple" = false := by decide
theorem it_int_int : isTy "int" "int" = true := by decide
theorem it_int_str : isTy "int" "str" = false := by decide
theorem it_int_bool : isTy "int" "bool" = false := by decide
theorem it_int_list : isTy "int" "list" = false := by decide
theorem it_str_tuple : isTy "str" "tuple" = false := by decide
theorem it_str_int : isTy "str" "int" = false := by decide
theorem it_str_str : isTy "str" "str" = true := by decide
theorem it_str_bool : isTy "str" "bool" = false := by decide
theorem it_str_list : isTy "str" "list" = false := by decide
theorem it_tuple_tuple : isTy "tuple" "tuple" = true := by decide
theorem it_tuple_int : isTy "tuple" "int" = false := by decide
theorem it_tuple_str : isTy "tuple" "str" = false := by decide
theorem it_tuple_bool : isTy "tuple" "bool" = false := by decide
theorem it_tuple_list : isTy "tuple" "list" = false := by decide
theorem it_list_tuple : isTy "list" "tuple" = false := by decide
theorem it_list_int : isTy "list" "int" = false := by decide
theorem it_list_str : isTy "list" "str" = false := by decide
theorem it_list_bool : isTy "list" "bool" = false := by decide
theorem it_list_list : isTy "list" "list" = true := by decide
theorem ct_tuple : ["tuple", "int", "bool", "str", "list", "dict"].contains "tuple" = true := by decide
theorem ct_int : ["tuple", "int", "bool", "str", "list", "dict"].contains "int" = true := by decide
theorem ct_str : ["tuple", "int", "bool", "str", "list", "dict"].contains "str" = true := by decide
theorem ct_bool : ["tuple", "int", "bool", "str", "list", "dict"].contains "bool" = true := by decide
theorem ct_list : ["tuple", "int", "bool", "str", "list", "dict"].contains "list" = true := by decide
end G

/-! GPen: a law's pen: what it holds, what its draws promise. -/
namespace G
open PySem
open PySem.Spec PyProof.Rows L2
def kS (x : Str) : Key := .inr x
def penK (cells : List D) (i d n f : Int) : List (Key × D) := [(.inr "cells", .lst cells), (.inr "at", .int i), (.inr "digits", .int d), (.inr "count", .int n), (.inr "fold", .int f)]
theorem ky_eq {a : Str} : decide ((Sum.inr a : Key) = Sum.inr a) = true := decide_eq_true rfl
theorem ky_ne {a b : Str} (h : (a == b) = false) : decide ((Sum.inr a : Key) = Sum.inr b) = false := decide_eq_false (fun e => by
  rw [Sum.inr.inj e, beq_self_eq_true] at h
  cases h)
theorem ky_nP {a b : Str} (h : (a == b) = false) : ((Sum.inr a : Key) = Sum.inr b) = False := eq_false (fun e => by
  rw [Sum.inr.inj e, beq_self_eq_true] at h
  cases h)
theorem pk1 : (("cells" : Str) == "at") = false := by decide +kernel
theorem pk2 : (("cells" : Str) == "digits") = false := by decide +kernel
theorem pk3 : (("cells" : Str) == "count") = false := by decide +kernel
theorem pk4 : (("cells" : Str) == "fold") = false := by decide +kernel
theorem pk5 : (("at" : Str) == "digits") = false := by decide +kernel
theorem pk6 : (("at" : Str) == "count") = false := by decide +kernel
theorem pk7 : (("at" : Str) == "fold") = false := by decide +kernel
theorem pk8 : (("digits" : Str) == "count") = false := by decide +kernel
theorem pk9 : (("digits" : Str) == "fold") = false := by decide +kernel
theorem pk10 : (("count" : Str) == "fold") = false := by decide +kernel
theorem pq1 : (("at" : Str) == "cells") = false := by decide +kernel
theorem pq2 : (("digits" : Str) == "cells") = false := by decide +kernel
theorem pq3 : (("count" : Str) == "cells") = false := by decide +kernel
theorem pq4 : (("fold" : Str) == "cells") = false := by decide +kernel
theorem pq5 : (("digits" : Str) == "at") = false := by decide +kernel
theorem pq6 : (("count" : Str) == "at") = false := by decide +kernel
theorem pq7 : (("fold" : Str) == "at") = false := by decide +kernel
theorem pq8 : (("count" : Str) == "digits") = false := by decide +kernel
theorem pq9 : (("fold" : Str) == "digits") = false := by decide +kernel
theorem pq10 : (("fold" : Str) == "count") = false := by decide +kernel
section
variable {cells : List D} {i d n f x : Int}
theorem vl_cells : valD (penK cells i d n f) (.inr ("cells" : Str)) = some (.lst cells) := by
  simp only [valD, penK, decide_true, List.find?, ky_eq, Option.map]
theorem vl_at : valD (penK cells i d n f) (.inr ("at" : Str)) = some (.int i) := by
  simp only [valD, penK, decide_true, List.find?, ky_eq, ky_ne pk1, Option.map]
theorem vl_digits : valD (penK cells i d n f) (.inr ("digits" : Str)) = some (.int d) := by
  simp only [valD, penK, decide_true, List.find?, ky_eq, ky_ne pk2, ky_ne pk5, Option.map]
theorem vl_count : valD (penK cells i d n f) (.inr ("count" : Str)) = some (.int n) := by
  simp only [valD, penK, decide_true, List.find?, ky_eq, ky_ne pk3, ky_ne pk6, ky_ne pk8, Option.map]
theorem vl_fold : valD (penK cells i d n f) (.inr ("fold" : Str)) = some (.int f) := by
  simp only [valD, penK, decide_true, List.find?, ky_eq, ky_ne pk4, ky_ne pk7, ky_ne pk9, ky_ne pk10, Option.map]
theorem put_at : putKD (penK cells i d n f) (.inr ("at" : Str)) (.int x) = penK cells x d n f := by
  simp only [putKD, penK, decide_true, List.any, List.map, ky_eq, ky_ne pk1, ky_ne pq5, ky_ne pq6, ky_ne pq7, ky_nP pk1, ky_nP pq5, ky_nP pq6, ky_nP pq7, Bool.or_true, Bool.true_or, Bool.false_or, if_true, if_false]
theorem put_digits : putKD (penK cells i d n f) (.inr ("digits" : Str)) (.int x) = penK cells i x n f := by
  simp only [putKD, penK, decide_true, List.any, List.map, ky_eq, ky_ne pk2, ky_ne pk5, ky_ne pq8, ky_ne pq9, ky_nP pk2, ky_nP pk5, ky_nP pq8, ky_nP pq9, Bool.or_true, Bool.true_or, Bool.false_or, if_true, if_false]
theorem put_count : putKD (penK cells i d n f) (.inr ("count" : Str)) (.int x) = penK cells i d x f := by
  simp only [putKD, penK, decide_true, List.any, List.map, ky_eq, ky_ne pk3, ky_ne pk6, ky_ne pk8, ky_ne pq10, ky_nP pk3, ky_nP pk6, ky_nP pk8, ky_nP pq10, Bool.or_true, Bool.true_or, Bool.false_or, if_true, if_false]
theorem put_fold : putKD (penK cells i d n f) (.inr ("fold" : Str)) (.int x) = penK cells i d n x := by
  simp only [putKD, penK, decide_true, List.any, List.map, ky_eq, ky_ne pk4, ky_ne pk7, ky_ne pk9, ky_ne pk10, ky_nP pk4, ky_nP pk7, ky_nP pk9, ky_nP pk10, Bool.or_true, Bool.true_or, Bool.false_or, if_true, if_false]
theorem pen_len : (penK cells i d n f).length < sizeLine := by
  show 5 < sizeLine
  decide
end
theorem pen_merge (c : D) (i d n f : Int) : mergeD [] [(.inr ("cells" : Str), c), (.inr ("at" : Str), .int i), (.inr ("digits" : Str), .int d), (.inr ("count" : Str), .int n), (.inr ("fold" : Str), .int f)] = [(.inr ("cells" : Str), c), (.inr ("at" : Str), .int i), (.inr ("digits" : Str), .int d), (.inr ("count" : Str), .int n), (.inr ("fold" : Str), .int f)] := by
  simp only [mergeD, List.foldl, putKD, List.any, ky_ne pk1, ky_ne pk2, ky_ne pk3, ky_ne pk4, ky_ne pk5, ky_ne pk6, ky_ne pk7, ky_ne pk8, ky_ne pk9, ky_ne pk10, Bool.or_false, Bool.false_eq_true, if_false, List.nil_append, List.cons_append]

/-- p is a pen that has drawn at most n times -/
def Pen (s : Sto) (p : Addr) (n : Nat) : Prop := ∃ (cells : List Int) (i d c f : Int), s p = some (.dK (penK (cells.map D.int) i d c f)) ∧ 0 ≤ i ∧ i ≤ cells.length ∧ 0 ≤ d ∧ 0 ≤ c ∧ c ≤ n ∧ 0 ≤ f ∧ f < 2147483033
theorem Pen.mono {s : Sto} {p : Addr} {n m : Nat} (h : Pen s p n) (k : n ≤ m) : Pen s p m := by
  obtain ⟨cells, i, d, c, f, h1, h2, h3, h4, h5, h6, h7, h8⟩ := h
  exact ⟨cells, i, d, c, f, h1, h2, h3, h4, h5, by omega, h7, h8⟩
theorem Pen.some {s : Sto} {p : Addr} {n : Nat} (h : Pen s p n) : s p ≠ none := by
  obtain ⟨cells, i, d, c, f, h1, _⟩ := h
  rw [h1]
  exact Option.some_ne_none _
theorem Pen.of {s s' : Sto} {p : Addr} {n : Nat} (h : Pen s p n) (e : s' p = s p) : Pen s' p n := by
  obtain ⟨cells, i, d, c, f, h1, h2⟩ := h
  exact ⟨cells, i, d, c, f, e.trans h1, h2⟩
/-- but for p the cells stand as they were -/
def Oth (p : Addr) (s s' : Sto) : Prop := ∀ b, b ≠ p → s' b = s b
theorem Oth.refl {p : Addr} {s : Sto} : Oth p s s := fun _ _ => rfl
theorem Oth.trans {p : Addr} {s s1 s2 : Sto} (h : Oth p s s1) (k : Oth p s1 s2) : Oth p s s2 := fun b hb => (k b hb).trans (h b hb)
theorem Oth.put {p : Addr} {s : Sto} {c : Cell} : Oth p s (supd s p c) := fun b hb => supd_ne hb
abbrev most : Nat := 1099511627776
def mkS (w : List Nat) : Str := ⟨w.toArray⟩
theorem mkS_cps (w : List Nat) : (mkS w).cps.toList = w := rfl
theorem mkS_len (w : List Nat) : (mkS w).length = w.length := rfl
theorem mkS_of (x : Str) : mkS x.cps.toList = x := by
  obtain ⟨⟨l⟩⟩ := x
  rfl
theorem mkS_append (a b : List Nat) : mkS a ++ mkS b = mkS (a ++ b) := by
  show (⟨a.toArray ++ b.toArray⟩ : Str) = ⟨(a ++ b).toArray⟩
  simp
theorem mkS_inj {a b : List Nat} (h : mkS a = mkS b) : a = b := by
  have := congrArg (fun x : Str => x.cps.toList) h
  exact this
theorem mkS_beq (a b : List Nat) : (mkS a == mkS b) = (a == b) := by
  rw [Bool.eq_iff_iff,
      beq_iff_eq, beq_iff_eq]
  exact ⟨mkS_inj, fun e => by rw [e]⟩
theorem cut_pre (w : List Nat) {k : Nat} (h : k ≤ w.length) : cutS (mkS w) none (some (k : Int)) = mkS (w.take k) := by
  unfold cutS
  rw [HT.sIx_none, HT.sIx_nat, mkS_len, Nat.min_eq_left h]
  rfl
theorem cut_suf (w : List Nat) {k : Nat} (h : k ≤ w.length) : cutS (mkS w) (some (k : Int)) none = mkS (w.drop k) := by
  unfold cutS
  rw [HT.sIx_none, HT.sIx_nat, mkS_len, Nat.min_eq_left h]
  show mkS ((w.drop k).take (w.length - k)) = _
  rw [List.take_of_length_le (by rw [List.length_drop]; exact Nat.le_refl _)]
theorem digit_text (i : Nat) (h : i < 10) : (Str.ofString (toString (i : Int))) = mkS [48 + i] := by
  have : i = 0 ∨ i = 1 ∨ i = 2 ∨ i = 3 ∨ i = 4 ∨ i = 5 ∨ i = 6 ∨ i = 7 ∨ i = 8 ∨ i = 9 := by omega
  rcases this with rfl | rfl | rfl | rfl | rfl | rfl | rfl | rfl | rfl | rfl <;> decide +kernel
theorem letters_at {d : Int} (h0 : 0 ≤ d) (h1 : d < 26) : atI ("abcdefghijklmnopqrstuvwxyz" : Str).cps.toList d = some (97 + d.toNat) := by
  obtain ⟨j, rfl⟩ :=
      Int.eq_ofNat_of_zero_le h0
  rw [show ("abcdefghijklmnopqrstuvwxyz" : Str).cps.toList = List.range' 97 26 from by decide +kernel]
  refine atI_nat ?_
  rw [List.getElem?_range' (by omega)]
  simp
theorem erase_perm {α : Type} : ∀ (l : List α) (k : Nat) (h : k < l.length), (l[k] :: l.eraseIdx k).Perm l
  | x :: l, 0, _ => List.Perm.refl _
  | x :: l, k + 1, h => by
    have hk : k < l.length := by simpa using h
    exact (List.Perm.swap x (l[k]'hk) _).trans ((erase_perm l k hk).cons x)
/-- what a drawn name of index i looks like -/
def NameOf (i : Nat) (x : Str) : Prop := ∃ a b : List Nat, x = mkS (a ++ (48 + i) :: b) ∧ a ≠ [] ∧ (∀ c, c ∈ a → 97 ≤ c ∧ c ≤ 122) ∧ (∀ c, c ∈ b → 97 ≤ c ∧ c ≤ 122) ∧ a.length + b.length ≤ 8
def gName : DF := fun ds s Q _ => ∃ p, ∃ i n : Nat, ds = [.ref p, .int i] ∧ i < 10 ∧ Pen s p n ∧ n + 10 ≤ most ∧ ∀ x s', NameOf i x → Pen s' p (n + 10) → Oth p s s' → Q (.str x) s'
/-- names, the i-th of index i -/
def NamesOf (m : Nat) (l : List D) : Prop := l.length = m ∧ ∀ i, i < m → ∃ x, l[i]? = some (.str x) ∧ NameOf i x
def gNames : DF := fun ds s Q _ => ∃ p, ∃ m n : Nat, ds = [.ref p, .int m] ∧ m ≤ 10 ∧ Pen s p n ∧ n + 110 ≤ most ∧ ∀ l l' s', NamesOf m l → l'.Perm l → Pen s' p (n + 110) → Oth p s s' → Q (.lst l') s'
theorem mo_Name : MoF gName := fun _ _ _ _ _ _ h _ ⟨p, i, n, e, a, b, c, q⟩ => ⟨p, i, n, e, a, b, c, fun d s' x y z => h _ _ (q d s' x y z)⟩
theorem mo_Names : MoF gNames := fun _ _ _ _ _ _ h _ ⟨p, i, n, e, a, b, c, q⟩ => ⟨p, i, n, e, a, b, c, fun d d' s' x y z w => h _ _ (q d d' s' x y z w)⟩
def gPen : DF := fun ds s Q _ => ∃ d, ∃ cells : List Int, ds = [d] ∧ (d = .fz (cells.map D.int) ∨ d = .lst (cells.map D.int)) ∧ ∀ p s', s p = none → Pen s' p 0 → Oth p s s' → Q (.ref p) s'
def gDraw : DF := fun ds s Q _ => ∃ p m n, ds = [.ref p, .int m] ∧ 0 < m ∧ m < 1073741824 ∧ Pen s p n ∧ n < most ∧ ∀ d s', 0 ≤ d → d < m → Pen s' p (n + 1) → Oth p s s' → Q (.int d) s'
def gPick : DF := fun ds s Q _ => ∃ p d l n, ds = [.ref p, d] ∧ itemsOf d = some l ∧ 0 < l.length ∧ l.length < 1073741824 ∧ Pen s p n ∧ n < most ∧ ∀ x s', x ∈ l → Pen s' p (n + 1) → Oth p s s' → Q x s'
def gShuffled : DF := fun ds s Q _ => ∃ p l n, ds = [.ref p, .lst l] ∧ l.length < 1000000 ∧ Pen s p n ∧ n + l.length ≤ most ∧ ∀ l' s', l'.Perm l → Pen s' p (n + l.length) → Oth p s s' → Q (.lst l') s'
theorem mo_Pen : MoF gPen := fun _ _ _ _ _ _ h _ ⟨d, c, e, e2, q⟩ => ⟨d, c, e, e2, fun p s' a b d => h _ _ (q p s' a b d)⟩
theorem mo_Draw : MoF gDraw := fun _ _ _ _ _ _ h _ ⟨p, m, n, e, a, b, c, d, q⟩ => ⟨p, m, n, e, a, b, c, d, fun d s' x y z w => h _ _ (q d s' x y z w)⟩
theorem mo_Pick : MoF gPick := fun _ _ _ _ _ _ h _ ⟨p, d, l, n, e, a, b, c, x, y, q⟩ => ⟨p, d, l, n, e, a, b, c, x, y, fun d s' x y z => h _ _ (q d s' x y z)⟩
theorem mo_Shuffled : MoF gShuffled := fun _ _ _ _ _ _ h _ ⟨p, l, n, e, a, b, c, q⟩ => ⟨p, l, n, e, a, b, c, fun d s' x y z => h _ _ (q d s' x y z)⟩
end G

/-! GTry: a try whose clauses all say `except X as n`, by the steps of the rules for one such clause and for many without a name. -/
namespace G
open PySem
open PySem.Spec PyProof.Rows L2
/-- the clauses' readings -/
abbrev ClR := List (Value × (Addr → Value → Option Addr → TS))
/-- slot i is empty behind a clause's suite -/
def behindN (i : Nat) (D : Ends) : Ends := { nx := fun σ H => D.nx (σ.set i none) H, rt := D.rt, bk := fun σ H => D.bk (σ.set i none) H, ct := fun σ H => D.ct (σ.set i none) H }
def wAll (K : PySem.W.Frag) (i : Nat) (D : Ends) (W0 : WX) : ClR → WX
  | [], k, d, σ, H => W0 k d σ H
  | (c, ts) :: r, k, d, σ, H => ∃ yes, PySem.W.exmOne K k c = some yes ∧ (yes = true → ∀ p, H p = none → ts p k d (behindN i D) (σ.set i (some (.ref p))) H) ∧ (yes = false → wAll K i D W0 r k d σ H)
/-- .. where the slots are as many as the names -/
def wTop (X : Cx) (i : Nat) (D : Ends) (W0 : WX) (l : ClR) : WX := fun k d σ H => σ.length = X.N.length → wAll X.K i D W0 l k d σ H
inductive AsOk (X : Cx) (n : Str) : List ExceptHandler → ClR → Prop
  | nil : AsOk X n [] []
  | cons {x : Str} {c : Value} {ts : Addr → Value → Option Addr → TS} {s1 : Stmt} {ss : List Stmt} {q1 q2 : Pos} {hs : List ExceptHandler} {l : ClR} (nm : Names X x c)
      (su : ∀ (p : Addr) (ob : Obj) (k : Value) (d : Option Addr) (pn : List (Addr × Obj)), Zc k d ob → (∃ vs, ob.data = .fields vs) → PSs (X.suite p ((p, ob) :: pn)) (s1 :: ss) (ts p k d)) (rest : AsOk X n hs l) :
      AsOk X n (.ExceptHandler (some (.Name x q1)) (some n) (s1 :: ss) q2 :: hs) ((c, ts) :: l)
section
variable {X : Cx} {n : Str} {i : Nat} {body : List Stmt} {h1 : ExceptHandler} {hs : List ExceptHandler} {l : ClR} {pos : Pos} {tb : WX → TS} {W0 : WX}
theorem ps_try_all (st : X.stack = X.env :: X.outer) (fr : X.env.frame = some X.env.locals) (nd : X.N.Nodup) (ni : X.N[i]? = some n) (nl : X.env.kindOf n = some .local) (tk : Takes X W0)
    (hb : ∀ (W : WX) (pn : List (Addr × Obj)) (xe : Value → Shared → Prop), Takes
        (X.tr pn xe) W → PassesOwn (model X.prog X.w) X.A X.env xe → PSs (X.tr pn xe) body (tb W))
    (cl : AsOk X n (h1 :: hs) l) : PS X (.Try body (h1 :: hs) [] [] pos) (fun D σ H => tb (wTop X i D W0 l) D σ H) := by
  refine ⟨fun ps sh σ H D inv h => ?_⟩
  have gd := inv.ok
  have frm : X.A.frames = some (X.env :: X.outer) := by rw [gd.frames, st]
  have own : Loc X.env.scope n := .inl nl
  refine wpAny_Try_except (wpAny_mono ((hb (wTop X i D W0 l) (X.pn ++ ps) (fun e s₁ => wpAny (model X.prog X.w) X.A (noteFrame e X.env) (fun _ s₂ => wpAny (model X.prog X.w) X.A (setFlight e none) (fun _ s₃ => wpAny (model X.prog X.w) X.A (handleBy e X.env (h1 :: hs)) (SP X ps D) X.xe s₃) X.xe s₂) X.xe s₁)
    (fun u sx xx => ?_) PassesOwn.looking).run [] sh σ H D (inv.toTry _) h) (fun fl sx hx => ?_) (fun _ _ z => z))
  · obtain ⟨p, B, sj, ps', σx, Hx, k, d, rfl, Jx, nb, up, sk, np, osx, agx, w⟩ := xx
    have J := Jx.ofTry gd
    have sk' : Sky B (X.env :: X.outer) p (Zc k d) X.env.locals sx.heap := by rw [← st]; exact sk
    show wpAny (model X.prog X.w) X.A (noteFrame (.ref p) X.env) _ _ _
    refine Sky.land Zc.steady frm fr sk' fun ha fa ua => ?_
    have Ja : Inv X ps σx Hx { sx with heap := ha } := J.landed nb fa.1 (up.trans ua) osx agx
    obtain ⟨ob, vs, ho, hz, hd⟩ := fa.there
    have apart : p ∉ frs (X.env :: X.outer) := fun hm => by
      obtain ⟨_, o', e', no⟩ := fa.2.2.1.mem hm
      rw [ho] at e'
      cases e'
      exact no _ hd
    have notL : p ≠ X.env.locals := fun z => apart (List.mem_filterMap.mpr ⟨X.env, List.mem_cons_self, by rw [fr, z]⟩)
    have notF : p ∉ X.fs := fun hm => by
      obtain ⟨e, he, q⟩ :=
          List.mem_filterMap.mp hm
      exact apart (List.mem_filterMap.mpr ⟨e, List.mem_cons_of_mem _ he, q⟩)
    have Sa := Ja.suite ho hd np notL notF
    suffices each : ∀ {hs' : List ExceptHandler} {l' : ClR}, AsOk X n hs' l' → wAll X.K i D W0 l' k d σx Hx → wpAny (model X.prog X.w) X.A (handleBy (.ref p) X.env hs') (SP X ps D) X.xe { sx with heap := ha } from each cl (w J.len)
    intro hs' l' ck
    induction ck with
    | nil =>
      intro w
      refine wpAny_handleBy_nil ?_
      obtain ⟨_, _, _, oz, vz, T, _, _, hoz, _, hdz, hT, _⟩ := id fa
      unfold PySem.passOn
      refine wpAny_bind (wpAny_field hoz hdz hT ?_)
      rw [if_neg (show ¬
          ((Value.ref T == Value.none) = true) from by simp)]
      have away : wpAny (model X.prog X.w) X.A (setFlight (.ref p) X.env.frame) (fun _ s4 => wpAny (model X.prog X.w) X.A (throw (.ref p) : Sem Flow) (SP X ps D) X.xe s4) X.xe { sx with heap := ha } := by
        rw [fr]
        exact HandSPX.setFlight_upZ fa fun hh yy uu => wpAny_throw (tk _ _ ⟨p, B, sj, ps, σx, Hx, k, d, rfl, J, nb, (up.trans ua).trans uu, .inr (.inr (by rw [st]; exact yy)), np, osx, agx, w⟩)
      first
        | exact wpAny_bind (wpAny_pure (wpAny_bind away))
        | exact wpAny_bind away
    | @cons x c ts s1 ss q1 q2 hs2 l2 nm su rest ih =>
      intro w
      obtain ⟨yes, m1, my, mn⟩ := w
      refine wpAny_handleBy_cons (codeAny_handlers_test ?_) (fun q => nomatch q)
      have lk : PySem.W.Looks (model X.prog X.w) ha (typeOf (.ref p)) k := fun _ _ _ _ kk q => wpAny_typeOf_ref (kk _ _ ho) (by rw [hz.1]; exact q)
      have one := PySem.W.exm_one (M := model X.prog X.w) Ja.kIn lk m1
      have name : ∀ {Q' E' : Value → Shared → Prop}, Q' c { sx with heap := ha } → wpAny (model X.prog X.w) (X.A.mark (some (.ref p))) (eval (.Name x q1) X.env) Q' E' { sx with heap := ha } := fun {Q' E'} q => by
        obtain ⟨n1, n2, n3 | ⟨n3, n4, n5⟩⟩ := nm
        · exact ld_glob (X := X.suite p ((p, ob) :: (X.pn ++ ps))) Sa n1 n3 q n2
        · exact ld_blt (X := X.suite p ((p, ob) :: (X.pn ++ ps))) Sa n1 n3 n4 q n5 n2
      refine name (one.here ?_)
      cases yes with
      | false =>
        show wpAny _ X.A (handleBy (.ref p) X.env hs2) _ _ _
        exact ih (mn rfl)
      | true =>
        refine codeAny_handlers_suite_as (HandSPX.lands_againZ fa fun hb' fb ub => ?_)
        have Jb : Inv X ps σx Hx { sx with heap := hb' } := J.landed nb fb.1 ((up.trans ua).trans ub) osx agx
        obtain ⟨ob2, vs2, ho2, hz2, hd2⟩ := fb.there
        refine store_ok (X := X.suite p ((p, ob2) :: (X.pn ++ ps))) (v := .ref p) (Jb.suite ho2 hd2 np notL notF) nd ni own rfl (fun s5 S5 => ?_) (.inr nl)
        refine wpAny_mono ((su p ob2 k d (X.pn ++ ps) hz2 ⟨_, hd2⟩).run [] s5 _ Hx _ S5 (my rfl p np)) (fun fw s6 out => ?_) (fun _ _ z => z.elim)
        have gone : ∀ {σ6 : L2.St} {H6 : Hp} {R : Shared → Prop}, Inv (X.suite p ((p, ob2) :: (X.pn ++ ps))) [] σ6 H6 s6 → (∀ s7, Inv X ps (σ6.set i none) H6 s7 → R s7) → wpAny (model X.prog X.w) X.A (do bindName X.env n .none; unbindBehindTheSuite X.env n q2) (fun _ s7 => R s7) X.xe s6 := fun S6 hq => gone_ok (S6.unsuite gd) nd ni nl hq
        match fw, out with
        | .next, ⟨σ6, H6, S6, q6⟩ => exact gone S6 fun s7 J7 => ⟨_, _, J7, q6⟩
        | .brk, ⟨σ6, H6, S6, q6⟩ => exact gone S6 fun s7 J7 => ⟨_, _, J7, q6⟩
        | .cont, ⟨σ6, H6, S6, q6⟩ => exact gone S6 fun s7 J7 => ⟨_, _, J7, q6⟩
        | .ret u, ⟨v6, σ6, H6, S6, r6, q6⟩ => exact gone S6 fun s7 J7 => ⟨_, _, _, J7, r6, q6⟩
  · match fl, hx with
    | .next, ⟨σ2, H2, J2, q⟩ => exact wpAny_execs_nil ⟨σ2, H2, J2.ofTry gd, q⟩
    | .brk, ⟨σ2, H2, J2, q⟩ => exact ⟨σ2, H2, J2.ofTry gd, q⟩
    | .cont, ⟨σ2, H2, J2, q⟩ => exact ⟨σ2, H2, J2.ofTry gd, q⟩
    | .ret u, ⟨v, σ2, H2, J2, r, q⟩ => exact ⟨v, σ2, H2, J2.ofTry gd, r, q⟩
/-- a suite that is never entered -/
theorem pss_never {Y : Cx} {b : List Stmt} : PSs Y b (fun _ _ _ => False) := ⟨fun _ _ _ _ _ _ h => h.elim⟩
end
end G

/-! GLam: x(lambda: e), x a def that tells what error e ends in. -/
namespace G
open PySem
open PySem.Spec PyProof.Rows L2
open LamX (lamCx lamEnv Tabs TabS ExtN CodeO codeO_ne GivesTo TabB LamS)
section
variable {X : Cx} {E : XK}
theorem takesLam {A : Around} {outer : List Env} {s : Shared} {H : Hp} {sc : Scope} {f c : Addr} : Takes (lamCx X A outer s H E sc f c) (fun cls d _ H => E cls d H) := takes_of rfl rfl rfl rfl
theorem passLam {A : Around} {outer : List Env} {s : Shared} {H : Hp} {sc : Scope} {f c : Addr} : PassX (lamCx X A outer s H E sc f c) E := passes_call takesLam fun _ _ _ _ h => h
/-- the one table, at P -/
def OneTab (s : Sto) (P : Addr) (q : Str) : Prop := s P = some (.tab q) ∧ ∀ a r, s a = some (.tab r) → a = P
/-- the fields of a caught error of the class with a line and a column -/
def lcF (l c : Int) : List (Str × D) := [("column", .int c), ("line", .int l)]
/-- what the def makes of the lambda's reading -/
def TWhy (Mi : Addr) : (XK → Hp → VK → Prop) → Hp → VK → Prop := fun tl H Q => tl (fun k dd H' => ∃ d l c, k = .ref Mi ∧ dd = some d ∧ H' d = some (.xd [("column", .int c), ("line", .int l)]) ∧ ∀ p, H' p = none → Q (.ref p) (upd H' p (.tup [.str "read", .int l, .int c]))) H fun _ H' => Q .non H'
def dWhy (P : Addr) (q : Str) (Mi : Addr) (tb : DE) : DE := fun ρ s Q _ => OneTab s P q ∧ tb ρ s (fun _ s' => Q .non s') (fun C fs s' => C = Mi ∧ ∃ l c, fs = lcF l c ∧ Q (.tup [.str "read", .int l, .int c]) s')
theorem mo_why {P : Addr} {q : Str} {Mi : Addr} {tb : DE} (h : MoE tb) : MoE (dWhy P q Mi tb) := fun ρ s Q Q' Z Z' hq hz w => ⟨w.1, h ρ s _ _ _ _ (fun d s' k => hq _ _ k) (fun C fs s' k => by
  obtain ⟨e, l, c, e2, k⟩ := k
  exact ⟨e, l, c, e2, hq _ _ k⟩) w.2⟩
theorem tabs_cells {K : PySem.W.Frag} {s : Sto} {H H1 : Hp} {P : Addr} {q : Str} (ce : Cells K s H) (one : OneTab s P q) (eN : ExtN H H1) (T1 : TabS H1 P q) : Stp s H s H1 ∧ Cells K s H1 := by
  have st : Stp s H s H1 := ⟨fun a o hs ho hq => ⟨hs, eN a o ho hq⟩⟩
  have same : ∀ a c, s a = some c → (∀ r, c ≠ .tab r) → CellAt K s H1 a c := fun a c hc hn => by
    have w := ce a c hc
    have k : ∃ o, H a = some o ∧ ∀ r, o ≠ .tbl r := by
      match c, w, hn with
      | .lst _, ⟨xs, h, _⟩, _ => exact ⟨_, h, fun r z => nomatch z⟩
      | .dK _, ⟨ys, h, _⟩, _ => exact ⟨_, h, fun r z => nomatch z⟩
      | .ins _ _, ⟨dx, ys, h, _⟩, _ => exact ⟨_, h, fun r z => nomatch z⟩
      | .tab r, _, hn => exact absurd rfl (hn r)
    obtain ⟨o, ho, hr⟩ := k
    exact w.stp st (by rw [ho]; exact eN a o ho hr)
  refine ⟨st, fun a c hc => ?_⟩
  match c, hc with
  | .lst l, hc => exact same a _ hc fun r z => nomatch z
  | .dK l, hc => exact same a _ hc fun r z => nomatch z
  | .ins C l, hc => exact same a _ hc fun r z => nomatch z
  | .tab r, hc =>
    have ea := one.2 a r hc
    subst ea
    have er : r = q := by
      rw [one.1] at hc
      cases hc
      rfl
    subst er
    obtain ⟨ps, h1, h2, h3⟩ := T1
    refine ⟨ps, h1, h2, fun pos cv hcv => ?_⟩
    obtain ⟨c, e1, e2⟩ := h3 pos cv hcv
    refine ⟨c, e1, ?_, e2⟩
    cases hsc : s c with
    | none => rfl
    | some cc =>
      match cc, hsc with
      | .lst l, hsc =>
        obtain ⟨xs, h, _⟩ := same c _ hsc fun r z => nomatch z
        rw [e2] at h
        cases h
      | .dK l, hsc =>
        obtain ⟨xs, h, _⟩ := same c _ hsc fun r z => nomatch z
        rw [e2] at h
        cases h
      | .ins C l, hsc =>
        obtain ⟨dx, xs, h, _⟩ := same c _ hsc fun r z => nomatch z
        rw [e2] at h
        cases h
      | .tab r2, hsc =>
        have := one.2 c r2 hsc
        subst this
        rw [e2] at h1
        cases h1
/-- okG for a def whose code object is known -/
theorem okGc {P : Program} {w : World} {K : PySem.W.Frag} {mg : Str → Option Value} {base : Heap} {x qual : Str} {st : Stmt} {f : Addr} {oc : Value} {od an : Option Addr} {kV doc pm cdv ct : Value} {osl : Array (Option Value)} {N ps : List Str} {k n : Nat} {g : DF}
    (lk : K.lookup f = some ⟨oc, od, .func (PySem.W.fnOf x qual (defArgs st) (defBody st) (defScope st) .none kV doc pm an cdv ct), osl⟩) (hcd : PySem.W.codeIn K cdv qual = true) (S : FnScope N ps (defScope st)) (hn : ps.length = n)
    (hbody : ∀ (A : Around) (outer : List Env) (s : Shared) (H : Hp) (E : XK), Room k (A.deeper (envOfC qual (defScope st) s.heap.objs.size f cdv)) →
      ∃ t, PDSs (cxG P w K mg base N qual (defScope st) f cdv A outer s H E) E (defBody st) t ∧ ∀ ds s Q Z, ds.length = n → g ds s Q Z → t ⟨fun _ s' => Q .non s', Q, Z, noEnd, noEnd⟩ (startD N.length ds) s) :
    FnOk P w K mg base (L2.CX P w) (k + 1) f (PySem.W.fnOf x qual (defArgs st) (defBody st) (defScope st) .none kV doc pm an cdv ct) ps (spG K n g) := by
  refine fn_of lk hcd S (fun vs H Q E h => ?_) fun A outer s H vs Q E hr h => ?_
  · obtain ⟨ds, s, h1, h2, _⟩ := h
    rw [← h2.length, h1, hn]
  · obtain ⟨ds, st0, h1, h2, c, h3⟩ := h
    obtain ⟨t, ht, hq⟩ := hbody A outer s H E hr
    refine ⟨_, ht.run, _, st0, rs_start h2 c, ht.mo.go (hq ds st0 _ _ h1 h3) ⟨?_, fun _ _ z => z, fun _ _ _ z => z, fun _ _ z => z.elim, fun _ _ z => z.elim⟩⟩
    intro ρ' s' q σ' H' st rs
    exact q .non H' st rs.cel .non
theorem pd_lamcall {Mi : Addr} {x a : Str} {g c P : Addr} {k : Nat} {pg : Arguments} {bg : List Stmt} {sg : Scope} {dV kV doc pm cdv ct oc : Value} {an od : Option Addr} {osl : Array (Option Value)} {Ng : List Str} {q : Str}
    {params : Arguments} {body : Expr} {scope : Scope} {tb : DE} {p lpos pos : Pos} (hg : Gl X x) (hm : X.mg x = some (.ref g)) (hk : PySem.W.keepIn X.K (.ref g) = true)
    (lk : X.K.lookup g = some ⟨oc, od, .func (PySem.W.fnOf x x pg bg sg dV kV doc pm an cdv ct), osl⟩) (hcg : PySem.W.codeIn X.K cdv x = true)
        (hb : L2.Binds X.K (PySem.W.fnOf x x pg bg sg dV kV doc pm an cdv ct) [a] []) (Sg : FnScope Ng [a] sg) (hNg : Ng[0]? = some a) (hva : Vis sg a)
    (hq : X.env.qual ++ "<lambda>" = q) (hG : GivesTo X Ng x sg g cdv bg a q (TWhy Mi)) (TB : TabB X.base X.mg c P) (hcode : X.env.code = .ref c) (hr : Room (k + 2) X.A) (L : LamS X.env.scope scope) (hdef : defaultsOf params X.env = ([], []))
    (hbind : ∀ (q : Str) (cl : List (Str × Addr)) (pm cv ctv : Value), bindArgs
        (PySem.W.kla_fn "<lambda>" q params body scope cl pm cv ctv) ⟨[], []⟩ = pure [])
    (hbody : ∀ (A : Around) (outer : List Env) (s : Shared) (H : Hp) (E : XK) (f c' : Addr), Room k (A.deeper (lamEnv X scope s.heap.objs.size f c')) → PD (lamCx X A outer s H E scope f c') E body tb)
    (hdb : (x == ("__debug__" : Str)) = false := by decide) (hd : (a == ("__debug__" : Str)) = false :=
        by decide) (hcd : (a == ("__classdict__" : Str)) = false := by decide) :
    PD X E (.Call (.Name x p) [.Lambda params body scope lpos] [] pos) (dWhy P q Mi tb) := by
  subst hq
  have hmo : MoE tb := (hbody X.A [] {} (fun _ => none) E 0 0 ((hr.deeper _).mono (Nat.le_succ _))).mo
  refine ⟨mo_why hmo, pe_weak (LamX.pe_lamcall (T := [(P, X.env.qual ++ "<lambda>")]) (TT := TWhy Mi) (t := fun E => liftE X.K E tb) hg hm hk lk hcg hb Sg hNg hva hG TB hcode List.mem_cons_self (fun p hp _ => by rw [List.mem_singleton.mp hp]) hr L hdef hbind
    (fun A outer s H E f c' hr => (hbody A outer s H E f c' hr).run) hdb hd hcd) fun σ H Q ⟨ρ, s, rs, one, w⟩ => ?_⟩
  refine ⟨fun z hz => ?_, fun H1 eN T1 => ?_⟩
  · rw [List.mem_singleton.mp
      hz]
    obtain ⟨ps, h1, h2, h3⟩ := rs.cel P _ one.1
    exact ⟨ps, h1, h2, fun pos cv hc => by
      obtain ⟨c, e1, _, e3⟩ := h3 pos cv hc
      exact ⟨c, e1, e3⟩⟩
  · obtain ⟨st, ce⟩ := tabs_cells rs.cel one eN (T1 _ List.mem_cons_self)
    refine ⟨ρ, s, rs.stp st ce, hmo ρ s _ _ _ _ (fun d s' hd => ?_) (fun C fs s' hx => ?_) w⟩
    · intro v H2 st2 c2 _
      exact hd .non H2 (st.trans st2) c2 .non
    · obtain ⟨rfl, l, c, rfl, hd⟩ := hx
      intro dd H2 st2 c2 hdd
      obtain ⟨ys, hy, rf⟩ := hdd
      cases rf with
      | cons r1 rf =>
        cases r1
        cases rf with
        | cons r2 rf =>
          cases r2
          cases rf
          exact ⟨dd, l, c, rfl, rfl, hy, fun p hp => hd (.ref p) _ (st.trans (st2.trans (stp_new hp))) (cells_new c2 hp) (rp_new_tup c2 hp (.cons (.str _) (.cons (.int _) (.cons (.int _) .nil))))⟩
end
end G

/-! K34a: the text of k34 by places; what the top leaves. -/
namespace K34
open PySem PySem.Spec PyProof.Rows L2 G
def topS (i : Nat) : Stmt := PySem.Challenge.pw_everyonehome_k34_whole_letters_and_runs.main.body.getD i (.Pass ⟨0, 0, 0, 0⟩)
abbrev s_is_run_sign : Stmt := topS 20
abbrev N_is_run_sign : List Str := ["sign"]
theorem sc_is_run_sign : FnScope N_is_run_sign ["sign"] (defScope s_is_run_sign) := ⟨rfl, rfl, rfl, by decide +kernel, rfl, by decide +kernel, by decide +kernel⟩
abbrev s_is_numeral : Stmt := topS 21
abbrev N_is_numeral : List Str := ["run", "sign"]
theorem sc_is_numeral : FnScope N_is_numeral ["run"] (defScope s_is_numeral) := ⟨rfl, rfl, rfl, by decide +kernel, rfl, by decide +kernel, by decide +kernel⟩
abbrev s_kind_of : Stmt := topS 22
abbrev N_kind_of : List Str := ["run"]
theorem sc_kind_of : FnScope N_kind_of ["run"] (defScope s_kind_of) := ⟨rfl, rfl, rfl, by decide +kernel, rfl, by decide +kernel, by decide +kernel⟩
abbrev s_is_name : Stmt := topS 23
abbrev N_is_name : List Str := ["value", "sign"]
theorem sc_is_name : FnScope N_is_name ["value"] (defScope s_is_name) := ⟨rfl, rfl, rfl, by decide +kernel, rfl, by decide +kernel, by decide +kernel⟩
abbrev s_Scanner___init__ : Stmt := inClass (topS 24) 0
abbrev N_Scanner___init__ : List Str := ["self", "text"]
theorem sc_Scanner___init__ : FnScope N_Scanner___init__ ["self", "text"] (defScope s_Scanner___init__) := ⟨rfl, rfl, rfl, by decide +kernel, rfl, by decide +kernel, by decide +kernel⟩
abbrev s_Scanner_is_over : Stmt := inClass (topS 24) 1
abbrev N_Scanner_is_over : List Str := ["self"]
theorem sc_Scanner_is_over : FnScope N_Scanner_is_over ["self"] (defScope s_Scanner_is_over) := ⟨rfl, rfl, rfl, by decide +kernel, rfl, by decide +kernel, by decide +kernel⟩
abbrev s_Scanner_skip : Stmt := inClass (topS 24) 2
abbrev N_Scanner_skip : List Str := ["self", "many"]
theorem sc_Scanner_skip : FnScope N_Scanner_skip ["self", "many"] (defScope s_Scanner_skip) := ⟨rfl, rfl, rfl, by decide +kernel, rfl, by decide +kernel, by decide +kernel⟩
abbrev s_Scanner_pass_gap : Stmt := inClass (topS 24) 3
abbrev N_Scanner_pass_gap : List Str := ["self", "sign"]
theorem sc_Scanner_pass_gap : FnScope N_Scanner_pass_gap ["self"] (defScope s_Scanner_pass_gap) := ⟨rfl, rfl, rfl, by decide +kernel, rfl, by decide +kernel, by decide +kernel⟩
abbrev s_Scanner_token : Stmt := inClass (topS 24) 4
abbrev N_Scanner_token : List Str := ["self", "place", "many", "word", "kind"]
theorem sc_Scanner_token : FnScope N_Scanner_token ["self"] (defScope s_Scanner_token) := ⟨rfl, rfl, rfl, by decide +kernel, rfl, by decide +kernel, by decide +kernel⟩
abbrev s_tokens : Stmt := topS 25
abbrev N_tokens : List Str := ["text", "scanner", "found"]
theorem sc_tokens : FnScope N_tokens ["text"] (defScope s_tokens) := ⟨rfl, rfl, rfl, by decide +kernel, rfl, by decide +kernel, by decide +kernel⟩
abbrev s_law_pen : Stmt := topS 27
abbrev N_law_pen : List Str := ["script", "fold", "cell"]
theorem sc_law_pen : FnScope N_law_pen ["script"] (defScope s_law_pen) := ⟨rfl, rfl, rfl, by decide +kernel, rfl, by decide +kernel, by decide +kernel⟩
abbrev s_law_draw : Stmt := topS 28
abbrev N_law_draw : List Str := ["pen", "many", "cell", "digit", "blend"]
theorem sc_law_draw : FnScope N_law_draw ["pen", "many"] (defScope s_law_draw) := ⟨rfl, rfl, rfl, by decide +kernel, rfl, by decide +kernel, by decide +kernel⟩
abbrev s_law_pick : Stmt := topS 29
abbrev N_law_pick : List Str := ["pen", "some"]
theorem sc_law_pick : FnScope N_law_pick ["pen", "some"] (defScope s_law_pick) := ⟨rfl, rfl, rfl, by decide +kernel, rfl, by decide +kernel, by decide +kernel⟩
abbrev s_law_shuffled : Stmt := topS 30
abbrev N_law_shuffled : List Str := ["pen", "some", "left", "found", "lap"]
theorem sc_law_shuffled : FnScope N_law_shuffled ["pen", "some"] (defScope s_law_shuffled) := ⟨rfl, rfl, rfl, by decide +kernel, rfl, by decide +kernel, by decide +kernel⟩
abbrev s_law_name : Stmt := topS 31
abbrev N_law_name : List Str := ["pen", "index", "word", "spot", "place"]
theorem sc_law_name : FnScope N_law_name ["pen", "index"] (defScope s_law_name) := ⟨rfl, rfl, rfl, by decide +kernel, rfl, by decide +kernel, by decide +kernel⟩
abbrev s_law_names : Stmt := topS 32
abbrev N_law_names : List Str := ["pen", "many", "index"]
theorem sc_law_names : FnScope N_law_names ["pen", "many"] (defScope s_law_names) := ⟨rfl, rfl, rfl, by decide +kernel, rfl, by decide +kernel, by decide +kernel⟩
abbrev s_law_same : Stmt := topS 33
abbrev N_law_same : List Str := ["told", "due", "one", "two"]
theorem sc_law_same : FnScope N_law_same ["told", "due"] (defScope s_law_same) := ⟨rfl, rfl, rfl, by decide +kernel, rfl, by decide +kernel, by decide +kernel⟩
abbrev s_law_is_sign : Stmt := topS 35
abbrev N_law_is_sign : List Str := ["word"]
theorem sc_law_is_sign : FnScope N_law_is_sign ["word"] (defScope s_law_is_sign) := ⟨rfl, rfl, rfl, by decide +kernel, rfl, by decide +kernel, by decide +kernel⟩
abbrev s_law_behind_text : Stmt := topS 36
abbrev N_law_behind_text : List Str := ["place", "text", "line", "column", "sign"]
theorem sc_law_behind_text : FnScope N_law_behind_text ["place", "text"] (defScope s_law_behind_text) := ⟨rfl, rfl, rfl, by decide +kernel, rfl, by decide +kernel, by decide +kernel⟩
abbrev s_law_laid : Stmt := topS 37
abbrev N_law_laid : List Str := ["pen", "words", "text", "here", "places", "at", "word", "gap", "tail"]
theorem sc_law_laid : FnScope N_law_laid ["pen", "words"] (defScope s_law_laid) := ⟨rfl, rfl, rfl, by decide +kernel, rfl, by decide +kernel, by decide +kernel⟩
abbrev s_law_drawn_words : Stmt := topS 38
abbrev N_law_drawn_words : List Str := ["pen", "many", "keys", "words", "turn"]
theorem sc_law_drawn_words : FnScope N_law_drawn_words ["pen", "many"] (defScope s_law_drawn_words) := ⟨rfl, rfl, rfl, by decide +kernel, rfl, by decide +kernel, by decide +kernel⟩
abbrev s_law_moved : Stmt := topS 39
abbrev N_law_moved : List Str := ["rows", "here", "found", "kind", "word", "place"]
theorem sc_law_moved : FnScope N_law_moved ["rows", "here"] (defScope s_law_moved) := ⟨rfl, rfl, rfl, by decide +kernel, rfl, by decide +kernel, by decide +kernel⟩
abbrev s_law_alone : Stmt := topS 40
abbrev N_law_alone : List Str := ["word"]
theorem sc_law_alone : FnScope N_law_alone ["word"] (defScope s_law_alone) := ⟨rfl, rfl, rfl, by decide +kernel, rfl, by decide +kernel, by decide +kernel⟩
abbrev s_law_why : Stmt := topS 34
abbrev N_law_why : List Str := ["call", "found", "error"]
theorem sc_law_why : FnScope N_law_why ["call"] (defScope s_law_why) := ⟨rfl, rfl, rfl, by decide +kernel, rfl, by decide +kernel, by decide +kernel⟩
abbrev s_law : Stmt := topS 41
abbrev N_law : List Str := ["script", "pen", "lap", "first", "second", "one", "places", "end", "other", "mates", "last", "told", "later", "due", "gap", "here", "bad", "spot", "left", "right", "word", "place", "row"]
theorem sc_law : FnScope N_law ["script"] (defScope s_law) := ⟨rfl, rfl, rfl, by decide +kernel, rfl, by decide +kernel, by decide +kernel⟩
structure Txt (K : PySem.W.Frag) (mg : Str → Option Value) (Sc : Addr) : Prop where
  z_len : mg "len" = none
  z_int : mg "int" = none
  z_str : mg "str" = none
  z_list : mg "list" = none
  z_tuple : mg "tuple" = none
  z_all : mg "all" = none
  z_isinstance : mg "isinstance" = none
  z_max : mg "max" = none
  z_range : mg "range" = none
  z_enumerate : mg "enumerate" = none
  z_zip : mg "zip" = none
  z_bool : mg "bool" = none
  g_LETTERS : ∃ t, mg "LETTERS" = some (.str "abcdefghijklmnopqrstuvwxyz" t)
  g_FIGURES : ∃ t, mg "FIGURES" = some (.str "0123456789" t)
  g_LONGEST_NAME : ∃ t, mg "LONGEST_NAME" = some (.int 12 t)
  g_LONGEST_NUMBER : ∃ t, mg "LONGEST_NUMBER" = some (.int 3 t)
  g_KEYS : ∃ (a : Addr) (dd : Option Addr) (n : Nat) (sl : Array (Option Value)) (t0 t1 t2 t3 t4 t5 t6 : Tok), mg "KEYS" = some (.ref a) ∧ K.lookup a = some ⟨.type "tuple", dd, .seq #[.str "town" t0, .str "homes" t1, .str "place" t2, .str "road" t3, .str "to" t4, .str "times" t5, .str "load" t6] n, sl⟩
  g_SIGNS : ∃ (a : Addr) (dd : Option Addr) (n : Nat) (sl : Array (Option Value)) (t0 t1 t2 t3 t4 : Tok), mg "SIGNS" = some (.ref a) ∧ K.lookup a = some ⟨.type "tuple", dd, .seq #[.str "{" t0, .str "}" t1, .str "," t2, .str ";" t3, .str ":" t4] n, sl⟩
  c_Scanner : Cls K Sc
  n_Scanner_text : NoAttr K Sc "text"
  n_Scanner_at : NoAttr K Sc "at"
  n_Scanner_line : NoAttr K Sc "line"
  n_Scanner_column : NoAttr K Sc "column"
section
variable {X : Cx} {E : XK} {Sc : Addr} {pos : Pos}
theorem Txt.k_LETTERS (T : Txt X.K X.mg Sc) (hg : Gl X "LETTERS" := by rfl) : PD X E (.Name "LETTERS" pos) (dC (.str "abcdefghijklmnopqrstuvwxyz")) := by
  obtain ⟨t, h⟩ := T.g_LETTERS
  exact pd_glob hg h (show RelV (.str "abcdefghijklmnopqrstuvwxyz") _ from ⟨t, rfl⟩) (fun _ _ => .str _)
theorem Txt.k_FIGURES (T : Txt X.K X.mg Sc) (hg : Gl X "FIGURES" := by rfl) : PD X E (.Name "FIGURES" pos) (dC (.str "0123456789")) := by
  obtain ⟨t, h⟩ := T.g_FIGURES
  exact pd_glob hg h (show RelV (.str "0123456789") _ from ⟨t, rfl⟩) (fun _ _ => .str _)
theorem Txt.k_LONGEST_NAME (T : Txt X.K X.mg Sc) (hg : Gl X "LONGEST_NAME" := by rfl) : PD X E (.Name "LONGEST_NAME" pos) (dC (.int 12)) := by
  obtain ⟨t, h⟩ := T.g_LONGEST_NAME
  exact pd_glob hg h (show RelV (.int 12) _ from ⟨t, rfl⟩) (fun _ _ => .int _)
theorem Txt.k_LONGEST_NUMBER (T : Txt X.K X.mg Sc) (hg : Gl X "LONGEST_NUMBER" := by rfl) : PD X E (.Name "LONGEST_NUMBER" pos) (dC (.int 3)) := by
  obtain ⟨t, h⟩ := T.g_LONGEST_NUMBER
  exact pd_glob hg h (show RelV (.int 3) _ from ⟨t, rfl⟩) (fun _ _ => .int _)
theorem Txt.k_KEYS (T : Txt X.K X.mg Sc) (hg : Gl X "KEYS" := by rfl) : PD X E (.Name "KEYS" pos) (dC (.tup [.str "town", .str "homes", .str "place", .str "road", .str "to", .str "times", .str "load"])) := by
  obtain ⟨a, dd, n, sl, t0, t1, t2, t3, t4, t5, t6, h, hk⟩ := T.g_KEYS
  exact pd_glob hg h (show RelV (.ref a) _ from rfl) (fun _ _ => .tup (xs := [.str "town", .str "homes", .str "place", .str "road", .str "to", .str "times", .str "load"]) (.inr ⟨_, _, _, hk, rfl, rfl, by show 7 ≤ sizeLine; decide, (.cons ⟨_, rfl⟩ (.cons ⟨_, rfl⟩ (.cons ⟨_, rfl⟩ (.cons ⟨_, rfl⟩ (.cons ⟨_, rfl⟩ (.cons ⟨_, rfl⟩ (.cons ⟨_, rfl⟩ .nil)))))))⟩) (.cons (.str _) (.cons (.str _) (.cons (.str _) (.cons (.str _) (.cons (.str _) (.cons (.str _) (.cons (.str _) .nil))))))))
theorem Txt.k_SIGNS (T : Txt X.K X.mg Sc) (hg : Gl X "SIGNS" := by rfl) : PD X E (.Name "SIGNS" pos) (dC (.tup [.str "{", .str "}", .str ",", .str ";", .str ":"])) := by
  obtain ⟨a, dd, n, sl, t0, t1, t2, t3, t4, h, hk⟩ := T.g_SIGNS
  exact pd_glob hg h (show RelV (.ref a) _ from rfl) (fun _ _ => .tup (xs := [.str "{", .str "}", .str ",", .str ";", .str ":"]) (.inr ⟨_, _, _, hk, rfl, rfl, by show 5 ≤ sizeLine; decide, (.cons ⟨_, rfl⟩ (.cons ⟨_, rfl⟩ (.cons ⟨_, rfl⟩ (.cons ⟨_, rfl⟩ (.cons ⟨_, rfl⟩ .nil)))))⟩) (.cons (.str _) (.cons (.str _) (.cons (.str _) (.cons (.str _) (.cons (.str _) .nil))))))
end
end K34

/-! K34b: the runs: is_run_sign, is_numeral, kind_of, is_name. -/
namespace K34
open PySem PySem.Spec PyProof.Rows L2 G

/-! ### the plain functions -/
def letters : Str := "abcdefghijklmnopqrstuvwxyz"
def figures : Str := "0123456789"
def isLet (c : Nat) : Bool := decide (c ∈ letters.cps.toList)
def isFig (c : Nat) : Bool := decide (c ∈ figures.cps.toList)
def isRun (c : Nat) : Bool := isLet c || isFig c
def isNumeral (x : Str) : Bool := (x.cps.toList.all isFig && decide (x.length ≤ 3)) && (x == "0" || !(x.cps.toList.head? == some 48))
def keysL : List Str := ["town", "homes", "place", "road", "to", "times", "load"]
def signsL : List Str := ["{", "}", ",", ";", ":"]
def kindD (x : Str) : D :=
  if keysL.contains x then .str "key"
  else if isLet (x.cps.toList.headD 0) then (if x.length ≤ 12 then .str "name" else .non)
  else if isNumeral x then .str "number" else .non
def isName (x : Str) : Bool := x.length != 0 && x.cps.toList.all isRun && (match kindD x with
  | .str k => k == "name"
  | _ => false)
/-- texts are short enough for all that is done with them -/
def Sh (x : Str) : Prop := x.length ≤ 100000
theorem Sh.line {x : Str} (h : Sh x) : x.length ≤ sizeLine := Nat.le_trans h (by decide)

/-! ### promises -/
def gRunSign : DF := fun ds s Q _ => ∃ c, ds = [.str ⟨#[c]⟩] ∧ Q (.bl (isRun c)) s
def gNumeral : DF := fun ds s Q _ => ∃ x : Str, ds = [.str x] ∧ 0 < x.length ∧ Sh x ∧ Q (.bl (isNumeral x)) s
def gKind : DF := fun ds s Q _ => ∃ x : Str, ds = [.str x] ∧ 0 < x.length ∧ Sh x ∧ Q (kindD x) s
def gIsName : DF := fun ds s Q _ => (∃ x : Str, ds = [.str x] ∧ Sh x ∧ Q (.bl (isName x)) s) ∨ ∃ l, ds = [.lst l] ∧ Q (.bl false) s
theorem mo_RunSign : MoF gRunSign := fun _ _ _ _ _ _ h _ ⟨c, e, q⟩ => ⟨c, e, h _ _ q⟩
theorem mo_Numeral : MoF gNumeral := fun _ _ _ _ _ _ h _ ⟨c, e, e2, e3, q⟩ => ⟨c, e, e2, e3, h _ _ q⟩
theorem mo_Kind : MoF gKind := fun _ _ _ _ _ _ h _ ⟨c, e, e2, e3, q⟩ => ⟨c, e, e2, e3, h _ _ q⟩
theorem mo_IsName : MoF gIsName := fun _ _ _ _ _ _ h _ q => by
  rcases q with ⟨c, e, e2, q⟩ | ⟨l, e, q⟩
  · exact .inl ⟨c, e, e2, h _ _ q⟩
  · exact .inr ⟨l, e, h _ _ q⟩

/-! ### texts by their signs -/
theorem len_cps (x : Str) : x.length = x.cps.toList.length := rfl
theorem atI0 {x : Str} (h : 0 < x.length) : atI x.cps.toList 0 = some (x.cps.toList.headD 0) := by
  rw [len_cps] at h
  cases e : x.cps.toList with
  | nil =>
    rw [e] at h
    cases h
  | cons c r => exact atI_nat (j := 0) rfl
theorem one_eq (a b : Nat) : ((⟨#[a]⟩ : Str) == (⟨#[b]⟩ : Str)) = (a == b) := by
  rw [Bool.eq_iff_iff,
      beq_iff_eq, beq_iff_eq]
  exact ⟨fun z => by injection z with z1; injection z1 with z2; injection z2, fun z => by rw [z]⟩
theorem blsOf_all (p : Nat → Bool) : ∀ l : List Nat, blsOf ((l.map fun c => D.str ⟨#[c]⟩).map fun d => match d with
    | .str y => .bl (p (y.cps.toList.headD 0))
    | _ => .non) = some (l.map p)
  | [] => rfl
  | c :: r => by
    rw [List.map_cons,
        List.map_cons]
    show (blsOf _).map (p c :: ·) = _
    rw [blsOf_all p r]
    rfl
def headB (p : Nat → Bool) : D → D := fun d => match d with
  | .str y => .bl (p (y.cps.toList.headD 0))
  | _ => .non
theorem all_map (p : Nat → Bool) (l : List Nat) : (l.map p).all id = l.all p := by
  rw [List.all_map]
  rfl
section
variable {P : Program} {w : World} {K : PySem.W.Frag} {mg : Str → Option Value} {base : Heap} {Sc : Addr}
theorem ok_run_sign {f : Addr} {fd : FuncData} (F : Fun K "is_run_sign" "is_run_sign" s_is_run_sign f fd) (T : Txt K mg Sc) : FnOk P w K mg base (L2.CX P w) 1 f fd ["sign"] (spG K 1 gRunSign) := by
  refine okG F sc_is_run_sign rfl fun cdv A outer s H E hr => ⟨_, ((pds_one (pd_ret (pd_or (pd_inT (pd_v 0) T.k_LETTERS) (pd_one (pd_inT (pd_v 0) T.k_FIGURES)))))), fun ds s Q Z hn h => ?_⟩
  obtain ⟨c, rfl, h⟩ := h
  exact s_ret (val_or (a := isLet c) (b := isFig c) (fun Q Z q => ⟨c, rfl, q⟩) (fun _ Q Z q => ⟨c, rfl, q⟩)) h
theorem ok_numeral {f : Addr} {fd : FuncData} (F : Fun K "is_numeral" "is_numeral" s_is_numeral f fd) (T : Txt K mg Sc) : FnOk P w K mg base (L2.CX P w) 1 f fd ["run"] (spG K 1 gNumeral) := by
  refine okG F sc_is_numeral rfl fun cdv A outer s H E hr => ⟨_, ((pds_cons (pd_ifS (PDW.t (pdw_or (pd_notT (pd_valT (pd_all rfl T.z_all (pda_cons (pd_lc (own := [("sign", 1)]) rfl sc_is_numeral.nd (pdi_str (pd_v 0)) (blkOk_by (N := N_is_numeral) (sc := defScope s_is_numeral) (by decide +kernel)) (fun _ _ _ _ _ => (pdg_name (i := 1) sc_is_numeral.nd rfl (Or.inl rfl))) (fun _ _ _ _ _ => pdts_nil) (fun _ _ _ _ _ => (pd_inT (pd_v 1) T.k_FIGURES)) (by decide)) pda_nil)))) (pdw_or1 (pt_gtD (pd_len T.z_len (pda_cons (pd_v 0) pda_nil)) T.k_LONGEST_NUMBER))))
      (pds_one (pd_ret pd_bl))
      pds_nil)
      (pds_one (pd_ret (pd_or (pd_eq (pd_v 0) pd_str) (pd_one (pd_ne (pd_ixT (pd_v 0) pd_int) pd_str))))))), fun ds s Q Z hn h => ?_⟩
  obtain ⟨x, rfl, h0, hx, h⟩ := h
  have hall : Val (dCB (rcAll fun bs => bs.all id) (dCons (dLc (itS (dV 0)) (gN 1) dYes (dOp rdInT (dV 1) (dC (.str "0123456789"))) [1]) dNil)) (startD 2 [.str x]) s (.bl (x.cps.toList.all isFig)) := by
    have hc := val_lcN (it := itS (dV 0)) (te := dOp rdInT (dV 1) (dC (.str "0123456789"))) (j := 1) (vs := [1]) (ρ := startD 2 [.str x]) (s := s) (ds := signsD x) (headB isFig) (fun Q Z q => q) (by unfold signsD; rw [List.length_map]; exact Nat.lt_of_le_of_lt hx (by decide)) (fun d hd s' => by
      unfold signsD at hd
      obtain ⟨c, hc, rfl⟩ := List.mem_map.mp hd
      exact fun Q Z q => ⟨c, rfl, q⟩)
    refine val_cb1 hc fun Q q => ?_
    show match blsOf ((signsD x).map (headB isFig)) with
      | some bs => Q (.bl (bs.all id)) s
      | none => False
    have e := blsOf_all isFig x.cps.toList
    unfold signsD headB
    rw [e]
    show Q (.bl ((x.cps.toList.map isFig).all id)) s
    rw [all_map]
    exact q
  have hlen : TV (dB (dOp rdGt (dCB rcLen (dCons (dV 0) dNil)) (dC (.int 3)))) (startD 2 [.str x]) s (!decide (x.length ≤ 3)) := by
    intro Q Z q
    refine ⟨hx.line, ?_⟩
    show Q (decide ((3 : Int) < (x.length : Int))) s
    have e : decide ((3 : Int) < (x.length : Int)) = !decide (x.length ≤ 3) := by
      by_cases h3 : x.length ≤ 3
      · rw [decide_eq_true h3, decide_eq_false (by omega)]
        rfl
      · rw [decide_eq_false h3, decide_eq_true (by omega)]
        rfl
    rw [e]
    exact q
  refine s_when (tv_or (tv_not (tv_B hall)) (fun _ => hlen)) (fun hb => ?_) (fun hb => ?_)
  · have e : isNumeral x = false := by
      unfold isNumeral
      cases h1 : x.cps.toList.all isFig with
      | false => rfl
      | true =>
        rw [h1] at hb
        have h2 : decide (x.length ≤ 3) = false := by simpa using hb
        rw [h2]
        rfl
    show Q (.bl false) s
    rw [e] at h
    exact h
  · have h1 : x.cps.toList.all isFig = true := by
      cases h1 : x.cps.toList.all isFig with
      | true => rfl
      | false =>
        rw [h1] at hb
        cases hb
    have h2 : decide (x.length ≤ 3) = true := by
      rw [h1] at hb
      simpa using hb
    refine s_ret (val_or (a := x == "0") (b := !(x.cps.toList.head? == some 48)) (fun Q Z q => q) (fun _ Q Z q => ?_)) ?_
    · refine ⟨hx.line, ?_⟩
      show match atI x.cps.toList 0 with
        | some c => _
        | none => False
      rw [atI0 h0]
      show Q (.bl (!((⟨#[x.cps.toList.headD 0]⟩ : Str) == "0"))) s
      have e : ((⟨#[x.cps.toList.headD 0]⟩ : Str) == "0") = (x.cps.toList.head? == some 48) := by
        rw [show ("0" : Str) = ⟨#[48]⟩ from by decide +kernel, one_eq]
        rw [len_cps] at h0
        cases e : x.cps.toList with
        | nil =>
          rw [e] at h0
          cases h0
        | cons c r =>
          show (c == 48) = (some c == some 48)
          simp
      rw [e]
      exact q
    · show Q (.bl _) s
      have e : isNumeral x = (x == "0" || !(x.cps.toList.head? == some 48)) := by
        unfold isNumeral
        rw [h1, h2]
        rfl
      rw [← e]
      exact h
theorem ok_kind {f : Addr} {fd : FuncData} (F : Fun K "kind_of" "kind_of" s_kind_of f fd) (T : Txt K mg Sc) (D_is_numeral : DefOk P w K mg base 1 "is_numeral" 1 gNumeral) : FnOk P w K mg base (L2.CX P w) 2 f fd ["run"] (spG K 1 gKind) := by
  refine okG F sc_kind_of rfl fun cdv A outer s H E hr => ⟨_, ((pds_cons (pd_ifS (pt_inS (pd_v 0) T.k_KEYS)
      (pds_one (pd_ret pd_str))
      pds_nil)
      (pds_cons (pd_ifS (pt_inT (pd_ixT (pd_v 0) pd_int) T.k_LETTERS)
      (pds_one (pd_ret (pd_if (pt_leD (pd_len T.z_len (pda_cons (pd_v 0) pda_nil)) T.k_LONGEST_NAME) pd_str pd_non)))
      pds_nil)
      (pds_one (pd_ret (pd_if (pd_valT (pd_call D_is_numeral (hr.mono (by decide)) passG (pda_cons (pd_v 0) pda_nil))) pd_str pd_non)))))), fun ds s Q Z hn h => ?_⟩
  obtain ⟨x, rfl, h0, hx, h⟩ := h
  simp only [dRaise, dFrz, frz, dDict, dVals, wipeD, dYes, dSeq, dNext, dIfS, dRet, dRetN, dDrop, dAsg, gN, dIf, dB, dOp, dV, dC, sg, ss, startD, dCB, dCons, dNil, dTup, dLst, dLstC, dCall, dNo, dSome, dSl, dPar, dPar3, dAugN, dNeg, dAndV, dOrV, dNotV, dAnd, dOr, dNot, dFld, dSetF, dAugF, dMeth, dMake, dMakeD, dDGet, dDPut, dBM, dM1, gF, gTupD, gConsD, gNilD, rdInS, rdInT, itemsOf, strsOf, rdIxT, rdIx, rsT, rsL, rsU, rcLen, lenOf, rcInt, rcStr, rcList, rcListC, rcTup, rcAll, rcI2, tyN, rcIsi, isTy, rdAddI, rdSubI, rdMulI, rdModI, rdDivI, rdPowI, rdI, rdI0, rdLt, rdLe, rdGt, rdGe, rdAddS, rdAddL, rdAddT, rdEq, eqS, rdIsN, isNon, rdIsB, isBl, itL, itT, itS, itR1, itR2, itE, itZ, isLC, rbApp, rbPop, rbSplit, insOf, keyD, List.map_cons, List.map_nil, List.cons_append, List.nil_append, List.length_cons, List.length_nil, List.zip_cons_cons, List.zip_nil_left, List.reverse_cons, List.reverse_nil, List.replicate, Option.map_some, Nat.zero_add, Nat.reduceAdd, Nat.reduceSub, Bool.false_eq_true, if_false, if_true, reduceIte]
  unfold kindD at h
  show match keysL.contains x with
    | true => _
    | false => _
  cases h1 : keysL.contains x with
  | true =>
    rw [h1] at h
    exact h
  | false =>
    rw [h1] at h
    refine ⟨hx.line, ?_⟩
    rw [atI0 h0]
    refine ⟨_, rfl, ?_⟩
    show match isLet (x.cps.toList.headD 0) with
      | true => _
      | false => _
    cases h2 : isLet (x.cps.toList.headD 0) with
    | true =>
      rw [h2] at h
      refine ⟨hx.line, ?_⟩
      by_cases h3 : x.length ≤ 12
      · rw [decide_eq_true (show (x.length : Int) ≤ 12 by omega)]
        simpa [h3] using h
      · rw [decide_eq_false (show ¬ (x.length : Int) ≤ 12 by omega)]
        simpa [h3] using h
    | false =>
      rw [h2] at h
      refine ⟨trivial, x, rfl, h0, hx, ?_⟩
      cases h3 : isNumeral x with
      | true =>
        rw [h3] at h
        exact h
      | false =>
        rw [h3] at h
        exact h
theorem ok_is_name {f : Addr} {fd : FuncData} (F : Fun K "is_name" "is_name" s_is_name f fd) (T : Txt K mg Sc) (D_is_run_sign : DefOk P w K mg base 1 "is_run_sign" 1 gRunSign) (D_kind_of : DefOk P w K mg base 2 "kind_of" 1 gKind) : FnOk P w K mg base (L2.CX P w) 3 f fd ["value"] (spG K 1 gIsName) := by
  refine okG F sc_is_name rfl fun cdv A outer s H E hr => ⟨_, ((pds_cons (pd_ifS (PDW.t (pdw_or (pd_notT (pd_valT (pd_isi T.z_isinstance (pda_cons (pd_v 0) (pda_cons (pd_bltn (n := "str") (by rfl) T.z_str (by decide +kernel)) pda_nil))))) (pdw_or (pt_eqD (pd_v 0) pd_str) (pdw_or1 (pd_notT (pd_valT (pd_all rfl T.z_all (pda_cons (pd_lc (own := [("sign", 1)]) rfl sc_is_name.nd (pdi_str (pd_v 0)) (blkOk_by (N := N_is_name) (sc := defScope s_is_name) (by decide +kernel)) (fun _ _ _ _ _ => (pdg_name (i := 1) sc_is_name.nd rfl (Or.inl rfl))) (fun _ _ _ _ _ => pdts_nil) (fun _ _ _ _ _ => (pd_call D_is_run_sign (hr.mono (by decide)) passB (pda_cons (pd_v 1) pda_nil))) (by decide)) pda_nil))))))))
      (pds_one (pd_ret pd_bl))
      pds_nil)
      (pds_one (pd_ret (pd_eq (pd_call D_kind_of (hr.mono (by decide)) passG (pda_cons (pd_v 0) pda_nil)) pd_str))))), fun ds s Q Z hn h => ?_⟩
  rcases h with ⟨x, rfl, hx, h⟩ | ⟨l, rfl, h⟩
  · have hall : Val (dCB (rcAll fun bs => bs.all id) (dCons (dLc (itS (dV 0)) (gN 1) dYes (dCall 1 gRunSign (dCons (dV 1) dNil)) [1]) dNil)) (startD 2 [.str x]) s (.bl (x.cps.toList.all isRun)) := by
      have hc := val_lcN (it := itS (dV 0)) (te := dCall 1 gRunSign (dCons (dV 1) dNil)) (j := 1) (vs := [1]) (ρ := startD 2 [.str x]) (s := s) (ds := signsD x) (headB isRun) (fun Q Z q => q) (by unfold signsD; rw [List.length_map]; exact Nat.lt_of_le_of_lt hx (by decide)) (fun d hd s' => by
        unfold signsD at hd
        obtain ⟨c, hc, rfl⟩ := List.mem_map.mp hd
        exact fun Q Z q => ⟨rfl, c, rfl, q⟩)
      refine val_cb1 hc fun Q q => ?_
      show match blsOf ((signsD x).map (headB isRun)) with
        | some bs => Q (.bl (bs.all id)) s
        | none => False
      have e := blsOf_all isRun x.cps.toList
      unfold signsD headB
      rw [e]
      show Q (.bl ((x.cps.toList.map isRun).all id)) s
      rw [all_map]
      exact q
    have hl0 : (x == "") = (x.length == 0) := by
      rw [Bool.eq_iff_iff,
          beq_iff_eq, beq_iff_eq]
      constructor
      · rintro rfl
        rfl
      · intro z
        obtain ⟨⟨l⟩⟩ := x
        rw [len_cps] at z
        simp at z
        subst z
        rfl
    refine s_when (b := x == "" || !x.cps.toList.all isRun) (tv_or (a := false) (fun Q Z q => ⟨rfl, q⟩) (fun _ => tv_or (a := x == "") (fun Q Z q => q) (fun _ => tv_not (tv_B hall)))) (fun hb => ?_) (fun hb => ?_)
    · have e : isName x = false := by
        unfold isName
        rw [hl0] at hb
        cases h1 : x.cps.toList.all isRun with
        | true =>
          rw [h1] at hb
          have h2 : (x.length == 0) = true := by simpa using hb
          have h3 : (x.length != 0) = false := by rw [bne, h2]; rfl
          rw [h3]
          rfl
        | false =>
          rw [Bool.and_false]
          rfl
      rw [e] at h
      exact h
    · rw [hl0] at hb
      have h1 : x.cps.toList.all isRun = true := by
        cases h1 : x.cps.toList.all isRun with
        | true => rfl
        | false =>
          rw [h1] at hb
          simp at hb
      have h2 : (x.length == 0) = false := by
        cases h2 : x.length == 0 with
        | false => rfl
        | true =>
          rw [h2] at hb
          cases hb
      have h3 : 0 < x.length := by
        have : x.length ≠ 0 := by simpa using h2
        omega
      refine ⟨rfl, x, rfl, h3, hx, ?_⟩
      have e : isName x = (match kindD x with
        | .str k => k == "name"
        | _ => false) := by
        unfold isName
        rw [h1, bne, h2]
        rfl
      rw [e] at h
      have key : ∀ d, kindD x = d → (d = .non ∨ ∃ k, d = .str k) := by
        intro d hd
        unfold kindD at hd
        split at hd
        · exact .inr ⟨_, hd.symm⟩
        · split at hd
          · split at hd
            · exact .inr ⟨_, hd.symm⟩
            · exact .inl hd.symm
          · split at hd
            · exact .inr ⟨_, hd.symm⟩
            · exact .inl hd.symm
      rcases key _ rfl with k | ⟨k, hk⟩
      · rw [k] at h ⊢
        exact h
      · rw [hk] at h ⊢
        exact h
  · refine s_when (b := true) (tv_or (a := true) (b := false) (fun Q Z q => ⟨rfl, q⟩) (fun z => nomatch z)) (fun hb => h) (fun hb => nomatch hb)
end
end K34

/-! K34c: the scanner. -/
namespace K34
open PySem PySem.Spec PyProof.Rows L2 G
open PySem.Builtin.Str (strSub)

/-! ### a scanner's fields -/
def scF (x : Str) (i l c : Int) : List (Str × D) := [("text", .str x), ("at", .int i), ("line", .int l), ("column", .int c)]
theorem e_at : (("at" : Str) == "text") = false := by decide +kernel
theorem e_line1 : (("line" : Str) == "text") = false := by decide +kernel
theorem e_line2 : (("line" : Str) == "at") = false := by decide +kernel
theorem e_col1 : (("column" : Str) == "text") = false := by decide +kernel
theorem e_col2 : (("column" : Str) == "at") = false := by decide +kernel
theorem e_col3 : (("column" : Str) == "line") = false := by decide +kernel
theorem n_at : ("text" : Str) ≠ "at" := by decide +kernel
theorem n_line1 : ("text" : Str) ≠ "line" := by decide +kernel
theorem n_line2 : ("at" : Str) ≠ "line" := by decide +kernel
theorem n_col1 : ("text" : Str) ≠ "column" := by decide +kernel
theorem n_col2 : ("at" : Str) ≠ "column" := by decide +kernel
theorem n_col3 : ("line" : Str) ≠ "column" := by decide +kernel
section
variable {x : Str} {i l c j : Int}
theorem lk_text : (scF x i l c).lookup ("text" : Str) = some (.str x) := by
  unfold scF
  rw [List.lookup_cons, beq_self_eq_true]
theorem lk_at : (scF x i l c).lookup ("at" : Str) = some (.int i) := by
  unfold scF
  rw [List.lookup_cons, e_at]
  show List.lookup _ _ = _
  rw [List.lookup_cons, beq_self_eq_true]
theorem lk_line : (scF x i l c).lookup ("line" : Str) = some (.int l) := by
  unfold scF
  rw [List.lookup_cons, e_line1]
  show List.lookup _ _ = _
  rw [List.lookup_cons, e_line2]
  show List.lookup _ _ = _
  rw [List.lookup_cons, beq_self_eq_true]
theorem lk_column : (scF x i l c).lookup ("column" : Str) = some (.int c) := by
  unfold scF
  rw [List.lookup_cons, e_col1]
  show List.lookup _ _ = _
  rw [List.lookup_cons, e_col2]
  show List.lookup _ _ = _
  rw [List.lookup_cons, e_col3]
  show List.lookup _ _ = _
  rw [List.lookup_cons, beq_self_eq_true]
theorem pt_at : putD "at" (.int j) (scF x i l c) = scF x j l c := by
  unfold scF
  simp only [putD, if_neg n_at, if_pos]
theorem pt_line : putD "line" (.int j) (scF x i l c) = scF x i j c := by
  unfold scF
  simp only [putD, if_neg n_line1, if_neg n_line2, if_pos]
theorem pt_column : putD "column" (.int j) (scF x i l c) = scF x i l j := by
  unfold scF
  simp only [putD, if_neg n_col1, if_neg n_col2, if_neg n_col3, if_pos]
theorem lk_skip : (scF x i l c).lookup ("skip" : Str) = none := by
  unfold scF
  rw [List.lookup_cons, show (("skip" : Str) == "text") = false from by decide +kernel]
  show List.lookup _ _ = _
  rw [List.lookup_cons, show (("skip" : Str) == "at") = false from by decide +kernel]
  show List.lookup _ _ = _
  rw [List.lookup_cons, show (("skip" : Str) == "line") = false from by decide +kernel]
  show List.lookup _ _ = _
  rw [List.lookup_cons, show (("skip" : Str) == "column") = false from by decide +kernel]
  rfl
theorem lk_over : (scF x i l c).lookup ("is_over" : Str) = none := by
  unfold scF
  rw [List.lookup_cons, show (("is_over" : Str) == "text") = false from by decide +kernel]
  show List.lookup _ _ = _
  rw [List.lookup_cons, show (("is_over" : Str) == "at") = false from by decide +kernel]
  show List.lookup _ _ = _
  rw [List.lookup_cons, show (("is_over" : Str) == "line") = false from by decide +kernel]
  show List.lookup _ _ = _
  rw [List.lookup_cons, show (("is_over" : Str) == "column") = false from by decide +kernel]
  rfl
theorem lk_gap : (scF x i l c).lookup ("pass_gap" : Str) = none := by
  unfold scF
  rw [List.lookup_cons, show (("pass_gap" : Str) == "text") = false from by decide +kernel]
  show List.lookup _ _ = _
  rw [List.lookup_cons, show (("pass_gap" : Str) == "at") = false from by decide +kernel]
  show List.lookup _ _ = _
  rw [List.lookup_cons, show (("pass_gap" : Str) == "line") = false from by decide +kernel]
  show List.lookup _ _ = _
  rw [List.lookup_cons, show (("pass_gap" : Str) == "column") = false from by decide +kernel]
  rfl
theorem lk_token : (scF x i l c).lookup ("token" : Str) = none := by
  unfold scF
  rw [List.lookup_cons, show (("token" : Str) == "text") = false from by decide +kernel]
  show List.lookup _ _ = _
  rw [List.lookup_cons, show (("token" : Str) == "at") = false from by decide +kernel]
  show List.lookup _ _ = _
  rw [List.lookup_cons, show (("token" : Str) == "line") = false from by decide +kernel]
  show List.lookup _ _ = _
  rw [List.lookup_cons, show (("token" : Str) == "column") = false from by decide +kernel]
  rfl
theorem scF_len : (scF x i l c).length < 1000 := by
  show 4 < 1000
  decide
end
theorem init_f (x : Str) : putD "column" (.int 1) (putD "line" (.int 1) (putD "at" (.int 0) (putD "text" (.str x) []))) = scF x 0 1 1 := by
  unfold scF
  simp only [putD, if_neg n_at, if_neg n_line1, if_neg n_line2, if_neg n_col1, if_neg n_col2, if_neg n_col3]

/-! ### promises -/
def gInit (Sc : Addr) : DF := fun ds s Q _ => ∃ a x, ds = [.ref a, .str x] ∧ s a = some (.ins Sc []) ∧ Q .non (supd s a (.ins Sc (scF x 0 1 1)))
def gOver (Sc : Addr) : DF := fun ds s Q _ => ∃ a x i l c, ds = [.ref a] ∧ s a = some (.ins Sc (scF x i l c)) ∧ Sh x ∧ Q (.bl (i == (x.length : Int))) s
def gSkip (Sc : Addr) : DF := fun ds s Q _ => ∃ a x i l c n, ds = [.ref a, .int n] ∧ s a = some (.ins Sc (scF x i l c)) ∧ Q .non (supd s a (.ins Sc (scF x (i + n) l (c + n))))
def gGap (Sc : Addr) : DF := fun ds s Q _ => ∃ a x, ∃ k : Nat, ∃ l c ch r, ds = [.ref a] ∧ s a = some (.ins Sc (scF x k l c)) ∧ Sh x ∧ x.cps.toList.drop k = ch :: r ∧
  (ch = 10 → Q (.bl true) (supd s a (.ins Sc (scF x (k + 1) (l + 1) 1)))) ∧
  (ch = 32 → Q (.bl true) (supd s a (.ins Sc (scF x (k + 1) l (c + 1))))) ∧
  (ch = 35 → ∀ n : Nat, n = (r.takeWhile (· != 10)).length → Q (.bl true) (supd s a (.ins Sc (scF x (k + (n + 1 : Nat)) l (c + (n + 1 : Nat)))))) ∧
  (ch ≠ 10 → ch ≠ 32 → ch ≠ 35 → Q (.bl false) s)
def gTok (Sc Mi : Addr) : DF := fun ds s Q Z => ∃ a x, ∃ k : Nat, ∃ l c ch r, ds = [.ref a] ∧ s a = some (.ins Sc (scF x k l c)) ∧ Sh x ∧ x.cps.toList.drop k = ch :: r ∧
  (isRun ch = true → ∀ w, w = ch :: r.takeWhile isRun → (∀ kd, kindD (mkS w) = .str kd → Q (.tup [.str kd, .str (mkS w), .tup [.int l, .int c]]) (supd s a (.ins Sc (scF x (k + (w.length : Nat)) l (c + (w.length : Nat)))))) ∧ (kindD (mkS w) = .non → Z Mi [("column", .int c), ("line", .int l)] s)) ∧
  (isRun ch = false → (signsL.contains (mkS [ch]) = true → Q (.tup [.str "sign", .str (mkS [ch]), .tup [.int l, .int c]]) (supd s a (.ins Sc (scF x (k + 1) l (c + 1))))) ∧ (signsL.contains (mkS [ch]) = false → Z Mi [("column", .int c), ("line", .int l)] s))
theorem mo_Init (Sc : Addr) : MoF (gInit Sc) := fun _ _ _ _ _ _ h _ ⟨a, x, e, e2, q⟩ => ⟨a, x, e, e2, h _ _ q⟩
theorem mo_Over (Sc : Addr) : MoF (gOver Sc) := fun _ _ _ _ _ _ h _ ⟨a, x, i, l, c, e, e2, e3, q⟩ => ⟨a, x, i, l, c, e, e2, e3, h _ _ q⟩
theorem mo_Skip (Sc : Addr) : MoF (gSkip Sc) := fun _ _ _ _ _ _ h _ ⟨a, x, i, l, c, n, e, e2, q⟩ => ⟨a, x, i, l, c, n, e, e2, h _ _ q⟩
theorem mo_Gap (Sc : Addr) : MoF (gGap Sc) := fun _ _ _ _ _ _ h _ ⟨a, x, k, l, c, ch, r, e, e2, e3, e4, q1, q2, q3, q4⟩ => ⟨a, x, k, l, c, ch, r, e, e2, e3, e4, fun z => h _ _ (q1 z), fun z => h _ _ (q2 z), fun z n y => h _ _ (q3 z n y), fun z1 z2 z3 => h _ _ (q4 z1 z2 z3)⟩
theorem mo_Tok (Sc Mi : Addr) : MoF (gTok Sc Mi) := fun _ _ _ _ _ _ h z ⟨a, x, k, l, c, ch, r, e, e2, e3, e4, q1, q2⟩ => ⟨a, x, k, l, c, ch, r, e, e2, e3, e4, fun y w hw => ⟨fun kd hk => h _ _ ((q1 y w hw).1 kd hk), fun hk => z _ _ _ ((q1 y w hw).2 hk)⟩, fun y => ⟨fun hk => h _ _ ((q2 y).1 hk), fun hk => z _ _ _ ((q2 y).2 hk)⟩⟩

/-! ### texts -/
theorem drop_at {α : Type} {xs r : List α} {k m : Nat} {c : α} (h : xs.drop k = r) (e : r[m]? = some c) : atI xs ((k : Int) + (m : Int)) = some c := by
  rw [← h, List.getElem?_drop] at e
  have : ((k : Int) + (m : Int)) = ((k + m : Nat) : Int) := by omega
  rw [this]
  exact atI_nat e
theorem drop_len {α : Type} {xs r : List α} {k : Nat} (h : xs.drop k = r) : r.length = xs.length - k := by
  rw [← h, List.length_drop]
theorem takeWhile_self {α : Type} {p : α → Bool} : ∀ {l : List α}, (∀ c, c ∈ l → p c = true) → l.takeWhile p = l
  | [], _ => rfl
  | c :: l, h => by
    rw [List.takeWhile_cons, h c List.mem_cons_self]
    show c :: l.takeWhile p = c :: l
    rw [takeWhile_self fun d hd => h d (List.mem_cons_of_mem _ hd)]
theorem of_takeWhile {α : Type} {p : α → Bool} : ∀ {l : List α} {c : α}, c ∈ l.takeWhile p → p c = true
  | d :: l, c, h => by
    rw [List.takeWhile_cons] at h
    cases e : p d with
    | false =>
      rw [e] at h
      cases h
    | true =>
      rw [e] at h
      rcases List.mem_cons.mp
          h with rfl | h
      · exact e
      · exact of_takeWhile h
theorem takeWhile_end {α : Type} (p : α → Bool) : ∀ (l : List α) {c : α}, l[(l.takeWhile p).length]? = some c → p c = false
  | [], c, h => by simp at h
  | d :: l, c, h => by
    rw [List.takeWhile_cons] at h
    cases e : p d with
    | false =>
      rw [e] at h
      have : d = c := by simpa using h
      rw [← this]
      exact e
    | true =>
      rw [e] at h
      exact takeWhile_end p l (by simpa using h)
theorem take_takeWhile {α : Type} {p : α → Bool} : ∀ (l : List α), l.take (l.takeWhile p).length = l.takeWhile p
  | [] => rfl
  | d :: l => by
    rw [List.takeWhile_cons]
    cases e : p d with
    | false => rfl
    | true =>
      show d :: l.take (l.takeWhile p).length = d :: l.takeWhile p
      rw [take_takeWhile l]
theorem cut_take {x : Str} {k j : Nat} {r : List Nat} (h : x.cps.toList.drop k = r) (hj : j ≤ r.length) : cutS x (some (k : Int)) (some ((k + j : Nat) : Int)) = mkS (r.take j) := by
  have hl := drop_len h
  rw [← len_cps] at hl
  unfold cutS mkS
  rw [HT.sIx_nat, HT.sIx_nat]
  by_cases hk : k ≤ x.length
  · rw [Nat.min_eq_left hk, Nat.min_eq_left (by omega), h, Nat.add_sub_cancel_left]
  · have hr : r = [] := by
      rw [← h]
      exact List.drop_eq_nil_of_le (by show x.length ≤ k; omega)
    rw [Nat.min_eq_right (by omega), Nat.min_eq_right (by omega), hr, Nat.sub_self]
    simp
theorem split10 (z z0 : Str) (h : (Txt.split z "\n")[0]? = some z0) : z0.length = (z.cps.toList.takeWhile (· != 10)).length := by
  have hs : ("\n" : Str) = ⟨#[10]⟩ := by decide +kernel
  rw [hs] at h
  rcases split_head z ⟨#[10]⟩ (by decide +kernel) z0 h with ⟨rfl, hn⟩ | ⟨i, rfl, hi, hn⟩
  · have : z0.cps.toList.takeWhile (· != 10) = z0.cps.toList := by
      refine takeWhile_self fun c hc => ?_
      obtain ⟨i, hi⟩ := List.mem_iff_getElem?.mp hc
      have h1 := hn i
      unfold StrLaws.At at h1
      rw [StrLaws.subAt_one, hi] at h1
      simpa using h1
    rw [this]
    rfl
  · have h1 := (StrLaws.subAt_one z 10 i).mp hi
    have h2 : ∀ k, k < i → z.cps.toList[k]? ≠ some 10 := fun k hk e => hn k hk ((StrLaws.subAt_one z 10 k).mpr e)
    have hlt : i < z.cps.toList.length := by
      rw [List.getElem?_eq_some_iff] at h1
      exact h1.1
    have e1 : (strSub z 0 i).length = i := by
      show (z.cps.extract 0 i).size = i
      rw [Array.size_extract]
      have : z.cps.toList.length = z.cps.size := rfl
      omega
    rw [e1]
    have key : ∀ (l : List Nat) (i : Nat), l[i]? = some 10 → (∀ k, k < i → l[k]? ≠ some 10) → (l.takeWhile (· != 10)).length = i := by
      intro l
      induction l with
      | nil => intro i h _; simp at h
      | cons c l ih =>
        intro i h hk
        cases i with
        | zero =>
          simp at h
          subst h
          simp
        | succ i =>
          have hc : c ≠ 10 := by
            have := hk 0 (by omega)
            simpa using this
          rw [List.takeWhile_cons, show (c != 10) = true by simpa using hc]
          show (l.takeWhile (· != 10)).length + 1 = i + 1
          rw [ih i (by simpa using h) (fun k hk' => by
            have := hk (k + 1) (by omega)
            simpa using this)]
    exact (key _ i h1 h2).symm
section
variable {P : Program} {w : World} {K : PySem.W.Frag} {mg : Str → Option Value} {base : Heap} {Sc Mi : Addr}
theorem ok_init {f : Addr} {fd : FuncData} (F : Fun K "__init__" "Scanner.__init__" s_Scanner___init__ f fd) (T : Txt K mg Sc) : FnOk P w K mg base (L2.CX P w) 1 f fd ["self", "text"] (spG K 2 (gInit Sc)) := by
  refine okG F sc_Scanner___init__ rfl fun cdv A outer s H E hr => ⟨_, ((pds_cons (pd_setF T.c_Scanner T.n_Scanner_text (pd_v 0) (pd_v 1))
      (pds_cons (pd_setF T.c_Scanner T.n_Scanner_at (pd_v 0) pd_int)
      (pds_cons (pd_setF T.c_Scanner T.n_Scanner_line (pd_v 0) pd_int)
      (pds_one (pd_setF T.c_Scanner T.n_Scanner_column (pd_v 0) pd_int)))))), fun ds s Q Z hn h => ?_⟩
  obtain ⟨a, x, rfl, hs, h⟩ := h
  have l1 : (putD "text" (.str x) []).length < 1000 := by
    show 1 < 1000
    decide
  have l2 : (putD "at" (.int 0) (putD "text" (.str x) [])).length < 1000 := by
    simp only [putD, if_neg n_at]
    show 2 < 1000
    decide
  have l3 : (putD "line" (.int 1) (putD "at" (.int 0) (putD "text" (.str x) []))).length < 1000 := by
    simp only [putD, if_neg n_at, if_neg n_line1, if_neg n_line2]
    show 3 < 1000
    decide
  simp only [dRaise, dFrz, frz, dDict, dVals, wipeD, dYes, dSeq, dNext, dIfS, dRet, dRetN, dDrop, dAsg, gN, dIf, dB, dOp, dV, dC, sg, ss, startD, dCB, dCons, dNil, dTup, dLst, dLstC, dCall, dNo, dSome, dSl, dPar, dPar3, dAugN, dNeg, dAndV, dOrV, dNotV, dAnd, dOr, dNot, dFld, dSetF, dAugF, dMeth, dMake, dMakeD, dDGet, dDPut, dBM, dM1, gF, gTupD, gConsD, gNilD, rdInS, rdInT, itemsOf, strsOf, rdIxT, rdIx, rsT, rsL, rsU, rcLen, lenOf, rcInt, rcStr, rcList, rcListC, rcTup, rcAll, rcI2, tyN, rcIsi, isTy, rdAddI, rdSubI, rdMulI, rdModI, rdDivI, rdPowI, rdI, rdI0, rdLt, rdLe, rdGt, rdGe, rdAddS, rdAddL, rdAddT, rdEq, eqS, rdIsN, isNon, rdIsB, isBl, itL, itT, itS, itR1, itR2, itE, itZ, isLC, rbApp, rbPop, rbSplit, insOf, keyD, List.map_cons, List.map_nil, List.cons_append, List.nil_append, List.length_cons, List.length_nil, List.zip_cons_cons, List.zip_nil_left, List.reverse_cons, List.reverse_nil, List.replicate, Option.map_some, Nat.zero_add, Nat.reduceAdd, Nat.reduceSub, Bool.false_eq_true, if_false, if_true, reduceIte, hs, supd_same, supd_supd, true_and, l1, l2, l3, init_f, List.length_nil]
  exact ⟨by decide, h⟩
theorem ok_over {f : Addr} {fd : FuncData} (F : Fun K "is_over" "Scanner.is_over" s_Scanner_is_over f fd) (T : Txt K mg Sc) : FnOk P w K mg base (L2.CX P w) 1 f fd ["self"] (spG K 1 (gOver Sc)) := by
  refine okG F sc_Scanner_is_over rfl fun cdv A outer s H E hr => ⟨_, ((pds_one (pd_ret (pd_eq (pd_fld T.c_Scanner T.n_Scanner_at (pd_v 0)) (pd_len T.z_len (pda_cons (pd_fld T.c_Scanner T.n_Scanner_text (pd_v 0)) pda_nil)))))), fun ds s Q Z hn h => ?_⟩
  obtain ⟨a, x, i, l, c, rfl, hs, hx, h⟩ := h
  simp only [dRaise, dFrz, frz, dDict, dVals, wipeD, dYes, dSeq, dNext, dIfS, dRet, dRetN, dDrop, dAsg, gN, dIf, dB, dOp, dV, dC, sg, ss, startD, dCB, dCons, dNil, dTup, dLst, dLstC, dCall, dNo, dSome, dSl, dPar, dPar3, dAugN, dNeg, dAndV, dOrV, dNotV, dAnd, dOr, dNot, dFld, dSetF, dAugF, dMeth, dMake, dMakeD, dDGet, dDPut, dBM, dM1, gF, gTupD, gConsD, gNilD, rdInS, rdInT, itemsOf, strsOf, rdIxT, rdIx, rsT, rsL, rsU, rcLen, lenOf, rcInt, rcStr, rcList, rcListC, rcTup, rcAll, rcI2, tyN, rcIsi, isTy, rdAddI, rdSubI, rdMulI, rdModI, rdDivI, rdPowI, rdI, rdI0, rdLt, rdLe, rdGt, rdGe, rdAddS, rdAddL, rdAddT, rdEq, eqS, rdIsN, isNon, rdIsB, isBl, itL, itT, itS, itR1, itR2, itE, itZ, isLC, rbApp, rbPop, rbSplit, insOf, keyD, List.map_cons, List.map_nil, List.cons_append, List.nil_append, List.length_cons, List.length_nil, List.zip_cons_cons, List.zip_nil_left, List.reverse_cons, List.reverse_nil, List.replicate, Option.map_some, Nat.zero_add, Nat.reduceAdd, Nat.reduceSub, Bool.false_eq_true, if_false, if_true, reduceIte, hs, lk_at, lk_text]
  exact ⟨hx.line, h⟩
theorem ok_skip {f : Addr} {fd : FuncData} (F : Fun K "skip" "Scanner.skip" s_Scanner_skip f fd) (T : Txt K mg Sc) : FnOk P w K mg base (L2.CX P w) 1 f fd ["self", "many"] (spG K 2 (gSkip Sc)) := by
  refine okG F sc_Scanner_skip rfl fun cdv A outer s H E hr => ⟨_, ((pds_cons (pd_augF T.c_Scanner T.n_Scanner_at in_add (pd_v 0) (pd_v 1))
      (pds_one (pd_augF T.c_Scanner T.n_Scanner_column in_add (pd_v 0) (pd_v 1))))), fun ds s Q Z hn h => ?_⟩
  obtain ⟨a, x, i, l, c, n, rfl, hs, h⟩ := h
  simp only [dRaise, dFrz, frz, dDict, dVals, wipeD, dYes, dSeq, dNext, dIfS, dRet, dRetN, dDrop, dAsg, gN, dIf, dB, dOp, dV, dC, sg, ss, startD, dCB, dCons, dNil, dTup, dLst, dLstC, dCall, dNo, dSome, dSl, dPar, dPar3, dAugN, dNeg, dAndV, dOrV, dNotV, dAnd, dOr, dNot, dFld, dSetF, dAugF, dMeth, dMake, dMakeD, dDGet, dDPut, dBM, dM1, gF, gTupD, gConsD, gNilD, rdInS, rdInT, itemsOf, strsOf, rdIxT, rdIx, rsT, rsL, rsU, rcLen, lenOf, rcInt, rcStr, rcList, rcListC, rcTup, rcAll, rcI2, tyN, rcIsi, isTy, rdAddI, rdSubI, rdMulI, rdModI, rdDivI, rdPowI, rdI, rdI0, rdLt, rdLe, rdGt, rdGe, rdAddS, rdAddL, rdAddT, rdEq, eqS, rdIsN, isNon, rdIsB, isBl, itL, itT, itS, itR1, itR2, itE, itZ, isLC, rbApp, rbPop, rbSplit, insOf, keyD, List.map_cons, List.map_nil, List.cons_append, List.nil_append, List.length_cons, List.length_nil, List.zip_cons_cons, List.zip_nil_left, List.reverse_cons, List.reverse_nil, List.replicate, Option.map_some, Nat.zero_add, Nat.reduceAdd, Nat.reduceSub, Bool.false_eq_true, if_false, if_true, reduceIte, hs, lk_at, lk_text, lk_column, supd_same, supd_supd, true_and, scF_len, pt_at, pt_column]
  exact h
theorem ok_gap {f : Addr} {fd : FuncData} (F : Fun K "pass_gap" "Scanner.pass_gap" s_Scanner_pass_gap f fd) (T : Txt K mg Sc) (Mt_Scanner_skip : MetOk P w K mg base 1 Sc "skip" 2 (gSkip Sc)) : FnOk P w K mg base (L2.CX P w) 2 f fd ["self"] (spG K 1 (gGap Sc)) := by
  refine okG F sc_Scanner_pass_gap rfl fun cdv A outer s H E hr => ⟨_, ((pds_cons (pd_set (i := 1) sc_Scanner_pass_gap.nd rfl (Or.inl rfl) (pd_ixT (pd_fld T.c_Scanner T.n_Scanner_text (pd_v 0)) (pd_fld T.c_Scanner T.n_Scanner_at (pd_v 0))))
      (pds_cons (pd_ifS (pt_eqD (pd_v 1) pd_str)
      (pds_one (pd_asg (pd_tup (pda_cons (pd_addI (pd_fld T.c_Scanner T.n_Scanner_at (pd_v 0)) pd_int) (pda_cons (pd_addI (pd_fld T.c_Scanner T.n_Scanner_line (pd_v 0)) pd_int) (pda_cons pd_int pda_nil)))) (pdg_tup rfl (pdgs_cons (pdg_fld T.c_Scanner T.n_Scanner_at (pd_v 0)) (pdgs_cons (pdg_fld T.c_Scanner T.n_Scanner_line (pd_v 0)) (pdgs_cons (pdg_fld T.c_Scanner T.n_Scanner_column (pd_v 0)) pdgs_nil))))))
      (pds_one (pd_ifS (pt_eqD (pd_v 1) pd_str)
      (pds_one (pd_expr (pd_meth Mt_Scanner_skip (hr.mono (by decide)) passG (pd_v 0) (pda_cons pd_int pda_nil))))
      (pds_one (pd_ifS (pt_eqD (pd_v 1) pd_str)
      (pds_one (pd_expr (pd_meth Mt_Scanner_skip (hr.mono (by decide)) passG (pd_v 0) (pda_cons (pd_len T.z_len (pda_cons (pd_ixS (pd_split (pd_slT (pd_fld T.c_Scanner T.n_Scanner_text (pd_v 0)) (pdo_some (pd_fld T.c_Scanner T.n_Scanner_at (pd_v 0))) pdo_none) pd_str) pd_int) pda_nil)) pda_nil))))
      pds_nil)))))
      (pds_one (pd_ret (pd_inT (pd_v 1) pd_str)))))), fun ds s Q Z hn h => ?_⟩
  obtain ⟨a, x, k, l, c, ch, r, rfl, hs, hx, hd, q1, q2, q3, q4⟩ := h
  have hat : atI x.cps.toList (k : Int) = some ch := by
    have := drop_at (m := 0) hd rfl
    simpa using this
  have hnl : ("\n" : Str) = ⟨#[10]⟩ := by decide +kernel
  have hsp : (" " : Str) = ⟨#[32]⟩ := by decide +kernel
  have hha : ("#" : Str) = ⟨#[35]⟩ := by decide +kernel
  by_cases h10 : ch = 10
  · have e1 : ((⟨#[ch]⟩ : Str) == "\n") = true := by
      rw [hnl, one_eq, h10]
      rfl
    have e2 : decide (ch ∈ ("\n #" : Str).cps.toList) = true := by
      rw [h10]
      decide +kernel
    simp only [dRaise, dFrz, frz, dDict, dVals, wipeD, dYes, dSeq, dNext, dIfS, dRet, dRetN, dDrop, dAsg, gN, dIf, dB, dOp, dV, dC, sg, ss, startD, dCB, dCons, dNil, dTup, dLst, dLstC, dCall, dNo, dSome, dSl, dPar, dPar3, dAugN, dNeg, dAndV, dOrV, dNotV, dAnd, dOr, dNot, dFld, dSetF, dAugF, dMeth, dMake, dMakeD, dDGet, dDPut, dBM, dM1, gF, gTupD, gConsD, gNilD, rdInS, rdInT, itemsOf, strsOf, rdIxT, rdIx, rsT, rsL, rsU, rcLen, lenOf, rcInt, rcStr, rcList, rcListC, rcTup, rcAll, rcI2, tyN, rcIsi, isTy, rdAddI, rdSubI, rdMulI, rdModI, rdDivI, rdPowI, rdI, rdI0, rdLt, rdLe, rdGt, rdGe, rdAddS, rdAddL, rdAddT, rdEq, eqS, rdIsN, isNon, rdIsB, isBl, itL, itT, itS, itR1, itR2, itE, itZ, isLC, rbApp, rbPop, rbSplit, insOf, keyD, List.map_cons, List.map_nil, List.cons_append, List.nil_append, List.length_cons, List.length_nil, List.zip_cons_cons, List.zip_nil_left, List.reverse_cons, List.reverse_nil, List.replicate, Option.map_some, Nat.zero_add, Nat.reduceAdd, Nat.reduceSub, Bool.false_eq_true, if_false, if_true, reduceIte, hs, lk_at, lk_text, lk_line, lk_column, hat, e1, e2, supd_same, supd_supd, pt_at, pt_line, pt_column, scF_len, true_and]
    refine ⟨hx.line, by decide, rfl, ch, rfl, ?_⟩
    rw [e2]
    exact q1 h10
  · have e1 : ((⟨#[ch]⟩ : Str) == "\n") = false := by
      rw [hnl, one_eq]
      simpa using h10
    by_cases h32 : ch = 32
    · have e3 : ((⟨#[ch]⟩ : Str) == " ") = true := by
        rw [hsp, one_eq, h32]
        rfl
      have e2 : decide (ch ∈ ("\n #" : Str).cps.toList) = true := by
        rw [h32]
        decide +kernel
      simp only [dRaise, dFrz, frz, dDict, dVals, wipeD, dYes, dSeq, dNext, dIfS, dRet, dRetN, dDrop, dAsg, gN, dIf, dB, dOp, dV, dC, sg, ss, startD, dCB, dCons, dNil, dTup, dLst, dLstC, dCall, dNo, dSome, dSl, dPar, dPar3, dAugN, dNeg, dAndV, dOrV, dNotV, dAnd, dOr, dNot, dFld, dSetF, dAugF, dMeth, dMake, dMakeD, dDGet, dDPut, dBM, dM1, gF, gTupD, gConsD, gNilD, rdInS, rdInT, itemsOf, strsOf, rdIxT, rdIx, rsT, rsL, rsU, rcLen, lenOf, rcInt, rcStr, rcList, rcListC, rcTup, rcAll, rcI2, tyN, rcIsi, isTy, rdAddI, rdSubI, rdMulI, rdModI, rdDivI, rdPowI, rdI, rdI0, rdLt, rdLe, rdGt, rdGe, rdAddS, rdAddL, rdAddT, rdEq, eqS, rdIsN, isNon, rdIsB, isBl, itL, itT, itS, itR1, itR2, itE, itZ, isLC, rbApp, rbPop, rbSplit, insOf, keyD, List.map_cons, List.map_nil, List.cons_append, List.nil_append, List.length_cons, List.length_nil, List.zip_cons_cons, List.zip_nil_left, List.reverse_cons, List.reverse_nil, List.replicate, Option.map_some, Nat.zero_add, Nat.reduceAdd, Nat.reduceSub, Bool.false_eq_true, if_false, if_true, reduceIte, hs, lk_at, lk_text, lk_line, lk_column, hat, e1, e2, e3, lk_skip, true_and]
      refine ⟨hx.line, a, x, k, l, c, 1, rfl, hs, ch, rfl, ?_⟩
      rw [e2]
      exact q2 h32
    · have e3 : ((⟨#[ch]⟩ : Str) == " ") = false := by
        rw [hsp, one_eq]
        simpa using h32
      by_cases h35 : ch = 35
      · have e4 : ((⟨#[ch]⟩ : Str) == "#") = true := by
          rw [hha, one_eq, h35]
          rfl
        have e2 : decide (ch ∈ ("\n #" : Str).cps.toList) = true := by
          rw [h35]
          decide +kernel
        obtain ⟨z0, hz⟩ : ∃ z0, (Txt.split (cutS x (some (k : Int)) none) "\n")[0]? = some z0 := by
          have := split_pos (cutS x (some (k : Int)) none) "\n"
          exact ⟨_, List.getElem?_eq_getElem (by omega)⟩
        have hk : k ≤ x.cps.toList.length := by
          have := drop_len hd
          rw [List.length_cons] at this
          omega
        have hcut : (cutS x (some (k : Int)) none).cps.toList = ch :: r := by
          unfold cutS
          rw [HT.sIx_nat, HT.sIx_none]
          have hk' : k ≤ x.length := hk
          rw [Nat.min_eq_left hk']
          show ((x.cps.toList.drop k).take (x.length - k)) = _
          rw [hd, List.take_of_length_le]
          have := drop_len hd
          rw [this]
          exact Nat.le_refl _
        have hlen := split10 _ _ hz
        rw [hcut, h35] at hlen
        have hz2 : atI ((Txt.split (cutS x (some (k : Int)) none) "\n").map D.str) 0 = some (.str z0) := atI_nat (j := 0) (by rw [List.getElem?_map, hz]; rfl)
        have hle : z0.length ≤ x.length + 1 := by
          rw [hlen]
          refine Nat.le_trans ((List.takeWhile_sublist _).length_le) ?_
          rw [← h35, ← hd, List.length_drop]
          show x.cps.toList.length - k ≤ x.cps.toList.length + 1
          omega
        have hcl : (cutS x (some (k : Int)) none).length ≤ x.length := by
          rw [len_cps, hcut, ← hd, List.length_drop]
          show x.cps.toList.length - k ≤ x.cps.toList.length
          omega
        simp only [dRaise, dFrz, frz, dDict, dVals, wipeD, dYes, dSeq, dNext, dIfS, dRet, dRetN, dDrop, dAsg, gN, dIf, dB, dOp, dV, dC, sg, ss, startD, dCB, dCons, dNil, dTup, dLst, dLstC, dCall, dNo, dSome, dSl, dPar, dPar3, dAugN, dNeg, dAndV, dOrV, dNotV, dAnd, dOr, dNot, dFld, dSetF, dAugF, dMeth, dMake, dMakeD, dDGet, dDPut, dBM, dM1, gF, gTupD, gConsD, gNilD, rdInS, rdInT, itemsOf, strsOf, rdIxT, rdIx, rsT, rsL, rsU, rcLen, lenOf, rcInt, rcStr, rcList, rcListC, rcTup, rcAll, rcI2, tyN, rcIsi, isTy, rdAddI, rdSubI, rdMulI, rdModI, rdDivI, rdPowI, rdI, rdI0, rdLt, rdLe, rdGt, rdGe, rdAddS, rdAddL, rdAddT, rdEq, eqS, rdIsN, isNon, rdIsB, isBl, itL, itT, itS, itR1, itR2, itE, itZ, isLC, rbApp, rbPop, rbSplit, insOf, keyD, List.map_cons, List.map_nil, List.cons_append, List.nil_append, List.length_cons, List.length_nil, List.zip_cons_cons, List.zip_nil_left, List.reverse_cons, List.reverse_nil, List.replicate, Option.map_some, Nat.zero_add, Nat.reduceAdd, Nat.reduceSub, Bool.false_eq_true, if_false, if_true, reduceIte, hs, lk_at, lk_text, lk_line, lk_column, hat, e1, e2, e3, e4, lk_skip, true_and, hz2]
        have hx' : x.length ≤ 100000 := hx
        refine ⟨hx.line, hx.line, rfl, Nat.le_trans (Nat.add_le_add_right hcl 2) (Nat.le_trans (Nat.add_le_add_right hx' 2) (by decide)), Nat.le_trans hle (Nat.le_trans (Nat.add_le_add_right hx' 1) (by decide)), a, x, k, l, c, _, rfl, hs, ch, rfl, ?_⟩
        have := q3 h35 _ rfl
        rw [hlen, e2]
        exact this
      · have e4 : ((⟨#[ch]⟩ : Str) == "#") = false := by
          rw [hha, one_eq]
          simpa using h35
        have e2 : decide (ch ∈ ("\n #" : Str).cps.toList) = false := by
          rw [decide_eq_false_iff_not, show ("\n #" : Str).cps.toList = [10, 32, 35] from by decide +kernel]
          simp [h10, h32, h35]
        simp only [dRaise, dFrz, frz, dDict, dVals, wipeD, dYes, dSeq, dNext, dIfS, dRet, dRetN, dDrop, dAsg, gN, dIf, dB, dOp, dV, dC, sg, ss, startD, dCB, dCons, dNil, dTup, dLst, dLstC, dCall, dNo, dSome, dSl, dPar, dPar3, dAugN, dNeg, dAndV, dOrV, dNotV, dAnd, dOr, dNot, dFld, dSetF, dAugF, dMeth, dMake, dMakeD, dDGet, dDPut, dBM, dM1, gF, gTupD, gConsD, gNilD, rdInS, rdInT, itemsOf, strsOf, rdIxT, rdIx, rsT, rsL, rsU, rcLen, lenOf, rcInt, rcStr, rcList, rcListC, rcTup, rcAll, rcI2, tyN, rcIsi, isTy, rdAddI, rdSubI, rdMulI, rdModI, rdDivI, rdPowI, rdI, rdI0, rdLt, rdLe, rdGt, rdGe, rdAddS, rdAddL, rdAddT, rdEq, eqS, rdIsN, isNon, rdIsB, isBl, itL, itT, itS, itR1, itR2, itE, itZ, isLC, rbApp, rbPop, rbSplit, insOf, keyD, List.map_cons, List.map_nil, List.cons_append, List.nil_append, List.length_cons, List.length_nil, List.zip_cons_cons, List.zip_nil_left, List.reverse_cons, List.reverse_nil, List.replicate, Option.map_some, Nat.zero_add, Nat.reduceAdd, Nat.reduceSub, Bool.false_eq_true, if_false, if_true, reduceIte, hs, lk_at, lk_text, lk_line, lk_column, hat, e1, e2, e3, e4, true_and]
        refine ⟨hx.line, ch, rfl, ?_⟩
        rw [e2]
        exact q4 h10 h32 h35
theorem ok_token {f : Addr} {fd : FuncData} (F : Fun K "token" "Scanner.token" s_Scanner_token f fd) (T : Txt K mg Sc) (Mt_Scanner_skip : MetOk P w K mg base 1 Sc "skip" 2 (gSkip Sc)) (D_is_run_sign : DefOk P w K mg base 1 "is_run_sign" 1 gRunSign) (D_kind_of : DefOk P w K mg base 2 "kind_of" 1 gKind) (R_Misread : RaiseOk P w K mg base "Misread" Mi "line" "column") : FnOk P w K mg base (L2.CX P w) 3 f fd ["self"] (spG K 1 (gTok Sc Mi)) := by
  refine okG F sc_Scanner_token rfl fun cdv A outer s H E hr => ⟨_, ((pds_cons (pd_par (i := 1) (j := 2) rfl sc_Scanner_token.nd rfl rfl (by decide) rfl rfl (pda_cons (pd_tup (pda_cons (pd_fld T.c_Scanner T.n_Scanner_line (pd_v 0)) (pda_cons (pd_fld T.c_Scanner T.n_Scanner_column (pd_v 0)) pda_nil))) (pda_cons pd_int pda_nil)) (by rfl))
      (pds_cons (pd_while passOwnG (PDW.t (pdw_and (pt_ltD (pd_addI (pd_fld T.c_Scanner T.n_Scanner_at (pd_v 0)) (pd_v 2)) (pd_len T.z_len (pda_cons (pd_fld T.c_Scanner T.n_Scanner_text (pd_v 0)) pda_nil))) (pdw_and1 (pd_valT (pd_call D_is_run_sign (hr.mono (by decide)) passG (pda_cons (pd_ixT (pd_fld T.c_Scanner T.n_Scanner_text (pd_v 0)) (pd_addI (pd_fld T.c_Scanner T.n_Scanner_at (pd_v 0)) (pd_v 2))) pda_nil))))))
      (pds_one (pd_aug_add (i := 2) sc_Scanner_token.nd rfl (Or.inl rfl) pd_int)))
      (pds_cons (pd_set (i := 3) sc_Scanner_token.nd rfl (Or.inl rfl) (pd_slT (pd_fld T.c_Scanner T.n_Scanner_text (pd_v 0)) (pdo_some (pd_fld T.c_Scanner T.n_Scanner_at (pd_v 0))) (pdo_some (pd_addI (pd_fld T.c_Scanner T.n_Scanner_at (pd_v 0)) (pd_max2 rfl T.z_max (pda_cons pd_int (pda_cons (pd_v 2) pda_nil)))))))
      (pds_cons (pd_set (i := 4) sc_Scanner_token.nd rfl (Or.inl rfl) (pd_if (pt_gtD (pd_v 2) pd_int) (pd_call D_kind_of (hr.mono (by decide)) passG (pda_cons (pd_v 3) pda_nil)) (pd_if (pt_inS (pd_v 3) T.k_SIGNS) pd_str pd_non)))
      (pds_cons (pd_ifS (pt_isN (pd_v 4) pd_non)
      (pds_one (pd_raise2 R_Misread (hr.mono (by decide)) takesG (pda_cons (pd_fld T.c_Scanner T.n_Scanner_line (pd_v 0)) (pda_cons (pd_fld T.c_Scanner T.n_Scanner_column (pd_v 0)) pda_nil))))
      pds_nil)
      (pds_cons (pd_expr (pd_meth Mt_Scanner_skip (hr.mono (by decide)) passG (pd_v 0) (pda_cons (pd_len T.z_len (pda_cons (pd_v 3) pda_nil)) pda_nil)))
      (pds_one (pd_ret (pd_tup (pda_cons (pd_v 4) (pda_cons (pd_v 3) (pda_cons (pd_v 1) pda_nil))))))))))))), fun ds s Q Z hn h => ?_⟩
  obtain ⟨a, x, k, l, c, ch, r, rfl, hs, hx, hd, q1, q2⟩ := h
  have hat : atI x.cps.toList (k : Int) = some ch := by
    have := drop_at (m := 0) hd rfl
    simpa using this
  obtain ⟨m0, hm0⟩ : ∃ m0, m0 = ((ch :: r).takeWhile isRun).length := ⟨_, rfl⟩
  have hpre : ∀ (n : Nat) (c' : Nat), ((ch :: r).takeWhile isRun)[n]? = some c' → (ch :: r)[n]? = some c' ∧ isRun c' = true := by
    intro n c' e
    have h1 : ((ch :: r).takeWhile isRun) <+: (ch :: r) := List.takeWhile_prefix _
    obtain ⟨t, ht⟩ := h1
    have h2 : ((ch :: r).takeWhile isRun ++ t)[n]? = some c' := by
      rw [List.getElem?_append_left (by rw [List.getElem?_eq_some_iff] at e; exact e.1)]
      exact e
    rw [ht] at h2
    refine ⟨h2, ?_⟩
    exact of_takeWhile (List.mem_of_getElem? e)
  have hend : ∀ c' : Nat, (ch :: r)[m0]? = some c' → isRun c' = false := by
    intro c' e
    rw [hm0] at e
    exact takeWhile_end _ _ e
  have hlenr := drop_len hd
  rw [← len_cps] at hlenr
  simp only [dRaise, dFrz, frz, dDict, dVals, wipeD, dYes, dSeq, dNext, dIfS, dRet, dRetN, dDrop, dAsg, gN, dIf, dB, dOp, dV, dC, sg, ss, startD, dCB, dCons, dNil, dTup, dLst, dLstC, dCall, dNo, dSome, dSl, dPar, dPar3, dAugN, dNeg, dAndV, dOrV, dNotV, dAnd, dOr, dNot, dFld, dSetF, dAugF, dMeth, dMake, dMakeD, dDGet, dDPut, dBM, dM1, gF, gTupD, gConsD, gNilD, rdInS, rdInT, itemsOf, strsOf, rdIxT, rdIx, rsT, rsL, rsU, rcLen, lenOf, rcInt, rcStr, rcList, rcListC, rcTup, rcAll, rcI2, tyN, rcIsi, isTy, rdAddI, rdSubI, rdMulI, rdModI, rdDivI, rdPowI, rdI, rdI0, rdLt, rdLe, rdGt, rdGe, rdAddS, rdAddL, rdAddT, rdEq, eqS, rdIsN, isNon, rdIsB, isBl, itL, itT, itS, itR1, itR2, itE, itZ, isLC, rbApp, rbPop, rbSplit, insOf, keyD, List.map_cons, List.map_nil, List.cons_append, List.nil_append, List.length_cons, List.length_nil, List.zip_cons_cons, List.zip_nil_left, List.reverse_cons, List.reverse_nil, List.replicate, Option.map_some, Nat.zero_add, Nat.reduceAdd, Nat.reduceSub, Bool.false_eq_true, if_false, if_true, reduceIte, hs, lk_at, lk_text, lk_line, lk_column]
  refine ⟨by decide, fun m ρ s' => ∃ n : Nat, n + m = m0 ∧ ρ = [some (.ref a), some (.tup [.int l, .int c]), some (.int n), none, none] ∧ s' = s, ⟨m0, 0, by omega, rfl, rfl⟩, ?_⟩
  rintro m ρ1 s1 ⟨n, hnm, hρ1, hs1⟩
  subst ρ1
  subst s1
  by_cases hmz : m = 0
  · have hn0 : n = m0 := by omega
    subst hn0
    have hcond : ∀ (Q : Bool → Sto → Prop) (Z : XC), Q false s → dAnd (dB (dOp rdLt (dOp rdAddI (dFld Sc "at" (dV 0)) (dV 2)) (dCB rcLen (dCons (dFld Sc "text" (dV 0)) dNil)))) (dB (dCall 1 gRunSign (dCons (dOp rdIxT (dFld Sc "text" (dV 0)) (dOp rdAddI (dFld Sc "at" (dV 0)) (dV 2))) dNil))) [some (.ref a), some (.tup [.int l, .int c]), some (.int n), none, none] s Q Z := by
      intro Q Z q
      by_cases hlt : (k : Int) + (n : Int) < (x.length : Int)
      · have hl2 : n < (ch :: r).length := by omega
        have hc' := List.getElem?_eq_getElem hl2
        have e2 := hend _ hc'
        have e1 : decide ((k : Int) + (n : Int) < (x.length : Int)) = true := decide_eq_true hlt
        simp only [dRaise, dFrz, frz, dDict, dVals, wipeD, dYes, dSeq, dNext, dIfS, dRet, dRetN, dDrop, dAsg, gN, dIf, dB, dOp, dV, dC, sg, ss, startD, dCB, dCons, dNil, dTup, dLst, dLstC, dCall, dNo, dSome, dSl, dPar, dPar3, dAugN, dNeg, dAndV, dOrV, dNotV, dAnd, dOr, dNot, dFld, dSetF, dAugF, dMeth, dMake, dMakeD, dDGet, dDPut, dBM, dM1, gF, gTupD, gConsD, gNilD, rdInS, rdInT, itemsOf, strsOf, rdIxT, rdIx, rsT, rsL, rsU, rcLen, lenOf, rcInt, rcStr, rcList, rcListC, rcTup, rcAll, rcI2, tyN, rcIsi, isTy, rdAddI, rdSubI, rdMulI, rdModI, rdDivI, rdPowI, rdI, rdI0, rdLt, rdLe, rdGt, rdGe, rdAddS, rdAddL, rdAddT, rdEq, eqS, rdIsN, isNon, rdIsB, isBl, itL, itT, itS, itR1, itR2, itE, itZ, isLC, rbApp, rbPop, rbSplit, insOf, keyD, List.map_cons, List.map_nil, List.cons_append, List.nil_append, List.length_cons, List.length_nil, List.zip_cons_cons, List.zip_nil_left, List.reverse_cons, List.reverse_nil, List.replicate, Option.map_some, Nat.zero_add, Nat.reduceAdd, Nat.reduceSub, Bool.false_eq_true, if_false, if_true, reduceIte, hs, lk_at, lk_text, lk_line, lk_column, e1, drop_at hd hc']
        refine ⟨hx.line, hx.line, trivial, _, rfl, ?_⟩
        rw [e2]
        exact q
      · have e1 : decide ((k : Int) + (n : Int) < (x.length : Int)) = false := decide_eq_false hlt
        simp only [dRaise, dFrz, frz, dDict, dVals, wipeD, dYes, dSeq, dNext, dIfS, dRet, dRetN, dDrop, dAsg, gN, dIf, dB, dOp, dV, dC, sg, ss, startD, dCB, dCons, dNil, dTup, dLst, dLstC, dCall, dNo, dSome, dSl, dPar, dPar3, dAugN, dNeg, dAndV, dOrV, dNotV, dAnd, dOr, dNot, dFld, dSetF, dAugF, dMeth, dMake, dMakeD, dDGet, dDPut, dBM, dM1, gF, gTupD, gConsD, gNilD, rdInS, rdInT, itemsOf, strsOf, rdIxT, rdIx, rsT, rsL, rsU, rcLen, lenOf, rcInt, rcStr, rcList, rcListC, rcTup, rcAll, rcI2, tyN, rcIsi, isTy, rdAddI, rdSubI, rdMulI, rdModI, rdDivI, rdPowI, rdI, rdI0, rdLt, rdLe, rdGt, rdGe, rdAddS, rdAddL, rdAddT, rdEq, eqS, rdIsN, isNon, rdIsB, isBl, itL, itT, itS, itR1, itR2, itE, itZ, isLC, rbApp, rbPop, rbSplit, insOf, keyD, List.map_cons, List.map_nil, List.cons_append, List.nil_append, List.length_cons, List.length_nil, List.zip_cons_cons, List.zip_nil_left, List.reverse_cons, List.reverse_nil, List.replicate, Option.map_some, Nat.zero_add, Nat.reduceAdd, Nat.reduceSub, Bool.false_eq_true, if_false, if_true, reduceIte, hs, lk_at, lk_text, lk_line, lk_column, e1]
        exact ⟨hx.line, q⟩
    refine hcond _ _ ?_
    cases hr0 : isRun ch with
    | true =>
      have em : n = (r.takeWhile isRun).length + 1 := by
        rw [hm0, List.takeWhile_cons, hr0]
        rfl
      have ew : cutS x (some (k : Int)) (some ((k : Int) + if (n : Int) > 1 then (n : Int) else 1)) = mkS (ch :: r.takeWhile isRun) := by
        rw [show ((k : Int) + if (n : Int) > 1 then (n : Int) else 1) = ((k + n : Nat) : Int) by split <;> omega, cut_take hd (by rw [hm0]; exact (List.takeWhile_sublist _).length_le), em]
        show mkS (ch :: r.take _) = _
        rw [take_takeWhile]
      have e0 : decide ((0 : Int) < (n : Int)) = true := decide_eq_true (by omega)
      obtain ⟨wd, hwd⟩ : ∃ wd, wd = mkS (ch :: r.takeWhile isRun) := ⟨_, rfl⟩
      have hwl : wd.length = n := by
        rw [hwd, em]
        rfl
      have hwn : wd.length ≤ 100000 := by
        have h1 : n ≤ (ch :: r).length := by
          rw [hm0]
          exact (List.takeWhile_sublist _).length_le
        have h2 : x.length ≤ 100000 := hx
        omega
      have q := q1 hr0 _ rfl
      rw [← hwd] at ew q
      simp only [dRaise, dFrz, frz, dDict, dVals, wipeD, dYes, dSeq, dNext, dIfS, dRet, dRetN, dDrop, dAsg, gN, dIf, dB, dOp, dV, dC, sg, ss, startD, dCB, dCons, dNil, dTup, dLst, dLstC, dCall, dNo, dSome, dSl, dPar, dPar3, dAugN, dNeg, dAndV, dOrV, dNotV, dAnd, dOr, dNot, dFld, dSetF, dAugF, dMeth, dMake, dMakeD, dDGet, dDPut, dBM, dM1, gF, gTupD, gConsD, gNilD, rdInS, rdInT, itemsOf, strsOf, rdIxT, rdIx, rsT, rsL, rsU, rcLen, lenOf, rcInt, rcStr, rcList, rcListC, rcTup, rcAll, rcI2, tyN, rcIsi, isTy, rdAddI, rdSubI, rdMulI, rdModI, rdDivI, rdPowI, rdI, rdI0, rdLt, rdLe, rdGt, rdGe, rdAddS, rdAddL, rdAddT, rdEq, eqS, rdIsN, isNon, rdIsB, isBl, itL, itT, itS, itR1, itR2, itE, itZ, isLC, rbApp, rbPop, rbSplit, insOf, keyD, List.map_cons, List.map_nil, List.cons_append, List.nil_append, List.length_cons, List.length_nil, List.zip_cons_cons, List.zip_nil_left, List.reverse_cons, List.reverse_nil, List.replicate, Option.map_some, Nat.zero_add, Nat.reduceAdd, Nat.reduceSub, Bool.false_eq_true, if_false, if_true, reduceIte, hs, lk_at, lk_text, lk_line, lk_column, ew, e0]
      refine ⟨hx.line, trivial, wd, rfl, by omega, hwn, ?_⟩
      have key : kindD wd = .non ∨ ∃ kd, kindD wd = .str kd := by
        unfold kindD
        split
        · exact .inr ⟨_, rfl⟩
        · split
          · split
            · exact .inr ⟨_, rfl⟩
            · exact .inl rfl
          · split
            · exact .inr ⟨_, rfl⟩
            · exact .inl rfl
      rcases key with hk | ⟨kd, hk⟩
      · rw [hk]
        simp only [dRaise, dFrz, frz, dDict, dVals, wipeD, dYes, dSeq, dNext, dIfS, dRet, dRetN, dDrop, dAsg, gN, dIf, dB, dOp, dV, dC, sg, ss, startD, dCB, dCons, dNil, dTup, dLst, dLstC, dCall, dNo, dSome, dSl, dPar, dPar3, dAugN, dNeg, dAndV, dOrV, dNotV, dAnd, dOr, dNot, dFld, dSetF, dAugF, dMeth, dMake, dMakeD, dDGet, dDPut, dBM, dM1, gF, gTupD, gConsD, gNilD, rdInS, rdInT, itemsOf, strsOf, rdIxT, rdIx, rsT, rsL, rsU, rcLen, lenOf, rcInt, rcStr, rcList, rcListC, rcTup, rcAll, rcI2, tyN, rcIsi, isTy, rdAddI, rdSubI, rdMulI, rdModI, rdDivI, rdPowI, rdI, rdI0, rdLt, rdLe, rdGt, rdGe, rdAddS, rdAddL, rdAddT, rdEq, eqS, rdIsN, isNon, rdIsB, isBl, itL, itT, itS, itR1, itR2, itE, itZ, isLC, rbApp, rbPop, rbSplit, insOf, keyD, List.map_cons, List.map_nil, List.cons_append, List.nil_append, List.length_cons, List.length_nil, List.zip_cons_cons, List.zip_nil_left, List.reverse_cons, List.reverse_nil, List.replicate, Option.map_some, Nat.zero_add, Nat.reduceAdd, Nat.reduceSub, Bool.false_eq_true, if_false, if_true, reduceIte, hs, lk_at, lk_text, lk_line, lk_column]
        exact ⟨trivial, q.2 hk⟩
      · rw [hk]
        simp only [dRaise, dFrz, frz, dDict, dVals, wipeD, dYes, dSeq, dNext, dIfS, dRet, dRetN, dDrop, dAsg, gN, dIf, dB, dOp, dV, dC, sg, ss, startD, dCB, dCons, dNil, dTup, dLst, dLstC, dCall, dNo, dSome, dSl, dPar, dPar3, dAugN, dNeg, dAndV, dOrV, dNotV, dAnd, dOr, dNot, dFld, dSetF, dAugF, dMeth, dMake, dMakeD, dDGet, dDPut, dBM, dM1, gF, gTupD, gConsD, gNilD, rdInS, rdInT, itemsOf, strsOf, rdIxT, rdIx, rsT, rsL, rsU, rcLen, lenOf, rcInt, rcStr, rcList, rcListC, rcTup, rcAll, rcI2, tyN, rcIsi, isTy, rdAddI, rdSubI, rdMulI, rdModI, rdDivI, rdPowI, rdI, rdI0, rdLt, rdLe, rdGt, rdGe, rdAddS, rdAddL, rdAddT, rdEq, eqS, rdIsN, isNon, rdIsB, isBl, itL, itT, itS, itR1, itR2, itE, itZ, isLC, rbApp, rbPop, rbSplit, insOf, keyD, List.map_cons, List.map_nil, List.cons_append, List.nil_append, List.length_cons, List.length_nil, List.zip_cons_cons, List.zip_nil_left, List.reverse_cons, List.reverse_nil, List.replicate, Option.map_some, Nat.zero_add, Nat.reduceAdd, Nat.reduceSub, Bool.false_eq_true, if_false, if_true, reduceIte, hs, lk_at, lk_text, lk_line, lk_column, lk_skip]
        refine ⟨trivial, Nat.le_trans hwn (by decide), trivial, a, x, k, l, c, _, rfl, hs, by decide, ?_⟩
        have q' := q.1 kd hk
        rw [show (ch :: r.takeWhile isRun).length = wd.length by rw [hwl, em]; rfl] at q'
        exact q'
    | false =>
      have em : n = 0 := by
        rw [hm0, List.takeWhile_cons, hr0]
        rfl
      have ew : cutS x (some (k : Int)) (some ((k : Int) + if (n : Int) > 1 then (n : Int) else 1)) = mkS [ch] := by
        rw [show ((k : Int) + if (n : Int) > 1 then (n : Int) else 1) = ((k + 1 : Nat) : Int) by split <;> omega, cut_take hd (by rw [List.length_cons]; omega)]
        rfl
      have e0 : decide ((0 : Int) < (n : Int)) = false := decide_eq_false (by omega)
      have q := q2 hr0
      cases hk : signsL.contains (mkS [ch]) with
      | true =>
        have hk' := hk
        unfold signsL at hk'
        simp only [dRaise, dFrz, frz, dDict, dVals, wipeD, dYes, dSeq, dNext, dIfS, dRet, dRetN, dDrop, dAsg, gN, dIf, dB, dOp, dV, dC, sg, ss, startD, dCB, dCons, dNil, dTup, dLst, dLstC, dCall, dNo, dSome, dSl, dPar, dPar3, dAugN, dNeg, dAndV, dOrV, dNotV, dAnd, dOr, dNot, dFld, dSetF, dAugF, dMeth, dMake, dMakeD, dDGet, dDPut, dBM, dM1, gF, gTupD, gConsD, gNilD, rdInS, rdInT, itemsOf, strsOf, rdIxT, rdIx, rsT, rsL, rsU, rcLen, lenOf, rcInt, rcStr, rcList, rcListC, rcTup, rcAll, rcI2, tyN, rcIsi, isTy, rdAddI, rdSubI, rdMulI, rdModI, rdDivI, rdPowI, rdI, rdI0, rdLt, rdLe, rdGt, rdGe, rdAddS, rdAddL, rdAddT, rdEq, eqS, rdIsN, isNon, rdIsB, isBl, itL, itT, itS, itR1, itR2, itE, itZ, isLC, rbApp, rbPop, rbSplit, insOf, keyD, List.map_cons, List.map_nil, List.cons_append, List.nil_append, List.length_cons, List.length_nil, List.zip_cons_cons, List.zip_nil_left, List.reverse_cons, List.reverse_nil, List.replicate, Option.map_some, Nat.zero_add, Nat.reduceAdd, Nat.reduceSub, Bool.false_eq_true, if_false, if_true, reduceIte, hs, lk_at, lk_text, lk_line, lk_column, lk_skip, ew, e0, hk']
        exact ⟨hx.line, trivial, (show 1 ≤ sizeLine by decide), trivial, a, x, k, l, c, _, rfl, hs, by decide, q.1 hk⟩
      | false =>
        have hk' := hk
        unfold signsL at hk'
        simp only [dRaise, dFrz, frz, dDict, dVals, wipeD, dYes, dSeq, dNext, dIfS, dRet, dRetN, dDrop, dAsg, gN, dIf, dB, dOp, dV, dC, sg, ss, startD, dCB, dCons, dNil, dTup, dLst, dLstC, dCall, dNo, dSome, dSl, dPar, dPar3, dAugN, dNeg, dAndV, dOrV, dNotV, dAnd, dOr, dNot, dFld, dSetF, dAugF, dMeth, dMake, dMakeD, dDGet, dDPut, dBM, dM1, gF, gTupD, gConsD, gNilD, rdInS, rdInT, itemsOf, strsOf, rdIxT, rdIx, rsT, rsL, rsU, rcLen, lenOf, rcInt, rcStr, rcList, rcListC, rcTup, rcAll, rcI2, tyN, rcIsi, isTy, rdAddI, rdSubI, rdMulI, rdModI, rdDivI, rdPowI, rdI, rdI0, rdLt, rdLe, rdGt, rdGe, rdAddS, rdAddL, rdAddT, rdEq, eqS, rdIsN, isNon, rdIsB, isBl, itL, itT, itS, itR1, itR2, itE, itZ, isLC, rbApp, rbPop, rbSplit, insOf, keyD, List.map_cons, List.map_nil, List.cons_append, List.nil_append, List.length_cons, List.length_nil, List.zip_cons_cons, List.zip_nil_left, List.reverse_cons, List.reverse_nil, List.replicate, Option.map_some, Nat.zero_add, Nat.reduceAdd, Nat.reduceSub, Bool.false_eq_true, if_false, if_true, reduceIte, hs, lk_at, lk_text, lk_line, lk_column, lk_skip, ew, e0, hk']
        exact ⟨hx.line, trivial, q.2 hk⟩
  · obtain ⟨c', hc'⟩ : ∃ c', ((ch :: r).takeWhile isRun)[n]? = some c' := ⟨_, List.getElem?_eq_getElem (by omega)⟩
    have hc := hpre n c' hc'
    have hlt : n < (ch :: r).length := by
      have := hc.1
      rw [List.getElem?_eq_some_iff] at this
      exact this.1
    have e1 : decide ((k : Int) + (n : Int) < (x.length : Int)) = true := by
      rw [decide_eq_true_iff]
      omega
    simp only [dRaise, dFrz, frz, dDict, dVals, wipeD, dYes, dSeq, dNext, dIfS, dRet, dRetN, dDrop, dAsg, gN, dIf, dB, dOp, dV, dC, sg, ss, startD, dCB, dCons, dNil, dTup, dLst, dLstC, dCall, dNo, dSome, dSl, dPar, dPar3, dAugN, dNeg, dAndV, dOrV, dNotV, dAnd, dOr, dNot, dFld, dSetF, dAugF, dMeth, dMake, dMakeD, dDGet, dDPut, dBM, dM1, gF, gTupD, gConsD, gNilD, rdInS, rdInT, itemsOf, strsOf, rdIxT, rdIx, rsT, rsL, rsU, rcLen, lenOf, rcInt, rcStr, rcList, rcListC, rcTup, rcAll, rcI2, tyN, rcIsi, isTy, rdAddI, rdSubI, rdMulI, rdModI, rdDivI, rdPowI, rdI, rdI0, rdLt, rdLe, rdGt, rdGe, rdAddS, rdAddL, rdAddT, rdEq, eqS, rdIsN, isNon, rdIsB, isBl, itL, itT, itS, itR1, itR2, itE, itZ, isLC, rbApp, rbPop, rbSplit, insOf, keyD, List.map_cons, List.map_nil, List.cons_append, List.nil_append, List.length_cons, List.length_nil, List.zip_cons_cons, List.zip_nil_left, List.reverse_cons, List.reverse_nil, List.replicate, Option.map_some, Nat.zero_add, Nat.reduceAdd, Nat.reduceSub, Bool.false_eq_true, if_false, if_true, reduceIte, hs, lk_at, lk_text, lk_line, lk_column, e1, drop_at hd hc.1]
    refine ⟨hx.line, hx.line, trivial, c', rfl, ?_⟩
    rw [hc.2]
    refine ⟨m - 1, by omega, n + 1, by omega, rfl, rfl⟩
end
end K34

/-! K34d: tokens. -/
namespace K34
open PySem PySem.Spec PyProof.Rows L2 G

def endRow (l c : Int) : D := .tup [.str "end", .str "", .tup [.int l, .int c]]
def rowD (kd : Str) (w : List Nat) (l c : Int) : D := .tup [.str kd, .str (mkS w), .tup [.int l, .int c]]
/-- what the scanner finds in signs: its rows, and where it stops on what it cannot read -/
inductive Tk : List Nat → Int → Int → List D → Option (Int × Int) → Prop
  | nil {l c : Int} : Tk [] l c [endRow l c] none
  | nl {r : List Nat} {l c : Int} {rows : List D} {b : Option (Int × Int)} : Tk r (l + 1) 1 rows b → Tk (10 :: r) l c rows b
  | sp {r : List Nat} {l c : Int} {rows : List D} {b : Option (Int × Int)} : Tk r l (c + 1) rows b → Tk (32 :: r) l c rows b
  | hash {r : List Nat} {l c : Int} {rows : List D} {b : Option (Int × Int)} {n : Nat} : n = (r.takeWhile (· != 10)).length → Tk (r.drop n) l (c + (n + 1 : Nat)) rows b → Tk (35 :: r) l c rows b
  | run {ch : Nat} {r w : List Nat} {l c : Int} {rows : List D} {b : Option (Int × Int)} {kd : Str} : isRun ch = true → w = ch :: r.takeWhile isRun → kindD (mkS w) = .str kd → Tk ((ch :: r).drop w.length) l (c + (w.length : Nat)) rows b → Tk (ch :: r) l c (rowD kd w l c :: rows) b
  | runB {ch : Nat} {r w : List Nat} {l c : Int} : isRun ch = true → w = ch :: r.takeWhile isRun → kindD (mkS w) = .non → Tk (ch :: r) l c [] (some (l, c))
  | sign {ch : Nat} {r : List Nat} {l c : Int} {rows : List D} {b : Option (Int × Int)} : isRun ch = false → ch ≠ 10 → ch ≠ 32 → ch ≠ 35 → signsL.contains (mkS [ch]) = true → Tk r l (c + 1) rows b → Tk (ch :: r) l c (rowD "sign" [ch] l c :: rows) b
  | signB {ch : Nat} {r : List Nat} {l c : Int} : isRun ch = false → ch ≠ 10 → ch ≠ 32 → ch ≠ 35 → signsL.contains (mkS [ch]) = false → Tk (ch :: r) l c [] (some (l, c))
theorem run10 : isRun 10 = false := by decide +kernel
theorem run32 : isRun 32 = false := by decide +kernel
theorem run35 : isRun 35 = false := by decide +kernel
theorem not_run {P : Prop} {c : Nat} (h : isRun c = true) (k : isRun c = false) : P := by
  rw [h] at k
  cases k
theorem Tk.inv10 {r : List Nat} {l c : Int} {rows : List D} {b : Option (Int × Int)} (h : Tk (10 :: r) l c rows b) : Tk r (l + 1) 1 rows b := by
  cases h with
  | nl h => exact h
  | run h _ _ _ => exact not_run h run10
  | runB h _ _ => exact not_run h run10
  | sign _ h _ _ _ _ => exact absurd rfl h
  | signB _ h _ _ _ => exact absurd rfl h
theorem Tk.inv32 {r : List Nat} {l c : Int} {rows : List D} {b : Option (Int × Int)} (h : Tk (32 :: r) l c rows b) : Tk r l (c + 1) rows b := by
  cases h with
  | sp h => exact h
  | run h _ _ _ => exact not_run h run32
  | runB h _ _ => exact not_run h run32
  | sign _ _ h _ _ _ => exact absurd rfl h
  | signB _ _ h _ _ => exact absurd rfl h
theorem Tk.inv35 {r : List Nat} {l c : Int} {rows : List D} {b : Option (Int × Int)} {n : Nat} (hn : n = (r.takeWhile (· != 10)).length) (h : Tk (35 :: r) l c rows b) : Tk (r.drop n) l (c + (n + 1 : Nat)) rows b := by
  cases h with
  | hash e h =>
    rw [hn, ← e]
    exact h
  | run h _ _ _ => exact not_run h run35
  | runB h _ _ => exact not_run h run35
  | sign _ _ _ h _ _ => exact absurd rfl h
  | signB _ _ _ h _ => exact absurd rfl h
theorem Tk.invR {ch : Nat} {r : List Nat} {l c : Int} {rows : List D} {b : Option (Int × Int)} (hr : isRun ch = true) (h : Tk (ch :: r) l c rows b) :
    (∃ kd rows', kindD (mkS (ch :: r.takeWhile isRun)) = .str kd ∧ Tk ((ch :: r).drop (ch :: r.takeWhile isRun).length) l (c + ((ch :: r.takeWhile isRun).length : Nat)) rows' b ∧ rows = rowD kd (ch :: r.takeWhile isRun) l c :: rows') ∨ (kindD (mkS (ch :: r.takeWhile isRun)) = .non ∧ rows = [] ∧ b = some (l, c)) := by
  cases h with
  | nl _ => exact not_run hr run10
  | sp _ => exact not_run hr run32
  | hash _ _ => exact not_run hr run35
  | run _ e k t =>
    subst e
    exact .inl ⟨_, _, k, t, rfl⟩
  | runB _ e k =>
    subst e
    exact .inr ⟨k, rfl, rfl⟩
  | sign h _ _ _ _ _ => exact not_run hr h
  | signB h _ _ _ _ => exact not_run hr h
theorem Tk.invS {ch : Nat} {r : List Nat} {l c : Int} {rows : List D} {b : Option (Int × Int)} (hr : isRun ch = false) (h1 : ch ≠ 10) (h2 : ch ≠ 32) (h3 : ch ≠ 35) (h : Tk (ch :: r) l c rows b) :
    (∃ rows', signsL.contains (mkS [ch]) = true ∧ Tk r l (c + 1) rows' b ∧ rows = rowD "sign" [ch] l c :: rows') ∨ (signsL.contains (mkS [ch]) = false ∧ rows = [] ∧ b = some (l, c)) := by
  cases h with
  | nl _ => exact absurd rfl h1
  | sp _ => exact absurd rfl h2
  | hash _ _ => exact absurd rfl h3
  | run h _ _ _ => exact not_run h hr
  | runB h _ _ => exact not_run h hr
  | sign _ _ _ _ k t => exact .inl ⟨_, k, t, rfl⟩
  | signB _ _ _ _ k => exact .inr ⟨k, rfl, rfl⟩
/-- no cell is lost or changed -/
def Keeps (s s' : Sto) : Prop := (∀ b c, s b = some c → s' b = some c) ∧ ∀ b q, s' b = some (.tab q) → s b = some (.tab q)
def errD (l c : Int) : List (Str × D) := [("column", .int c), ("line", .int l)]
def gTokens (Mi : Addr) : DF := fun ds s Q Z => (∃ x rows b, ds = [.str x] ∧ Sh x ∧ Tk x.cps.toList 1 1 rows b ∧ (b = none → Q (.tup rows) s) ∧ (∀ l c, b = some (l, c) → ∀ s', Keeps s s' → Z Mi (errD l c) s')) ∨
  (∃ d, ds = [d] ∧ (d = .non ∨ (∃ i, d = .int i) ∨ ∃ l, d = .lst l) ∧ Z Mi (errD 0 0) s)
theorem mo_Tokens (Mi : Addr) : MoF (gTokens Mi) := fun _ _ _ _ _ _ h z q => by
  rcases q with ⟨x, rows, b, e, e2, e3, q1, q2⟩ | ⟨d, e, e2, q⟩
  · exact .inl ⟨x, rows, b, e, e2, e3, fun y => h _ _ (q1 y), fun l c y s' k => z _ _ _ (q2 l c y s' k)⟩
  · exact .inr ⟨d, e, e2, z _ _ _ q⟩
section
variable {P : Program} {w : World} {K : PySem.W.Frag} {mg : Str → Option Value} {base : Heap} {Sc Mi : Addr}
theorem ok_tokens {f : Addr} {fd : FuncData} (F : Fun K "tokens" "tokens" s_tokens f fd) (T : Txt K mg Sc) (R_Misread : RaiseOk P w K mg base "Misread" Mi "line" "column") (M_Scanner : MakeOk P w K mg base 1 "Scanner" Sc 2 (gInit Sc))
    (Mt_Scanner_is_over : MetOk P w K mg base 1 Sc "is_over" 1 (gOver Sc)) (Mt_Scanner_pass_gap : MetOk P w K mg base 2 Sc "pass_gap" 1 (gGap Sc)) (Mt_Scanner_token : MetOk P w K mg base 3 Sc "token" 1 (gTok Sc Mi)) :
    FnOk P w K mg base (L2.CX P w) 4 f fd ["text"] (spG K 1 (gTokens Mi)) := by
  refine okG F sc_tokens rfl fun cdv A outer s H E hr => ⟨_, ((pds_cons (pd_ifS (pd_notT (pd_valT (pd_isi T.z_isinstance (pda_cons (pd_v 0) (pda_cons (pd_bltn (n := "str") (by rfl) T.z_str (by decide +kernel)) pda_nil)))))
      (pds_one (pd_raise2 R_Misread (hr.mono (by decide)) takesG (pda_cons pd_int (pda_cons pd_int pda_nil))))
      pds_nil)
      (pds_cons (pd_par (i := 1) (j := 2) rfl sc_tokens.nd rfl rfl (by decide) rfl rfl (pda_cons (pd_make M_Scanner (hr.mono (by decide)) passG (pda_cons (pd_v 0) pda_nil)) (pda_cons (pd_lstC pda_nil) pda_nil)) (by rfl))
      (pds_cons (pd_while passOwnG (pd_notT (pd_valT (pd_meth0 Mt_Scanner_is_over (hr.mono (by decide)) passG (pd_v 1))))
      (pds_one (pd_ifS (pd_notT (pd_valT (pd_meth0 Mt_Scanner_pass_gap (hr.mono (by decide)) passG (pd_v 1))))
      (pds_one (pd_expr (pd_append (pd_v 2) (pda_cons (pd_meth0 Mt_Scanner_token (hr.mono (by decide)) passG (pd_v 1)) pda_nil))))
      pds_nil)))
      (pds_cons (pd_expr (pd_append (pd_v 2) (pda_cons (pd_tup (pda_cons pd_str (pda_cons pd_str (pda_cons (pd_tup (pda_cons (pd_fld T.c_Scanner T.n_Scanner_line (pd_v 1)) (pda_cons (pd_fld T.c_Scanner T.n_Scanner_column (pd_v 1)) pda_nil))) pda_nil)))) pda_nil)))
      (pds_frz 1 (pds_frz 2 (pds_one (pd_ret (pd_tup1 T.z_tuple (pda_cons (pd_v 2) pda_nil))))))))))), fun ds s Q Z hn h => ?_⟩
  rcases h with ⟨x, rows0, b0, rfl, hx, ht, q1, q2⟩ | ⟨d, rfl, hd, h⟩
  · have es : ("str" == "str" || ("str" == "bool" && "str" == "int")) = true := by decide
    have ec : ["tuple", "int", "bool", "str", "list", "dict"].contains "str" = true := by decide
    simp only [dRaise, dFrz, frz, dDict, dVals, wipeD, dYes, dSeq, dNext, dIfS, dRet, dRetN, dDrop, dAsg, gN, dIf, dB, dOp, dV, dC, sg, ss, startD, dCB, dCons, dNil, dTup, dLst, dLstC, dCall, dNo, dSome, dSl, dPar, dPar3, dAugN, dNeg, dAndV, dOrV, dNotV, dAnd, dOr, dNot, dFld, dSetF, dAugF, dMeth, dMake, dMakeD, dDGet, dDPut, dBM, dM1, gF, gTupD, gConsD, gNilD, rdInS, rdInT, itemsOf, strsOf, rdIxT, rdIx, rsT, rsL, rsU, rcLen, lenOf, rcInt, rcStr, rcList, rcListC, rcTup, rcAll, rcI2, tyN, rcIsi, isTy, rdAddI, rdSubI, rdMulI, rdModI, rdDivI, rdPowI, rdI, rdI0, rdLt, rdLe, rdGt, rdGe, rdAddS, rdAddL, rdAddT, rdEq, eqS, rdIsN, isNon, rdIsB, isBl, itL, itT, itS, itR1, itR2, itE, itZ, isLC, rbApp, rbPop, rbSplit, insOf, keyD, List.map_cons, List.map_nil, List.cons_append, List.nil_append, List.length_cons, List.length_nil, List.zip_cons_cons, List.zip_nil_left, List.reverse_cons, List.reverse_nil, List.replicate, Option.map_some, Nat.zero_add, Nat.reduceAdd, Nat.reduceSub, Bool.false_eq_true, if_false, if_true, reduceIte, es, ec, Bool.not_true, Bool.not_false]
    refine ⟨trivial, trivial, fun a ha => ⟨a, x, rfl, supd_same, rfl, by decide, fun fb hfb => ?_⟩⟩
    rw [supd_supd]
    have hne : fb ≠ a := fun e => by
      rw [e, supd_same] at hfb
      cases hfb
    have hfb0 : s fb = none := by
      rw [supd_ne hne, supd_ne hne] at hfb
      exact hfb
    obtain ⟨S, hS⟩ : ∃ S : Int → Int → Int → List D → Sto, S = fun i l c acc => supd (supd s a (.ins Sc (scF x i l c))) fb (.lst acc) := ⟨_, rfl⟩
    have Sa : ∀ i l c acc, S i l c acc a = some (.ins Sc (scF x i l c)) := fun i l c acc => by
      rw [hS]
      show supd _ _ _ _ = _
      rw [supd_ne hne.symm, supd_same]
    have Sf : ∀ i l c acc, S i l c acc fb = some (.lst acc) := fun i l c acc => by
      rw [hS]
      exact supd_same
    have Ua : ∀ i l c acc i' l' c', supd (S i l c acc) a (.ins Sc (scF x i' l' c')) = S i' l' c' acc := fun i l c acc i' l' c' => by
      rw [hS]
      show supd (supd (supd _ _ _) _ _) _ _ = supd (supd _ _ _) _ _
      rw [supd_comm hne, supd_supd]
    have Uf : ∀ i l c acc acc', supd (S i l c acc) fb (.lst acc') = S i l c acc' := fun i l c acc acc' => by
      rw [hS]
      exact supd_supd
    have Sk : ∀ i l c acc, Keeps s (S i l c acc) := fun i l c acc => ⟨fun b cc hb => by
      rw [hS]
      show supd _ _ _ _ = _
      rw [supd_ne (fun e => by rw [e, hfb0] at hb; cases hb), supd_ne (fun e => by rw [e, ha] at hb; cases hb)]
      exact hb, fun b r hb => by
      rw [hS] at hb
      by_cases e1 : b = fb
      · rw [e1] at hb
        have hb' : supd (supd s a (.ins Sc (scF x i l c))) fb (.lst acc) fb = some (.tab r) := hb
        rw [supd_same] at hb'
        cases hb'
      · have hb' : supd (supd s a (.ins Sc (scF x i l c))) fb (.lst acc) b = some (.tab r) := hb
        rw [supd_ne e1] at hb'
        by_cases e2 : b = a
        · rw [e2, supd_same] at hb'
          cases hb'
        · rw [supd_ne e2] at hb'
          exact hb'⟩
    have Sd : ∀ i l c acc, sdel (sdel (S i l c acc) a) fb = s := fun i l c acc => by
      rw [hS]
      show sdel (sdel (supd (supd _ _ _) _ _) _) _ = _
      rw [sdel_supd_ne hne, sdel_supd ha, sdel_supd hfb0]
    have S0 : supd (supd s a (.ins Sc (scF x 0 1 1))) fb (.lst []) = S 0 1 1 [] := by rw [hS]
    rw [S0]
    obtain ⟨Good, hGood⟩ : ∃ Good : List Nat → Int → Int → List D → Prop, Good = fun r l c acc => ∃ rows b, Tk r l c rows b ∧ (b = none → Q (.tup (acc ++ rows)) s) ∧ (∀ l c, b = some (l, c) → ∀ s', Keeps s s' → Z Mi (errD l c) s') := ⟨_, rfl⟩
    have hG0 : Good x.cps.toList 1 1 [] := by
      rw [hGood]
      exact ⟨rows0, b0, ht, q1, q2⟩
    clear S0 hfb hS
    refine ⟨fun m ρ s' => ∃ (k : Nat) (l c : Int) (acc : List D) (r : List Nat), ρ = [some (.str x), some (.ref a), some (.ref fb)] ∧ s' = S k l c acc ∧ x.cps.toList.drop k = r ∧ m = r.length ∧ (acc.length + r.length ≤ x.length ∧ k + r.length = x.length) ∧ Good r l c acc, ⟨_, 0, 1, 1, [], _, rfl, rfl, rfl, rfl, by
      rw [List.drop_zero, List.length_nil, Nat.zero_add]
      exact ⟨Nat.le_refl _, rfl⟩, hG0⟩, ?_⟩
    rintro m ρ1 s1 ⟨k, l, c, acc, r, hρ1, hs1, hd, hm, ⟨hlen, hkx⟩, hg⟩
    subst ρ1
    subst s1
    have hx' : x.length ≤ 100000 := hx
    have hrl := drop_len hd
    rw [← len_cps] at hrl
    rw [hGood] at hg
    obtain ⟨rows, b, tk, g1, g2⟩ := hg
    simp only [dRaise, dFrz, frz, dDict, dVals, wipeD, dYes, dSeq, dNext, dIfS, dRet, dRetN, dDrop, dAsg, gN, dIf, dB, dOp, dV, dC, sg, ss, startD, dCB, dCons, dNil, dTup, dLst, dLstC, dCall, dNo, dSome, dSl, dPar, dPar3, dAugN, dNeg, dAndV, dOrV, dNotV, dAnd, dOr, dNot, dFld, dSetF, dAugF, dMeth, dMake, dMakeD, dDGet, dDPut, dBM, dM1, gF, gTupD, gConsD, gNilD, rdInS, rdInT, itemsOf, strsOf, rdIxT, rdIx, rsT, rsL, rsU, rcLen, lenOf, rcInt, rcStr, rcList, rcListC, rcTup, rcAll, rcI2, tyN, rcIsi, isTy, rdAddI, rdSubI, rdMulI, rdModI, rdDivI, rdPowI, rdI, rdI0, rdLt, rdLe, rdGt, rdGe, rdAddS, rdAddL, rdAddT, rdEq, eqS, rdIsN, isNon, rdIsB, isBl, itL, itT, itS, itR1, itR2, itE, itZ, isLC, rbApp, rbPop, rbSplit, insOf, keyD, List.map_cons, List.map_nil, List.cons_append, List.nil_append, List.length_cons, List.length_nil, List.zip_cons_cons, List.zip_nil_left, List.reverse_cons, List.reverse_nil, List.replicate, Option.map_some, Nat.zero_add, Nat.reduceAdd, Nat.reduceSub, Bool.false_eq_true, if_false, if_true, reduceIte, Sa, Sf, lk_over]
    cases r with
    | nil =>
      refine ⟨trivial, trivial, a, x, (k : Int), l, c, rfl, Sa _ _ _ _, hx, ?_⟩
      rw [List.length_nil] at hrl hkx hlen
      have e1 : ((k : Int) == (x.length : Int)) = true := by
        rw [beq_iff_eq]
        omega
      rw [e1]
      have hsf : ∀ acc, sdel (S (k : Int) l c acc) a fb = some (.lst acc) := fun acc => by rw [sdel_ne hne, Sf]
      simp only [dRaise, dFrz, frz, dDict, dVals, wipeD, dYes, dSeq, dNext, dIfS, dRet, dRetN, dDrop, dAsg, gN, dIf, dB, dOp, dV, dC, sg, ss, startD, dCB, dCons, dNil, dTup, dLst, dLstC, dCall, dNo, dSome, dSl, dPar, dPar3, dAugN, dNeg, dAndV, dOrV, dNotV, dAnd, dOr, dNot, dFld, dSetF, dAugF, dMeth, dMake, dMakeD, dDGet, dDPut, dBM, dM1, gF, gTupD, gConsD, gNilD, rdInS, rdInT, itemsOf, strsOf, rdIxT, rdIx, rsT, rsL, rsU, rcLen, lenOf, rcInt, rcStr, rcList, rcListC, rcTup, rcAll, rcI2, tyN, rcIsi, isTy, rdAddI, rdSubI, rdMulI, rdModI, rdDivI, rdPowI, rdI, rdI0, rdLt, rdLe, rdGt, rdGe, rdAddS, rdAddL, rdAddT, rdEq, eqS, rdIsN, isNon, rdIsB, isBl, itL, itT, itS, itR1, itR2, itE, itZ, isLC, rbApp, rbPop, rbSplit, insOf, keyD, List.map_cons, List.map_nil, List.cons_append, List.nil_append, List.length_cons, List.length_nil, List.zip_cons_cons, List.zip_nil_left, List.reverse_cons, List.reverse_nil, List.replicate, Option.map_some, Nat.zero_add, Nat.reduceAdd, Nat.reduceSub, Bool.false_eq_true, if_false, if_true, reduceIte, Sa, Sf, Uf, Sd, lk_line, lk_column, Bool.not_true, hsf]
      refine ⟨trivial, by decide, by decide, by have : 100000 < sizeLine := by decide
                                                omega, ?_⟩
      cases tk
      exact g1 rfl
    | cons ch r =>
      have hk1 : x.cps.toList.drop (k + 1) = r := by
        rw [← List.drop_drop, hd]
        rfl
      rw [List.length_cons] at hrl hlen hm hkx
      have e1 : ((k : Int) == (x.length : Int)) = false := by
        rw [beq_eq_false_iff_ne]
        omega
      refine ⟨trivial, trivial, a, x, (k : Int), l, c, rfl, Sa _ _ _ _, hx, ?_⟩
      rw [e1]
      simp only [dRaise, dFrz, frz, dDict, dVals, wipeD, dYes, dSeq, dNext, dIfS, dRet, dRetN, dDrop, dAsg, gN, dIf, dB, dOp, dV, dC, sg, ss, startD, dCB, dCons, dNil, dTup, dLst, dLstC, dCall, dNo, dSome, dSl, dPar, dPar3, dAugN, dNeg, dAndV, dOrV, dNotV, dAnd, dOr, dNot, dFld, dSetF, dAugF, dMeth, dMake, dMakeD, dDGet, dDPut, dBM, dM1, gF, gTupD, gConsD, gNilD, rdInS, rdInT, itemsOf, strsOf, rdIxT, rdIx, rsT, rsL, rsU, rcLen, lenOf, rcInt, rcStr, rcList, rcListC, rcTup, rcAll, rcI2, tyN, rcIsi, isTy, rdAddI, rdSubI, rdMulI, rdModI, rdDivI, rdPowI, rdI, rdI0, rdLt, rdLe, rdGt, rdGe, rdAddS, rdAddL, rdAddT, rdEq, eqS, rdIsN, isNon, rdIsB, isBl, itL, itT, itS, itR1, itR2, itE, itZ, isLC, rbApp, rbPop, rbSplit, insOf, keyD, List.map_cons, List.map_nil, List.cons_append, List.nil_append, List.length_cons, List.length_nil, List.zip_cons_cons, List.zip_nil_left, List.reverse_cons, List.reverse_nil, List.replicate, Option.map_some, Nat.zero_add, Nat.reduceAdd, Nat.reduceSub, Bool.false_eq_true, if_false, if_true, reduceIte, Sa, Sf, lk_gap, Bool.not_false]
      refine ⟨trivial, trivial, a, x, k, l, c, ch, r, rfl, Sa _ _ _ _, hx, hd, fun h => ?_, fun h => ?_, fun h n hn => ?_, fun h1 h2 h3 => ?_⟩
      · subst h
        rw [Ua]
        refine ⟨m - 1, by omega, k + 1, _, _, acc, r, trivial, rfl, hk1, by omega, by omega, ?_⟩
        rw [hGood]
        exact ⟨rows, b, tk.inv10, g1, g2⟩
      · subst h
        rw [Ua]
        refine ⟨m - 1, by omega, k + 1, _, _, acc, r, trivial, rfl, hk1, by omega, by omega, ?_⟩
        rw [hGood]
        exact ⟨rows, b, tk.inv32, g1, g2⟩
      · subst h
        rw [Ua]
        have hl1 : n ≤ r.length := by
          rw [hn]
          exact (List.takeWhile_sublist _).length_le
        refine ⟨(r.drop n).length, by rw [List.length_drop]; omega, k + (n + 1), _, _, acc, r.drop n, trivial, rfl, ?_, rfl, by rw [List.length_drop]; omega, ?_⟩
        · rw [show k + (n + 1) = (k + 1) + n by omega, ← List.drop_drop, hk1]
        · rw [hGood]
          exact ⟨rows, b, tk.inv35 hn, g1, g2⟩
      · simp only [dRaise, dFrz, frz, dDict, dVals, wipeD, dYes, dSeq, dNext, dIfS, dRet, dRetN, dDrop, dAsg, gN, dIf, dB, dOp, dV, dC, sg, ss, startD, dCB, dCons, dNil, dTup, dLst, dLstC, dCall, dNo, dSome, dSl, dPar, dPar3, dAugN, dNeg, dAndV, dOrV, dNotV, dAnd, dOr, dNot, dFld, dSetF, dAugF, dMeth, dMake, dMakeD, dDGet, dDPut, dBM, dM1, gF, gTupD, gConsD, gNilD, rdInS, rdInT, itemsOf, strsOf, rdIxT, rdIx, rsT, rsL, rsU, rcLen, lenOf, rcInt, rcStr, rcList, rcListC, rcTup, rcAll, rcI2, tyN, rcIsi, isTy, rdAddI, rdSubI, rdMulI, rdModI, rdDivI, rdPowI, rdI, rdI0, rdLt, rdLe, rdGt, rdGe, rdAddS, rdAddL, rdAddT, rdEq, eqS, rdIsN, isNon, rdIsB, isBl, itL, itT, itS, itR1, itR2, itE, itZ, isLC, rbApp, rbPop, rbSplit, insOf, keyD, List.map_cons, List.map_nil, List.cons_append, List.nil_append, List.length_cons, List.length_nil, List.zip_cons_cons, List.zip_nil_left, List.reverse_cons, List.reverse_nil, List.replicate, Option.map_some, Nat.zero_add, Nat.reduceAdd, Nat.reduceSub, Bool.false_eq_true, if_false, if_true, reduceIte, Sa, Sf, lk_token, Bool.not_false]
        refine ⟨trivial, trivial, trivial, a, x, k, l, c, ch, r, rfl, Sa _ _ _ _, hx, hd, fun hr w hw => ?_, fun hr => ?_⟩
        · have hwl : w.length ≤ (ch :: r).length := by
            rw [hw, List.length_cons, List.length_cons]
            have := (List.takeWhile_sublist isRun (l := r)).length_le
            omega
          have hw1 : 1 ≤ w.length := by
            rw [hw, List.length_cons]
            omega
          rw [List.length_cons] at hwl
          rcases tk.invR hr with ⟨kd, rows', hk, tk', rfl⟩ | ⟨hk, rfl, rfl⟩
          · rw [← hw] at hk tk'
            refine ⟨fun kd' hk' => ?_, fun hk' => ?_⟩
            · rw [hk] at hk'
              injection hk' with hk''
              subst hk''
              simp only [Ua, Sf, Uf]
              refine ⟨by have : 100000 < sizeLine := by decide
                         omega, ?_⟩
              refine ⟨((ch :: r).drop w.length).length, by rw [List.length_drop, List.length_cons]; omega, k + w.length, _, _, _, (ch :: r).drop w.length, trivial, rfl, ?_, rfl, ?_, ?_⟩
              · rw [← List.drop_drop, hd]
              · rw [List.length_append, List.length_singleton, List.length_drop, List.length_cons]
                omega
              · rw [hGood]
                refine ⟨rows', b, tk', fun z => ?_, g2⟩
                rw [List.append_assoc, List.singleton_append]
                have := g1 z
                rw [← hw] at this
                exact this
            · rw [hk] at hk'
              cases hk'
          · rw [← hw] at hk
            refine ⟨fun kd' hk' => ?_, fun hk' => ?_⟩
            · rw [hk] at hk'
              cases hk'
            · exact g2 l c rfl _ (Sk _ _ _ _)
        · rcases tk.invS hr h1 h2 h3 with ⟨rows', hk, tk', rfl⟩ | ⟨hk, rfl, rfl⟩
          · refine ⟨fun hk' => ?_, fun hk' => ?_⟩
            · simp only [Ua, Sf, Uf]
              refine ⟨by have : 100000 < sizeLine := by decide
                         omega, ?_⟩
              refine ⟨m - 1, by omega, k + 1, _, _, _, r, trivial, rfl, hk1, by omega, ?_, ?_⟩
              · rw [List.length_append,
                  List.length_singleton]
                omega
              · rw [hGood]
                refine ⟨rows', b, tk', fun z => ?_, g2⟩
                rw [List.append_assoc, List.singleton_append]
                exact g1 z
            · rw [hk] at hk'
              cases hk'
          · refine ⟨fun hk' => ?_, fun hk' => ?_⟩
            · rw [hk] at hk'
              cases hk'
            · exact g2 l c rfl _ (Sk _ _ _ _)
  · have key : ∃ t, tyN s d = some t ∧ isTy t "str" = false := by
      rcases hd with rfl | ⟨i, rfl⟩ | ⟨l, rfl⟩
      · exact ⟨_, rfl, rfl⟩
      · exact ⟨_, rfl, rfl⟩
      · exact ⟨_, rfl, rfl⟩
    obtain ⟨t, ht, hty⟩ := key
    refine s_when (b := true) (tv_not (a := false) (tv_B (fun Q Z q => ?_))) (fun _ => ?_) (fun z => nomatch z)
    · show match tyN s d with
        | some t => _
        | none => False
      rw [ht]
      refine ⟨by decide, ?_⟩
      rw [hty]
      exact q
    · exact ⟨rfl, h⟩
end
end K34

/-! K34e: the pen and its draws. -/
namespace K34
open PySem PySem.Spec PyProof.Rows L2 G
section
variable {P : Program} {w : World} {K : PySem.W.Frag} {mg : Str → Option Value} {base : Heap} {Sc : Addr}
theorem ok_pen {f : Addr} {fd : FuncData} (F : Fun K "_law_pen" "_law_pen" s_law_pen f fd) (T : Txt K mg Sc) : FnOk P w K mg base (L2.CX P w) 1 f fd ["script"] (spG K 1 gPen) := by
  refine okG F sc_law_pen rfl fun cdv A outer s H E hr => ⟨_, ((pds_cons (pd_set (i := 1) sc_law_pen.nd rfl (Or.inl rfl) pd_int)
      (pds_cons (pd_for passOwnG rfl (pdi_list (pd_v 0)) (pdg_name (i := 2) sc_law_pen.nd rfl (Or.inl rfl))
      (pds_one (pd_set (i := 1) sc_law_pen.nd rfl (Or.inl rfl) (pd_modI (pd_int1 T.z_int (pda_cons (pd_addI (pd_mulI (pd_v 1) pd_int) (pd_v 2)) pda_nil)) pd_int))))
      (pds_one (pd_ret (pd_dict (.cons (pd_list1 T.z_list (pda_cons (pd_v 0) pda_nil)) (.cons pd_int (.cons pd_int (.cons pd_int (.cons (pd_v 1) .nil))))))))))), fun ds s Q Z hn h => ?_⟩
  obtain ⟨d0, cells, rfl, hd0, h⟩ := h
  have main : ∀ Q' : Rho → Sto → Prop, (∀ f o, 0 ≤ f → f < 2147483033 → Q' [some d0, some (.int f), o] s) → ∀ K : DEnds, K.nx = Q' → forD (gN 2) (dAsg (dOp rdModI (dCB rcInt (dCons (dOp rdAddI (dOp rdMulI (dV 1) (dC (.int 241))) (dV 2)) dNil)) (dC (.int 1000000901))) (gN 1)) (cells.map D.int) K [some d0, some (.int 83), none] s := by
    intro Q' hQ K hK
    refine forD_all (fun _ ρ s' => ∃ f o, ρ = [some d0, some (.int f), o] ∧ 0 ≤ f ∧ f < 2147483033 ∧ s' = s) ⟨83, _, rfl, by decide, by decide, rfl⟩ ?_ ?_
    · rintro i d ρ1 s1 NX hd ⟨f, o, hρ, h0, h1, hs⟩ hnx
      subst ρ1
      subst s1
      rw [List.getElem?_map] at hd
      obtain ⟨c, hc, rfl⟩ := Option.map_eq_some_iff.mp hd
      simp only [dRaise, dFrz, frz, dDict, dVals, wipeD, dYes, dSeq, dNext, dIfS, dRet, dRetN, dDrop, dAsg, gN, dIf, dB, dOp, dV, dC, sg, ss, startD, dCB, dCons, dNil, dTup, dLst, dLstC, dCall, dNo, dSome, dSl, dPar, dPar3, dAugN, dNeg, dAndV, dOrV, dNotV, dAnd, dOr, dNot, dFld, dSetF, dAugF, dMeth, dMake, dMakeD, dDGet, dDPut, dBM, dM1, gF, gTupD, gConsD, gNilD, rdInS, rdInT, itemsOf, strsOf, rdIxT, rdIx, rsT, rsL, rsU, rcLen, lenOf, rcInt, rcStr, rcList, rcListC, rcTup, rcAll, rcI2, tyN, rcIsi, isTy, rdAddI, rdSubI, rdMulI, rdModI, rdDivI, rdPowI, rdI, rdI0, rdLt, rdLe, rdGt, rdGe, rdAddS, rdAddL, rdAddT, rdEq, eqS, rdIsN, isNon, rdIsB, isBl, itL, itT, itS, itR1, itR2, itE, itZ, isLC, rbApp, rbPop, rbSplit, insOf, keyD, List.map_cons, List.map_nil, List.cons_append, List.nil_append, List.length_cons, List.length_nil, List.zip_cons_cons, List.zip_nil_left, List.reverse_cons, List.reverse_nil, List.replicate, Option.map_some, Nat.zero_add, Nat.reduceAdd, Nat.reduceSub, Bool.false_eq_true, if_false, if_true, reduceIte]
      refine ⟨.inr (by decide), by decide, hnx _ _ ⟨_, _, rfl, Int.emod_nonneg _ (by decide), ?_, rfl⟩⟩
      have := Int.emod_lt_of_pos (f * 241 + c) (show (0 : Int) < 1000000901 by decide)
      omega
    · rintro ρ1 s1 ⟨f, o, hρ, h0, h1, hs⟩
      subst ρ1
      subst s1
      rw [hK]
      exact hQ f o h0 h1
  have fin : ∀ f, 0 ≤ f → f < 2147483033 → ∀ a, s a = none → Q (.ref a) (supd s a (.dK [(.inr "cells", .lst (cells.map D.int)), (.inr "at", .int 0), (.inr "digits", .int 0), (.inr "count", .int 0), (.inr "fold", .int f)])) := fun f h0 h1 a ha =>
    h a _ ha ⟨cells, 0, 0, 0, f, supd_same, by decide, by omega, by decide, by decide, by decide, h0, h1⟩ Oth.put
  rcases hd0 with rfl | rfl
  · simp only [dRaise, dFrz, frz, dDict, dVals, wipeD, dYes, dSeq, dNext, dIfS, dRet, dRetN, dDrop, dAsg, gN, dIf, dB, dOp, dV, dC, sg, ss, startD, dCB, dCons, dNil, dTup, dLst, dLstC, dCall, dNo, dSome, dSl, dPar, dPar3, dAugN, dNeg, dAndV, dOrV, dNotV, dAnd, dOr, dNot, dFld, dSetF, dAugF, dMeth, dMake, dMakeD, dDGet, dDPut, dBM, dM1, gF, gTupD, gConsD, gNilD, rdInS, rdInT, itemsOf, strsOf, rdIxT, rdIx, rsT, rsL, rsU, rcLen, lenOf, rcInt, rcStr, rcList, rcListC, rcTup, rcAll, rcI2, tyN, rcIsi, isTy, rdAddI, rdSubI, rdMulI, rdModI, rdDivI, rdPowI, rdI, rdI0, rdLt, rdLe, rdGt, rdGe, rdAddS, rdAddL, rdAddT, rdEq, eqS, rdIsN, isNon, rdIsB, isBl, itL, itT, itS, itR1, itR2, itE, itZ, isLC, rbApp, rbPop, rbSplit, insOf, keyD, List.map_cons, List.map_nil, List.cons_append, List.nil_append, List.length_cons, List.length_nil, List.zip_cons_cons, List.zip_nil_left, List.reverse_cons, List.reverse_nil, List.replicate, Option.map_some, Nat.zero_add, Nat.reduceAdd, Nat.reduceSub, Bool.false_eq_true, if_false, if_true, reduceIte, dFor]
    refine main _ (fun f o h0 h1 => ?_) _ rfl
    simp only [dRaise, dFrz, frz, dDict, dVals, wipeD, dYes, dSeq, dNext, dIfS, dRet, dRetN, dDrop, dAsg, gN, dIf, dB, dOp, dV, dC, sg, ss, startD, dCB, dCons, dNil, dTup, dLst, dLstC, dCall, dNo, dSome, dSl, dPar, dPar3, dAugN, dNeg, dAndV, dOrV, dNotV, dAnd, dOr, dNot, dFld, dSetF, dAugF, dMeth, dMake, dMakeD, dDGet, dDPut, dBM, dM1, gF, gTupD, gConsD, gNilD, rdInS, rdInT, itemsOf, strsOf, rdIxT, rdIx, rsT, rsL, rsU, rcLen, lenOf, rcInt, rcStr, rcList, rcListC, rcTup, rcAll, rcI2, tyN, rcIsi, isTy, rdAddI, rdSubI, rdMulI, rdModI, rdDivI, rdPowI, rdI, rdI0, rdLt, rdLe, rdGt, rdGe, rdAddS, rdAddL, rdAddT, rdEq, eqS, rdIsN, isNon, rdIsB, isBl, itL, itT, itS, itR1, itR2, itE, itZ, isLC, rbApp, rbPop, rbSplit, insOf, keyD, List.map_cons, List.map_nil, List.cons_append, List.nil_append, List.length_cons, List.length_nil, List.zip_cons_cons, List.zip_nil_left, List.reverse_cons, List.reverse_nil, List.replicate, Option.map_some, Nat.zero_add, Nat.reduceAdd, Nat.reduceSub, Bool.false_eq_true, if_false, if_true, reduceIte]
    intro a ha
    refine ⟨supd_same, by decide, ?_⟩
    rw [pen_merge, supd_supd]
    exact fin f h0 h1 a ha
  · simp only [dRaise, dFrz, frz, dDict, dVals, wipeD, dYes, dSeq, dNext, dIfS, dRet, dRetN, dDrop, dAsg, gN, dIf, dB, dOp, dV, dC, sg, ss, startD, dCB, dCons, dNil, dTup, dLst, dLstC, dCall, dNo, dSome, dSl, dPar, dPar3, dAugN, dNeg, dAndV, dOrV, dNotV, dAnd, dOr, dNot, dFld, dSetF, dAugF, dMeth, dMake, dMakeD, dDGet, dDPut, dBM, dM1, gF, gTupD, gConsD, gNilD, rdInS, rdInT, itemsOf, strsOf, rdIxT, rdIx, rsT, rsL, rsU, rcLen, lenOf, rcInt, rcStr, rcList, rcListC, rcTup, rcAll, rcI2, tyN, rcIsi, isTy, rdAddI, rdSubI, rdMulI, rdModI, rdDivI, rdPowI, rdI, rdI0, rdLt, rdLe, rdGt, rdGe, rdAddS, rdAddL, rdAddT, rdEq, eqS, rdIsN, isNon, rdIsB, isBl, itL, itT, itS, itR1, itR2, itE, itZ, isLC, rbApp, rbPop, rbSplit, insOf, keyD, List.map_cons, List.map_nil, List.cons_append, List.nil_append, List.length_cons, List.length_nil, List.zip_cons_cons, List.zip_nil_left, List.reverse_cons, List.reverse_nil, List.replicate, Option.map_some, Nat.zero_add, Nat.reduceAdd, Nat.reduceSub, Bool.false_eq_true, if_false, if_true, reduceIte, dFor]
    refine main _ (fun f o h0 h1 => ?_) _ rfl
    simp only [dRaise, dFrz, frz, dDict, dVals, wipeD, dYes, dSeq, dNext, dIfS, dRet, dRetN, dDrop, dAsg, gN, dIf, dB, dOp, dV, dC, sg, ss, startD, dCB, dCons, dNil, dTup, dLst, dLstC, dCall, dNo, dSome, dSl, dPar, dPar3, dAugN, dNeg, dAndV, dOrV, dNotV, dAnd, dOr, dNot, dFld, dSetF, dAugF, dMeth, dMake, dMakeD, dDGet, dDPut, dBM, dM1, gF, gTupD, gConsD, gNilD, rdInS, rdInT, itemsOf, strsOf, rdIxT, rdIx, rsT, rsL, rsU, rcLen, lenOf, rcInt, rcStr, rcList, rcListC, rcTup, rcAll, rcI2, tyN, rcIsi, isTy, rdAddI, rdSubI, rdMulI, rdModI, rdDivI, rdPowI, rdI, rdI0, rdLt, rdLe, rdGt, rdGe, rdAddS, rdAddL, rdAddT, rdEq, eqS, rdIsN, isNon, rdIsB, isBl, itL, itT, itS, itR1, itR2, itE, itZ, isLC, rbApp, rbPop, rbSplit, insOf, keyD, List.map_cons, List.map_nil, List.cons_append, List.nil_append, List.length_cons, List.length_nil, List.zip_cons_cons, List.zip_nil_left, List.reverse_cons, List.reverse_nil, List.replicate, Option.map_some, Nat.zero_add, Nat.reduceAdd, Nat.reduceSub, Bool.false_eq_true, if_false, if_true, reduceIte]
    intro a ha
    refine ⟨supd_same, by decide, ?_⟩
    rw [pen_merge, supd_supd]
    exact fin f h0 h1 a ha
theorem ok_draw {f : Addr} {fd : FuncData} (F : Fun K "_law_draw" "_law_draw" s_law_draw f fd) (T : Txt K mg Sc) : FnOk P w K mg base (L2.CX P w) 1 f fd ["pen", "many"] (spG K 2 gDraw) := by
  refine okG F sc_law_draw rfl fun cdv A outer s H E hr => ⟨_, ((pds_cons (pd_dput hr (pd_v 0) pd_str (pd_addI (pd_dget hr (pd_v 0) pd_str) pd_int))
      (pds_cons (pd_ifS (PDW.t (pdw_and (pt_eqD (pd_dget hr (pd_v 0) pd_str) pd_int) (pdw_and1 (pt_ltD (pd_dget hr (pd_v 0) pd_str) (pd_len T.z_len (pda_cons (pd_dget hr (pd_v 0) pd_str) pda_nil))))))
      (pds_cons (pd_set (i := 2) sc_law_draw.nd rfl (Or.inl rfl) (pd_ixS (pd_dget hr (pd_v 0) pd_str) (pd_dget hr (pd_v 0) pd_str)))
      (pds_cons (pd_dput hr (pd_v 0) pd_str (pd_addI (pd_dget hr (pd_v 0) pd_str) pd_int))
      (pds_one (pd_ifS (pt_geD (pd_v 2) (pd_powI pd_int pd_int))
      (pds_one (pd_dput hr (pd_v 0) pd_str (pd_subI (pd_v 2) (pd_powI pd_int pd_int))))
      (pds_one (pd_dput hr (pd_v 0) pd_str (pd_modI (pd_int1 T.z_int (pda_cons (pd_addI (pd_mulI (pd_dget hr (pd_v 0) pd_str) pd_int) (pd_v 2)) pda_nil)) pd_int)))))))
      pds_nil)
      (pds_cons (pd_ifS (pt_gtD (pd_dget hr (pd_v 0) pd_str) pd_int)
      (pds_cons (pd_set (i := 3) sc_law_draw.nd rfl (Or.inl rfl) (pd_modI (pd_int1 T.z_int (pda_cons (pd_dget hr (pd_v 0) pd_str) pda_nil)) (pd_v 1)))
      (pds_cons (pd_dput hr (pd_v 0) pd_str (pd_divI (pd_dget hr (pd_v 0) pd_str) (pd_v 1)))
      (pds_one (pd_ret (pd_v 3)))))
      pds_nil)
      (pds_cons (pd_set (i := 4) sc_law_draw.nd rfl (Or.inl rfl) (pd_addI (pd_addI (pd_dget hr (pd_v 0) pd_str) (pd_mulI (pd_dget hr (pd_v 0) pd_str) pd_int)) pd_int))
      (pds_one (pd_ret (pd_modI (pd_divI (pd_int1 T.z_int (pda_cons (pd_modI (pd_powI (pd_v 4) pd_int) pd_int) pda_nil)) pd_int) (pd_v 1))))))))), fun ds s Q Z hn h => ?_⟩
  obtain ⟨p, m, n, rfl, hm, hm2, ⟨cells, i, d, c, f, hs, hi0, hi1, hd0, hc0, hcn, hf0, hf1⟩, hn2, h⟩ := h
  have hpen : ∀ (i d f : Int), 0 ≤ i → i ≤ cells.length → 0 ≤ d → 0 ≤ f → f < 2147483033 → Pen (supd s p (.dK (penK (cells.map D.int) i d (c + 1) f))) p (n + 1) := fun i d f a1 a2 a3 a4 a5 => ⟨cells, i, d, c + 1, f, supd_same, a1, a2, a3, by omega, by omega, a4, a5⟩
  have hA : ∀ (i d f : Int), 0 ≤ i → i ≤ cells.length → 0 < d → 0 ≤ f → f < 2147483033 → 0 < m ∧ CDiv d m ∧ Q (.int (d % m)) (supd s p (.dK (penK (cells.map D.int) i (d / m) (c + 1) f))) := fun i d f a1 a2 a3 a4 a5 =>
    ⟨hm, ⟨hm, hm2⟩, h _ _ (Int.emod_nonneg _ (by omega)) (Int.emod_lt_of_pos _ hm) (hpen i (d / m) f a1 a2 (Int.ediv_nonneg (by omega) (by omega)) a4 a5) Oth.put⟩
  have hB : ∀ (i d f : Int), 0 ≤ i → i ≤ cells.length → 0 ≤ d → 0 ≤ f → f < 2147483033 → CMul (c + 1) 8081 ∧ CPow (f + (c + 1) * 8081 + 163) 17 ∧ (0 : Int) < 2305843009213693951 ∧ CDiv ((f + (c + 1) * 8081 + 163) ^ Int.toNat 17 % 2305843009213693951) 128 ∧ 0 < m ∧
      Q (.int ((f + (c + 1) * 8081 + 163) ^ Int.toNat 17 % 2305843009213693951 / 128 % m)) (supd s p (.dK (penK (cells.map D.int) i d (c + 1) f))) := fun i d f a1 a2 a3 a4 a5 =>
    ⟨.inr (by decide), ⟨by decide, by decide, by
      show (f + (c + 1) * 8081 + 163).natAbs < 18446744073709551616
      have : (n : Int) < 1099511627776 := by
        have h1 : n < 1099511627776 := hn2
        omega
      omega⟩, by decide, ⟨by decide, by decide⟩, hm, h _ _ (Int.emod_nonneg _ (by omega)) (Int.emod_lt_of_pos _ hm) (hpen i d f a1 a2 a3 a4 a5) Oth.put⟩
  simp only [dRaise, dFrz, frz, dDict, dVals, wipeD, dYes, dSeq, dNext, dIfS, dRet, dRetN, dDrop, dAsg, gN, dIf, dB, dOp, dV, dC, sg, ss, startD, dCB, dCons, dNil, dTup, dLst, dLstC, dCall, dNo, dSome, dSl, dPar, dPar3, dAugN, dNeg, dAndV, dOrV, dNotV, dAnd, dOr, dNot, dFld, dSetF, dAugF, dMeth, dMake, dMakeD, dDGet, dDPut, dBM, dM1, gF, gTupD, gConsD, gNilD, rdInS, rdInT, itemsOf, strsOf, rdIxT, rdIx, rsT, rsL, rsU, rcLen, lenOf, rcInt, rcStr, rcList, rcListC, rcTup, rcAll, rcI2, tyN, rcIsi, isTy, rdAddI, rdSubI, rdMulI, rdModI, rdDivI, rdPowI, rdI, rdI0, rdLt, rdLe, rdGt, rdGe, rdAddS, rdAddL, rdAddT, rdEq, eqS, rdIsN, isNon, rdIsB, isBl, itL, itT, itS, itR1, itR2, itE, itZ, isLC, rbApp, rbPop, rbSplit, insOf, keyD, List.map_cons, List.map_nil, List.cons_append, List.nil_append, List.length_cons, List.length_nil, List.zip_cons_cons, List.zip_nil_left, List.reverse_cons, List.reverse_nil, List.replicate, Option.map_some, Nat.zero_add, Nat.reduceAdd, Nat.reduceSub, Bool.false_eq_true, if_false, if_true, reduceIte, hs, vl_cells, vl_at, vl_digits, vl_count, vl_fold, put_at, put_digits, put_count, put_fold, pen_len, true_and, supd_same, supd_supd]
  have hlen : ((cells.map D.int).length : Int) = cells.length := by rw [List.length_map]
  have hend : match decide (0 < d) with
      | true => 0 < m ∧ CDiv d m ∧ Q (.int (d % m)) (supd s p (.dK (penK (cells.map D.int) i (d / m) (c + 1) f)))
      | false => CMul (c + 1) 8081 ∧ CPow (f + (c + 1) * 8081 + 163) 17 ∧ (0 : Int) < 2305843009213693951 ∧ CDiv ((f + (c + 1) * 8081 + 163) ^ Int.toNat 17 % 2305843009213693951) 128 ∧ 0 < m ∧
        Q (.int ((f + (c + 1) * 8081 + 163) ^ Int.toNat 17 % 2305843009213693951 / 128 % m)) (supd s p (.dK (penK (cells.map D.int) i d (c + 1) f))) := by
    by_cases h0 : 0 < d
    · rw [decide_eq_true h0]
      exact hA i d f hi0 hi1 h0 hf0 hf1
    · rw [decide_eq_false h0]
      exact hB i d f hi0 hi1 hd0 hf0 hf1
  cases e1 : d == 0 with
  | false => exact hend
  | true =>
    by_cases h1 : i < ((cells.map D.int).length : Int)
    · rw [decide_eq_true h1]
      obtain ⟨j, rfl⟩ := Int.eq_ofNat_of_zero_le hi0
      have h2 : j < cells.length := by omega
      have e2 : atI (cells.map D.int) (j : Int) = some (.int cells[j]) := atI_nat (by rw [List.getElem?_map, List.getElem?_eq_getElem h2]; rfl)
      have h3 : (j : Int) + 1 ≤ cells.length := by omega
      rw [e2]
      refine ⟨⟨by decide, by decide, by decide⟩, ?_⟩
      show match decide ((10 : Int) ^ Int.toNat 18 ≤ cells[j]) with
        | true => _
        | false => _
      by_cases h4 : (10 : Int) ^ Int.toNat 18 ≤ cells[j]
      · rw [decide_eq_true h4]
        refine ⟨⟨by decide, by decide, by decide⟩, ?_⟩
        show match decide (0 < cells[j] - (10 : Int) ^ Int.toNat 18) with
          | true => _
          | false => _
        by_cases h5 : 0 < cells[j] - (10 : Int) ^ Int.toNat 18
        · rw [decide_eq_true h5]
          exact hA _ _ _ (by omega) h3 h5 hf0 hf1
        · rw [decide_eq_false h5]
          exact hB _ _ _ (by omega) h3 (by omega) hf0 hf1
      · rw [decide_eq_false h4]
        refine ⟨.inr (by decide), by decide, ?_⟩
        have g0 := Int.emod_nonneg (f * 70309 + cells[j]) (show (2147483033 : Int) ≠ 0 by decide)
        have g1 := Int.emod_lt_of_pos (f * 70309 + cells[j]) (show (0 : Int) < 2147483033 by decide)
        by_cases h5 : 0 < d
        · rw [decide_eq_true h5]
          exact hA _ _ _ (by omega) h3 h5 g0 g1
        · rw [decide_eq_false h5]
          exact hB _ _ _ (by omega) h3 hd0 g0 g1
    · rw [decide_eq_false h1]
      exact hend
theorem ok_pick {f : Addr} {fd : FuncData} (F : Fun K "_law_pick" "_law_pick" s_law_pick f fd) (T : Txt K mg Sc) (D_law_draw : DefOk P w K mg base 1 "_law_draw" 2 gDraw) : FnOk P w K mg base (L2.CX P w) 2 f fd ["pen", "some"] (spG K 2 gPick) := by
  refine okG F sc_law_pick rfl fun cdv A outer s H E hr => ⟨_, ((pds_one (pd_ret (pd_ixS (pd_v 1) (pd_call D_law_draw (hr.mono (by decide)) passG (pda_cons (pd_v 0) (pda_cons (pd_len T.z_len (pda_cons (pd_v 1) pda_nil)) pda_nil))))))), fun ds s Q Z hn h => ?_⟩
  obtain ⟨p, d, l, n, rfl, hl, h0, h1, hp, hn2, h⟩ := h
  have hd : d = .lst l ∨ d = .tup l ∨ d = .fz l := by
    match d, hl with
    | .lst l', e =>
      injection e with e
      exact .inl (by rw [e])
    | .tup l', e =>
      injection e with e
      exact .inr (.inl (by rw [e]))
    | .fz l', e =>
      injection e with e
      exact .inr (.inr (by rw [e]))
  have hget : ∀ (i : Int) (s' : Sto), 0 ≤ i → i < (l.length : Int) → Pen s' p (n + 1) → Oth p s s' → match atI l i with
      | some d => Q d s'
      | none => False := by
    intro i s' hi0 hi1 hp' ho
    obtain ⟨j, rfl⟩ := Int.eq_ofNat_of_zero_le hi0
    have h2 : j < l.length := by omega
    rw [atI_nat (List.getElem?_eq_getElem h2)]
    exact h _ _ (List.getElem_mem h2) hp' ho
  rcases hd with rfl | rfl | rfl <;>
    (simp only [dRaise, dFrz, frz, dDict, dVals, wipeD, dYes, dSeq, dNext, dIfS, dRet, dRetN, dDrop, dAsg, gN, dIf, dB, dOp, dV, dC, sg, ss, startD, dCB, dCons, dNil, dTup, dLst, dLstC, dCall, dNo, dSome, dSl, dPar, dPar3, dAugN, dNeg, dAndV, dOrV, dNotV, dAnd, dOr, dNot, dFld, dSetF, dAugF, dMeth, dMake, dMakeD, dDGet, dDPut, dBM, dM1, gF, gTupD, gConsD, gNilD, rdInS, rdInT, itemsOf, strsOf, rdIxT, rdIx, rsT, rsL, rsU, rcLen, lenOf, rcInt, rcStr, rcList, rcListC, rcTup, rcAll, rcI2, tyN, rcIsi, isTy, rdAddI, rdSubI, rdMulI, rdModI, rdDivI, rdPowI, rdI, rdI0, rdLt, rdLe, rdGt, rdGe, rdAddS, rdAddL, rdAddT, rdEq, eqS, rdIsN, isNon, rdIsB, isBl, itL, itT, itS, itR1, itR2, itE, itZ, isLC, rbApp, rbPop, rbSplit, insOf, keyD, List.map_cons, List.map_nil, List.cons_append, List.nil_append, List.length_cons, List.length_nil, List.zip_cons_cons, List.zip_nil_left, List.reverse_cons, List.reverse_nil, List.replicate, Option.map_some, Nat.zero_add, Nat.reduceAdd, Nat.reduceSub, Bool.false_eq_true, if_false, if_true, reduceIte]
     exact ⟨trivial, p, (l.length : Int), n, rfl, by omega, by omega, hp, hn2, hget⟩)
theorem ok_shuffled {f : Addr} {fd : FuncData} (F : Fun K "_law_shuffled" "_law_shuffled" s_law_shuffled f fd) (T : Txt K mg Sc) (D_law_draw : DefOk P w K mg base 1 "_law_draw" 2 gDraw) : FnOk P w K mg base (L2.CX P w) 2 f fd ["pen", "some"] (spG K 2 gShuffled) := by
  refine okG F sc_law_shuffled rfl fun cdv A outer s H E hr => ⟨_, ((pds_cons (pd_par (i := 2) (j := 3) rfl sc_law_shuffled.nd rfl rfl (by decide) rfl rfl (pda_cons (pd_list1C T.z_list (pda_cons (pd_v 1) pda_nil)) (pda_cons (pd_lstC pda_nil) pda_nil)) (by rfl))
      (pds_cons (pd_for passOwnG rfl (pdi_range1 T.z_range (pda_cons (pd_len T.z_len (pda_cons (pd_v 1) pda_nil)) pda_nil)) (pdg_name (i := 4) sc_law_shuffled.nd rfl (Or.inl rfl))
      (pds_one (pd_expr (pd_append (pd_v 3) (pda_cons (pd_popAt (pd_v 2) (pda_cons (pd_call D_law_draw (hr.mono (by decide)) passG (pda_cons (pd_v 0) (pda_cons (pd_len T.z_len (pda_cons (pd_v 2) pda_nil)) pda_nil))) pda_nil)) pda_nil)))))
      (pds_frz 2 (pds_frz 3 (pds_one (pd_ret (pd_v 3)))))))), fun ds s Q Z hn h => ?_⟩
  obtain ⟨p, l, n, rfl, hl, hp, hn2, h⟩ := h
  simp only [dRaise, dFrz, frz, dDict, dVals, wipeD, dYes, dSeq, dNext, dIfS, dRet, dRetN, dDrop, dAsg, gN, dIf, dB, dOp, dV, dC, sg, ss, startD, dCB, dCons, dNil, dTup, dLst, dLstC, dCall, dNo, dSome, dSl, dPar, dPar3, dAugN, dNeg, dAndV, dOrV, dNotV, dAnd, dOr, dNot, dFld, dSetF, dAugF, dMeth, dMake, dMakeD, dDGet, dDPut, dBM, dM1, gF, gTupD, gConsD, gNilD, rdInS, rdInT, itemsOf, strsOf, rdIxT, rdIx, rsT, rsL, rsU, rcLen, lenOf, rcInt, rcStr, rcList, rcListC, rcTup, rcAll, rcI2, tyN, rcIsi, isTy, rdAddI, rdSubI, rdMulI, rdModI, rdDivI, rdPowI, rdI, rdI0, rdLt, rdLe, rdGt, rdGe, rdAddS, rdAddL, rdAddT, rdEq, eqS, rdIsN, isNon, rdIsB, isBl, itL, itT, itS, itR1, itR2, itE, itZ, isLC, rbApp, rbPop, rbSplit, insOf, keyD, List.map_cons, List.map_nil, List.cons_append, List.nil_append, List.length_cons, List.length_nil, List.zip_cons_cons, List.zip_nil_left, List.reverse_cons, List.reverse_nil, List.replicate, Option.map_some, Nat.zero_add, Nat.reduceAdd, Nat.reduceSub, Bool.false_eq_true, if_false, if_true, reduceIte, dFor]
  intro a ha
  refine ⟨by decide, fun b hb => ⟨by omega, by omega, ?_⟩⟩
  have hba : b ≠ a :=
      fun e => by
    rw [e, supd_same] at hb
    cases hb
  have hb0 : s b = none := by
    rw [supd_ne hba] at hb
    exact hb
  have hpa : p ≠ a := fun e => hp.some (by rw [e]; exact ha)
  have hpb : p ≠ b := fun e => hp.some (by rw [e]; exact hb0)
  have hrl : (rangeD 0 (l.length : Int).toNat).length = l.length := by
    unfold rangeD
    rw [List.length_map,
        List.length_range]
    omega
  refine forD_all (fun i ρ s' => ∃ left found o, ρ = [some (.ref p), some (.lst l), some (.ref a), some (.ref b), o] ∧ s' a = some (.lst left) ∧ s' b = some (.lst found) ∧ (left ++ found).Perm l ∧ left.length + i = l.length ∧ found.length = i ∧ Pen s' p (n + i) ∧ ∀ c, c ≠ p → c ≠ a → c ≠ b → s' c = s c) ?_ ?_ ?_
  · refine ⟨l, [], _, rfl, ?_, supd_same, ?_, rfl, rfl, ?_, ?_⟩
    · rw [supd_ne hba.symm, supd_same]
    · rw [List.append_nil]
    · refine hp.of ?_
      rw [supd_ne hpb, supd_ne hpa]
    · intro c _ h2 h3
      rw [supd_ne h3, supd_ne h2]
  · rintro i d ρ1 s1 NX hd ⟨left, found, o, hρ, h1, h2, h3, h4, h5, h6, h7⟩ hnx
    subst ρ1
    have hil : i < l.length := by
      rw [← hrl]
      exact (List.getElem?_eq_some_iff.mp hd).1
    simp only [dRaise, dFrz, frz, dDict, dVals, wipeD, dYes, dSeq, dNext, dIfS, dRet, dRetN, dDrop, dAsg, gN, dIf, dB, dOp, dV, dC, sg, ss, startD, dCB, dCons, dNil, dTup, dLst, dLstC, dCall, dNo, dSome, dSl, dPar, dPar3, dAugN, dNeg, dAndV, dOrV, dNotV, dAnd, dOr, dNot, dFld, dSetF, dAugF, dMeth, dMake, dMakeD, dDGet, dDPut, dBM, dM1, gF, gTupD, gConsD, gNilD, rdInS, rdInT, itemsOf, strsOf, rdIxT, rdIx, rsT, rsL, rsU, rcLen, lenOf, rcInt, rcStr, rcList, rcListC, rcTup, rcAll, rcI2, tyN, rcIsi, isTy, rdAddI, rdSubI, rdMulI, rdModI, rdDivI, rdPowI, rdI, rdI0, rdLt, rdLe, rdGt, rdGe, rdAddS, rdAddL, rdAddT, rdEq, eqS, rdIsN, isNon, rdIsB, isBl, itL, itT, itS, itR1, itR2, itE, itZ, isLC, rbApp, rbPop, rbSplit, insOf, keyD, List.map_cons, List.map_nil, List.cons_append, List.nil_append, List.length_cons, List.length_nil, List.zip_cons_cons, List.zip_nil_left, List.reverse_cons, List.reverse_nil, List.replicate, Option.map_some, Nat.zero_add, Nat.reduceAdd, Nat.reduceSub, Bool.false_eq_true, if_false, if_true, reduceIte, h1, h2]
    have hsz : 1000000 < sizeLine := by decide
    refine ⟨trivial, trivial, trivial, p, (left.length : Int), n + i, rfl, by omega, by omega, h6, by omega, fun d s' hd0 hd1 hp' ho => ?_⟩
    obtain ⟨j, rfl⟩ := Int.eq_ofNat_of_zero_le hd0
    have hj : j < left.length := by omega
    obtain ⟨k, hk1, hk2, hk3, _⟩ := atI_get (atI_nat (List.getElem?_eq_getElem hj))
    have ea : s' a = some (.lst left) := (ho a hpa.symm).trans h1
    have eb : s' b = some (.lst found) := (ho b hpb.symm).trans h2
    simp only [ea]
    refine ⟨k, left[j], ⟨by omega, by omega⟩, hk1, hk2, ?_⟩
    simp only [supd_ne hba, eb]
    refine ⟨by omega, hnx _ _ ⟨left.eraseIdx k, found ++ [left[j]], _, rfl, ?_, supd_same, ?_, ?_, ?_, ?_, ?_⟩⟩
    · rw [supd_ne hba.symm, supd_same]
    · refine List.Perm.trans ?_ h3
      rw [← List.append_assoc]
      refine List.perm_append_comm.trans ?_
      rw [← List.append_assoc]
      refine List.Perm.append_right _ ?_
      have he := List.getElem?_eq_some_iff.mp hk2
      obtain ⟨hkl, he⟩ := he
      rw [← he]
      exact erase_perm _ _ hkl
    · rw [List.length_eraseIdx]
      simp only [hk3, if_true]
      omega
    · rw [List.length_append, List.length_singleton, h5]
    · refine hp'.of ?_
      rw [supd_ne hpb, supd_ne hpa]
    · intro c c1 c2 c3
      rw [supd_ne c3, supd_ne c2, ho c c1, h7 c c1 c2 c3]
  · rintro ρ1 s1 ⟨left, found, o, hρ, h1, h2, h3, h4, h5, h6, h7⟩
    rw [hrl] at h4 h5 h6
    subst ρ1
    have hleft : left = [] := List.eq_nil_of_length_eq_zero (by omega)
    subst hleft
    have e2 : sdel s1 a b = some (.lst found) := by rw [sdel_ne hba, h2]
    simp only [dRaise, dFrz, frz, dDict, dVals, wipeD, dYes, dSeq, dNext, dIfS, dRet, dRetN, dDrop, dAsg, gN, dIf, dB, dOp, dV, dC, sg, ss, startD, dCB, dCons, dNil, dTup, dLst, dLstC, dCall, dNo, dSome, dSl, dPar, dPar3, dAugN, dNeg, dAndV, dOrV, dNotV, dAnd, dOr, dNot, dFld, dSetF, dAugF, dMeth, dMake, dMakeD, dDGet, dDPut, dBM, dM1, gF, gTupD, gConsD, gNilD, rdInS, rdInT, itemsOf, strsOf, rdIxT, rdIx, rsT, rsL, rsU, rcLen, lenOf, rcInt, rcStr, rcList, rcListC, rcTup, rcAll, rcI2, tyN, rcIsi, isTy, rdAddI, rdSubI, rdMulI, rdModI, rdDivI, rdPowI, rdI, rdI0, rdLt, rdLe, rdGt, rdGe, rdAddS, rdAddL, rdAddT, rdEq, eqS, rdIsN, isNon, rdIsB, isBl, itL, itT, itS, itR1, itR2, itE, itZ, isLC, rbApp, rbPop, rbSplit, insOf, keyD, List.map_cons, List.map_nil, List.cons_append, List.nil_append, List.length_cons, List.length_nil, List.zip_cons_cons, List.zip_nil_left, List.reverse_cons, List.reverse_nil, List.replicate, Option.map_some, Nat.zero_add, Nat.reduceAdd, Nat.reduceSub, Bool.false_eq_true, if_false, if_true, reduceIte, h1, h2, e2]
    refine h found _ h3 ?_ ?_
    · refine h6.of ?_
      rw [sdel_ne hpb, sdel_ne hpa]
    · intro c hc
      by_cases c3 : c = b
      · rw [c3, sdel_same, hb0]
      · rw [sdel_ne c3]
        by_cases c2 : c = a
        · rw [c2, sdel_same, ha]
        · rw [sdel_ne c2, h7 c hc c2 c3]
theorem ok_name {f : Addr} {fd : FuncData} (F : Fun K "_law_name" "_law_name" s_law_name f fd) (T : Txt K mg Sc) (D_law_draw : DefOk P w K mg base 1 "_law_draw" 2 gDraw) : FnOk P w K mg base (L2.CX P w) 2 f fd ["pen", "index"] (spG K 2 gName) := by
  refine okG F sc_law_name rfl fun cdv A outer s H E hr => ⟨_, ((pds_cons (pd_set (i := 2) sc_law_name.nd rfl (Or.inl rfl) pd_str)
      (pds_cons (pd_for passOwnG rfl (pdi_range1 T.z_range (pda_cons (pd_addI pd_int (pd_call D_law_draw (hr.mono (by decide)) passG (pda_cons (pd_v 0) (pda_cons pd_int pda_nil)))) pda_nil)) (pdg_name (i := 3) sc_law_name.nd rfl (Or.inl rfl))
      (pds_one (pd_set (i := 2) sc_law_name.nd rfl (Or.inl rfl) (pd_addS (pd_v 2) (pd_ixT pd_str (pd_call D_law_draw (hr.mono (by decide)) passG (pda_cons (pd_v 0) (pda_cons pd_int pda_nil))))))))
      (pds_cons (pd_set (i := 4) sc_law_name.nd rfl (Or.inl rfl) (pd_addI pd_int (pd_call D_law_draw (hr.mono (by decide)) passG (pda_cons (pd_v 0) (pda_cons (pd_len T.z_len (pda_cons (pd_v 2) pda_nil)) pda_nil)))))
      (pds_one (pd_ret (pd_addS (pd_addS (pd_slT (pd_v 2) pdo_none (pdo_some (pd_v 4))) (pd_str1 T.z_str (pda_cons (pd_v 1) pda_nil))) (pd_slT (pd_v 2) (pdo_some (pd_v 4)) pdo_none)))))))), fun ds s Q Z hn h => ?_⟩
  obtain ⟨p, i0, n, rfl, hi0, hp, hn2, h⟩ := h
  simp only [dRaise, dFrz, frz, dDict, dVals, wipeD, dYes, dSeq, dNext, dIfS, dRet, dRetN, dDrop, dAsg, gN, dIf, dB, dOp, dV, dC, sg, ss, startD, dCB, dCons, dNil, dTup, dLst, dLstC, dCall, dNo, dSome, dSl, dPar, dPar3, dAugN, dNeg, dAndV, dOrV, dNotV, dAnd, dOr, dNot, dFld, dSetF, dAugF, dMeth, dMake, dMakeD, dDGet, dDPut, dBM, dM1, gF, gTupD, gConsD, gNilD, rdInS, rdInT, itemsOf, strsOf, rdIxT, rdIx, rsT, rsL, rsU, rcLen, lenOf, rcInt, rcStr, rcList, rcListC, rcTup, rcAll, rcI2, tyN, rcIsi, isTy, rdAddI, rdSubI, rdMulI, rdModI, rdDivI, rdPowI, rdI, rdI0, rdLt, rdLe, rdGt, rdGe, rdAddS, rdAddL, rdAddT, rdEq, eqS, rdIsN, isNon, rdIsB, isBl, itL, itT, itS, itR1, itR2, itE, itZ, isLC, rbApp, rbPop, rbSplit, insOf, keyD, List.map_cons, List.map_nil, List.cons_append, List.nil_append, List.length_cons, List.length_nil, List.zip_cons_cons, List.zip_nil_left, List.reverse_cons, List.reverse_nil, List.replicate, Option.map_some, Nat.zero_add, Nat.reduceAdd, Nat.reduceSub, Bool.false_eq_true, if_false, if_true, reduceIte, dFor]
  refine ⟨trivial, p, 8, n, rfl, by decide, by decide, hp, by omega, fun d s1 hd0 hd1 hp1 ho1 => ?_⟩
  obtain ⟨k0, rfl⟩ := Int.eq_ofNat_of_zero_le hd0
  refine ⟨by omega,
      by omega, ?_⟩
  have hrl : (rangeD 0 (1 + (k0 : Int)).toNat).length = 1 + k0 := by
    unfold rangeD
    rw [List.length_map,
        List.length_range]
    omega
  have hk0 : k0 < 8 := by omega
  refine forD_all (fun i ρ s' => ∃ (w : List Nat) (o : Option D), ρ = [some (.ref p), some (.int i0), some (.str (mkS w)), o, none] ∧ w.length = i ∧ (∀ c, c ∈ w → 97 ≤ c ∧ c ≤ 122) ∧ Pen s' p (n + 1 + i) ∧ Oth p s s') ⟨[], _, rfl, rfl, (by intro c hc; cases hc), hp1, ho1⟩ ?_ ?_
  · rintro i d1 ρ1 s1 NX hd ⟨wd, o, hρ, h1, h2, h3, h4⟩ hnx
    subst ρ1
    have hil : i < 1 + k0 := by
      rw [← hrl]
      exact (List.getElem?_eq_some_iff.mp hd).1
    simp only [dRaise, dFrz, frz, dDict, dVals, wipeD, dYes, dSeq, dNext, dIfS, dRet, dRetN, dDrop, dAsg, gN, dIf, dB, dOp, dV, dC, sg, ss, startD, dCB, dCons, dNil, dTup, dLst, dLstC, dCall, dNo, dSome, dSl, dPar, dPar3, dAugN, dNeg, dAndV, dOrV, dNotV, dAnd, dOr, dNot, dFld, dSetF, dAugF, dMeth, dMake, dMakeD, dDGet, dDPut, dBM, dM1, gF, gTupD, gConsD, gNilD, rdInS, rdInT, itemsOf, strsOf, rdIxT, rdIx, rsT, rsL, rsU, rcLen, lenOf, rcInt, rcStr, rcList, rcListC, rcTup, rcAll, rcI2, tyN, rcIsi, isTy, rdAddI, rdSubI, rdMulI, rdModI, rdDivI, rdPowI, rdI, rdI0, rdLt, rdLe, rdGt, rdGe, rdAddS, rdAddL, rdAddT, rdEq, eqS, rdIsN, isNon, rdIsB, isBl, itL, itT, itS, itR1, itR2, itE, itZ, isLC, rbApp, rbPop, rbSplit, insOf, keyD, List.map_cons, List.map_nil, List.cons_append, List.nil_append, List.length_cons, List.length_nil, List.zip_cons_cons, List.zip_nil_left, List.reverse_cons, List.reverse_nil, List.replicate, Option.map_some, Nat.zero_add, Nat.reduceAdd, Nat.reduceSub, Bool.false_eq_true, if_false, if_true, reduceIte]
    refine ⟨trivial, p, 26, n + 1 + i, rfl, by decide, by decide, h3, by omega, fun d s' hd0 hd1 hp' ho => ⟨by decide, ?_⟩⟩
    rw [letters_at hd0 hd1]
    refine ⟨?_, ?_⟩
    · show (mkS wd).length + 1 ≤ sizeLine
      rw [mkS_len]
      have : 1000 < sizeLine := by decide
      omega
    · refine hnx _ _ ⟨wd ++ [97 + d.toNat], some d1, ?_, ?_, ?_, hp', h4.trans ho⟩
      · rw [← mkS_append]
        rfl
      · rw [List.length_append, List.length_singleton, h1]
      · intro c hc
        rcases List.mem_append.mp
            hc with hc | hc
        · exact h2 c hc
        · rw [List.mem_singleton.mp hc]
          omega
  · rintro ρ1 s1 ⟨wd, o, hρ, h1, h2, h3, h4⟩
    subst ρ1
    rw [hrl] at h1 h3
    have hz : 1000 < sizeLine := by decide
    simp only [dRaise, dFrz, frz, dDict, dVals, wipeD, dYes, dSeq, dNext, dIfS, dRet, dRetN, dDrop, dAsg, gN, dIf, dB, dOp, dV, dC, sg, ss, startD, dCB, dCons, dNil, dTup, dLst, dLstC, dCall, dNo, dSome, dSl, dPar, dPar3, dAugN, dNeg, dAndV, dOrV, dNotV, dAnd, dOr, dNot, dFld, dSetF, dAugF, dMeth, dMake, dMakeD, dDGet, dDPut, dBM, dM1, gF, gTupD, gConsD, gNilD, rdInS, rdInT, itemsOf, strsOf, rdIxT, rdIx, rsT, rsL, rsU, rcLen, lenOf, rcInt, rcStr, rcList, rcListC, rcTup, rcAll, rcI2, tyN, rcIsi, isTy, rdAddI, rdSubI, rdMulI, rdModI, rdDivI, rdPowI, rdI, rdI0, rdLt, rdLe, rdGt, rdGe, rdAddS, rdAddL, rdAddT, rdEq, eqS, rdIsN, isNon, rdIsB, isBl, itL, itT, itS, itR1, itR2, itE, itZ, isLC, rbApp, rbPop, rbSplit, insOf, keyD, List.map_cons, List.map_nil, List.cons_append, List.nil_append, List.length_cons, List.length_nil, List.zip_cons_cons, List.zip_nil_left, List.reverse_cons, List.reverse_nil, List.replicate, Option.map_some, Nat.zero_add, Nat.reduceAdd, Nat.reduceSub, Bool.false_eq_true, if_false, if_true, reduceIte, mkS_len]
    refine ⟨by omega, trivial, p, (wd.length : Int), n + 1 + (1 + k0), rfl, by omega, by omega, h3, by omega, fun d s' hd0 hd1 hp' ho => ?_⟩
    obtain ⟨k, rfl⟩ := Int.eq_ofNat_of_zero_le hd0
    have hk : 1 + k ≤ wd.length := by omega
    have ek : (1 : Int) + (k : Int) = ((1 + k : Nat) : Int) := by omega
    dsimp only
    rw [ek, cut_pre wd hk, cut_suf wd hk, digit_text i0 hi0, mkS_append, mkS_append, mkS_len, mkS_len, mkS_len, mkS_len]
    have t1 : (wd.take (1 + k)).length = 1 + k := by
      rw [List.length_take]
      omega
    refine ⟨by omega, ?_, by rw [t1]; show 1 + k + 1 ≤ sizeLine; omega, by omega, by rw [List.length_append, t1, List.length_drop]; show 1 + k + 1 + (wd.length - (1 + k)) ≤ sizeLine; omega, ?_⟩
    · rw [Int.natAbs_natCast]
      have : i0 = 0 ∨ i0 = 1 ∨ i0 = 2 ∨ i0 = 3 ∨ i0 = 4 ∨ i0 = 5 ∨ i0 = 6 ∨ i0 = 7 ∨ i0 = 8 ∨ i0 = 9 := by omega
      rcases this with rfl | rfl | rfl | rfl | rfl | rfl | rfl | rfl | rfl | rfl <;> decide
    · refine h _ _ ⟨wd.take (1 + k), wd.drop (1 + k), ?_, ?_, fun c hc => h2 c (List.mem_of_mem_take hc), fun c hc => h2 c (List.mem_of_mem_drop hc), ?_⟩ (hp'.mono (by omega)) (h4.trans ho)
      · rw [List.append_assoc]
        rfl
      · intro e
        rw [e] at t1
        simp at t1
        omega
      · rw [t1, List.length_drop]
        omega
theorem ok_names {f : Addr} {fd : FuncData} (F : Fun K "_law_names" "_law_names" s_law_names f fd) (T : Txt K mg Sc) (D_law_name : DefOk P w K mg base 2 "_law_name" 2 gName) (D_law_shuffled : DefOk P w K mg base 2 "_law_shuffled" 2 gShuffled) : FnOk P w K mg base (L2.CX P w) 3 f fd ["pen", "many"] (spG K 2 gNames) := by
  refine okG F sc_law_names rfl fun cdv A outer s H E hr => ⟨_, ((pds_one (pd_ret (pd_call D_law_shuffled (hr.mono (by decide)) passG (pda_cons (pd_v 0) (pda_cons (pd_lc (own := [("index", 2)]) rfl sc_law_names.nd (pdi_range1 T.z_range (pda_cons (pd_v 1) pda_nil)) (blkOk_by (N := N_law_names) (sc := defScope s_law_names) (by decide +kernel)) (fun _ _ _ _ _ => (pdg_name (i := 2) sc_law_names.nd rfl (Or.inl rfl))) (fun _ _ _ _ _ => pdts_nil) (fun _ _ _ _ _ => (pd_call D_law_name (hr.mono (by decide)) passB (pda_cons (pd_v 0) (pda_cons (pd_v 2) pda_nil)))) (by decide)) pda_nil)))))), fun ds s Q Z hn h => ?_⟩
  obtain ⟨p, m, n, rfl, hm, hp, hn2, h⟩ := h
  simp only [dRaise, dFrz, frz, dDict, dVals, wipeD, dYes, dSeq, dNext, dIfS, dRet, dRetN, dDrop, dAsg, gN, dIf, dB, dOp, dV, dC, sg, ss, startD, dCB, dCons, dNil, dTup, dLst, dLstC, dCall, dNo, dSome, dSl, dPar, dPar3, dAugN, dNeg, dAndV, dOrV, dNotV, dAnd, dOr, dNot, dFld, dSetF, dAugF, dMeth, dMake, dMakeD, dDGet, dDPut, dBM, dM1, gF, gTupD, gConsD, gNilD, rdInS, rdInT, itemsOf, strsOf, rdIxT, rdIx, rsT, rsL, rsU, rcLen, lenOf, rcInt, rcStr, rcList, rcListC, rcTup, rcAll, rcI2, tyN, rcIsi, isTy, rdAddI, rdSubI, rdMulI, rdModI, rdDivI, rdPowI, rdI, rdI0, rdLt, rdLe, rdGt, rdGe, rdAddS, rdAddL, rdAddT, rdEq, eqS, rdIsN, isNon, rdIsB, isBl, itL, itT, itS, itR1, itR2, itE, itZ, isLC, rbApp, rbPop, rbSplit, insOf, keyD, List.map_cons, List.map_nil, List.cons_append, List.nil_append, List.length_cons, List.length_nil, List.zip_cons_cons, List.zip_nil_left, List.reverse_cons, List.reverse_nil, List.replicate, Option.map_some, Nat.zero_add, Nat.reduceAdd, Nat.reduceSub, Bool.false_eq_true, if_false, if_true, reduceIte]
  have hrl : (rangeD 0 ((m : Int)).toNat).length = m := by
    unfold rangeD
    rw [List.length_map,
        List.length_range]
    omega
  refine lc_inv (ds := rangeD 0 ((m : Int)).toNat) (fun Dl i acc s' => (acc.length = i ∧ ∀ j, j < i → ∃ x, acc[j]? = some (.str x) ∧ NameOf j x) ∧ s' Dl = some (.lst acc) ∧ Pen s' p (n + 10 * i) ∧ ∀ c, c ≠ p → c ≠ Dl → s' c = s c) ?_ ?_ ?_ ?_
  · intro Q Z q
    exact ⟨by omega, by omega, q⟩
  · intro Dl hD
    refine ⟨⟨rfl, fun j hj => absurd hj (Nat.not_lt_zero _)⟩, supd_same, hp.of (supd_ne fun e => hp.some (by rw [e]; exact hD)), fun c _ hc => supd_ne hc⟩
  · rintro Dl i d acc s' NX hD hd ⟨⟨h1, h2⟩, h3, h4, h5⟩ hnx
    have hil : i < m := by
      rw [← hrl]
      exact (List.getElem?_eq_some_iff.mp hd).1
    have hdi : d = .int (i : Int) := by
      unfold rangeD at hd
      rw [List.getElem?_map, List.getElem?_range (by omega)] at hd
      have := Option.some.inj hd
      rw [← this]
      show D.int (0 + (i : Int)) = _
      rw [Int.zero_add]
    subst hdi
    have hpD : Dl ≠ p := fun e => hp.some (by rw [← e]; exact hD)
    simp only [dRaise, dFrz, frz, dDict, dVals, wipeD, dYes, dSeq, dNext, dIfS, dRet, dRetN, dDrop, dAsg, gN, dIf, dB, dOp, dV, dC, sg, ss, startD, dCB, dCons, dNil, dTup, dLst, dLstC, dCall, dNo, dSome, dSl, dPar, dPar3, dAugN, dNeg, dAndV, dOrV, dNotV, dAnd, dOr, dNot, dFld, dSetF, dAugF, dMeth, dMake, dMakeD, dDGet, dDPut, dBM, dM1, gF, gTupD, gConsD, gNilD, rdInS, rdInT, itemsOf, strsOf, rdIxT, rdIx, rsT, rsL, rsU, rcLen, lenOf, rcInt, rcStr, rcList, rcListC, rcTup, rcAll, rcI2, tyN, rcIsi, isTy, rdAddI, rdSubI, rdMulI, rdModI, rdDivI, rdPowI, rdI, rdI0, rdLt, rdLe, rdGt, rdGe, rdAddS, rdAddL, rdAddT, rdEq, eqS, rdIsN, isNon, rdIsB, isBl, itL, itT, itS, itR1, itR2, itE, itZ, isLC, rbApp, rbPop, rbSplit, insOf, keyD, List.map_cons, List.map_nil, List.cons_append, List.nil_append, List.length_cons, List.length_nil, List.zip_cons_cons, List.zip_nil_left, List.reverse_cons, List.reverse_nil, List.replicate, Option.map_some, Nat.zero_add, Nat.reduceAdd, Nat.reduceSub, Bool.false_eq_true, if_false, if_true, reduceIte]
    refine ⟨trivial, p, i, n + 10 * i, rfl, by omega, h4, by omega, fun x s'' hx hp' ho => ⟨(ho Dl hpD).trans h3, ?_, hnx _ _ ⟨⟨?_, ?_⟩, supd_same, ?_, ?_⟩⟩⟩
    · have : 1000 < sizeLine := by decide
      omega
    · rw [List.length_append, List.length_singleton, h1]
    · intro j hj
      by_cases hji : j = i
      · subst hji
        refine ⟨x, ?_, hx⟩
        rw [← h1, List.getElem?_append_right (Nat.le_refl _), Nat.sub_self]
        rfl
      · obtain ⟨y, hy1, hy2⟩ := h2 j (by omega)
        refine ⟨y, ?_, hy2⟩
        rw [List.getElem?_append_left (by omega)]
        exact hy1
    · refine (hp'.mono (by omega)).of (supd_ne hpD.symm)
    · intro c hc1 hc2
      rw [supd_ne hc2, ho c hc1, h5 c hc1 hc2]
  · rintro Dl acc s' hD ⟨⟨h1, h2⟩, h3, h4, h5⟩
    rw [hrl] at h1 h2 h4
    have hpD : Dl ≠ p := fun e => hp.some (by rw [← e]; exact hD)
    refine ⟨h3, trivial, p, acc, n + 10 * m, rfl, by omega, h4.of (sdel_ne hpD.symm), by omega, fun l' s2 hl hp2 ho2 => h acc l' s2 ⟨h1, h2⟩ hl (hp2.mono (by omega)) ?_⟩
    intro c hc
    rw [ho2 c hc]
    by_cases hcD : c = Dl
    · rw [hcD, sdel_same, hD]
    · rw [sdel_ne hcD, h5 c hc hcD]
end
end K34

/-! K34f: the law's own small defs. -/
namespace K34
open PySem PySem.Spec PyProof.Rows L2 G
/-- data of at most so many levels -/
def Dep : Nat → D → Prop
  | 0, _ => False
  | _ + 1, .non => True
  | _ + 1, .bl _ => True
  | _ + 1, .int _ => True
  | _ + 1, .str _ => True
  | n + 1, .tup l => l.length < 1000000 ∧ ∀ x, x ∈ l → Dep n x
  | _ + 1, _ => False
def gSame (n : Nat) : DF := fun ds s Q _ => ∃ d, ds = [d, d] ∧ Dep n d ∧ Q (.bl true) s
def gIsSign : DF := fun ds s Q _ => ∃ x, ds = [.str x] ∧ Q (.bl (signsL.contains x)) s
def behind : List Nat → Int × Int → Int × Int
  | [], p => p
  | c :: r, p => behind r (if c = 10 then (p.1 + 1, 1) else (p.1, p.2 + 1))
def plD (p : Int × Int) : D := .tup [.int p.1, .int p.2]
def gBehind : DF := fun ds s Q _ => ∃ p w, ds = [plD p, .str (mkS w)] ∧ Q (plD (behind w p)) s
def movP (h p : Int × Int) : Int × Int := (p.1 + h.1 - 1, p.2 + if p.1 = 1 then h.2 - 1 else 0)
/-- rows by kind, word, place -/
abbrev Row := D × D × (Int × Int)
def rwD (r : Row) : D := .tup [r.1, r.2.1, plD r.2.2]
def gMoved : DF := fun ds s Q _ => ∃ (rows : List Row) (h : Int × Int), ds = [.tup (rows.map rwD), plD h] ∧ rows.length < 1000000 ∧ Q (.lst (rows.map fun r => rwD (r.1, r.2.1, movP h r.2.2))) s
def gAlone : DF := fun ds s Q _ => ∃ x rows kd r, ds = [.str x] ∧ Sh x ∧ Tk x.cps.toList 1 1 rows none ∧ rows[0]? = some (.tup (kd :: r)) ∧ Q kd s
theorem mo_Same (n : Nat) : MoF (gSame n) := fun _ _ _ _ _ _ h _ ⟨d, e, e2, q⟩ => ⟨d, e, e2, h _ _ q⟩
theorem mo_IsSign : MoF gIsSign := fun _ _ _ _ _ _ h _ ⟨x, e, q⟩ => ⟨x, e, h _ _ q⟩
theorem mo_Behind : MoF gBehind := fun _ _ _ _ _ _ h _ ⟨x, y, e, q⟩ => ⟨x, y, e, h _ _ q⟩
theorem mo_Moved : MoF gMoved := fun _ _ _ _ _ _ h _ ⟨x, y, e, e2, q⟩ => ⟨x, y, e, e2, h _ _ q⟩
theorem mo_Alone : MoF gAlone := fun _ _ _ _ _ _ h _ ⟨x, y, a, b, e, e2, e3, e4, q⟩ => ⟨x, y, a, b, e, e2, e3, e4, h _ _ q⟩
theorem zip_self {d : D} : ∀ {l : List D}, d ∈ zipD l l → ∃ x, x ∈ l ∧ d = .tup [x, x]
  | x :: l, h => by
    unfold zipD at h
    rw [List.zipWith_cons_cons] at h
    rcases List.mem_cons.mp h with h | h
    · exact ⟨x, List.mem_cons_self, h⟩
    · obtain ⟨y, hy, e⟩ := zip_self (l := l) h
      exact ⟨y,
          List.mem_cons_of_mem _ hy, e⟩
theorem bls_true : ∀ l : List D, ∃ bs, blsOf (l.filterMap fun _ => some (.bl true)) = some bs ∧ bs.all id = true
  | [] => ⟨[], rfl, rfl⟩
  | d :: l => by
    obtain ⟨bs, h1, h2⟩ := bls_true l
    refine ⟨true :: bs, ?_, ?_⟩
    · show (blsOf (l.filterMap fun _ => some (.bl true))).map (true :: ·) = _
      rw [h1]
      rfl
    · rw [List.all_cons, h2]
      rfl
theorem behind_append : ∀ (a b : List Nat) (p : Int × Int), behind (a ++ b) p = behind b (behind a p)
  | [], _, _ => rfl
  | c :: a, b, p => behind_append a b _
section
variable {P : Program} {w : World} {K : PySem.W.Frag} {mg : Str → Option Value} {base : Heap} {Sc Mi : Addr}
theorem ok_same0 {f : Addr} {fd : FuncData} {ps : List Str} : FnOk P w K mg base (L2.CX P w) 0 f fd ps (spG K 2 (gSame 0)) := by
  refine ⟨fun vs H Q E h => ?_, fun A outer s H args us vs Q E _ _ _ _ h => ?_⟩
  · obtain ⟨_, _, _, _, _, _, _, h, _⟩ := h
    exact h.elim
  · obtain ⟨_, _, _, _, _, _, _, h, _⟩ := h
    exact h.elim
theorem ok_same {f : Addr} {fd : FuncData} {n : Nat} (F : Fun K "_law_same" "_law_same" s_law_same f fd) (T : Txt K mg Sc) (D_law_same : DefOk P w K mg base n "_law_same" 2 (gSame n)) : FnOk P w K mg base (L2.CX P w) (n + 1) f fd ["told", "due"] (spG K 2 (gSame (n + 1))) := by
  refine okG F sc_law_same rfl fun cdv A outer s H E hr => ⟨_, ((pds_cons (pd_ifS (pd_valT (pd_isi T.z_isinstance (pda_cons (pd_v 1) (pda_cons (pd_bltn (n := "tuple") (by rfl) T.z_tuple (by decide +kernel)) pda_nil))))
      (pds_one (pd_ret (pd_and (pd_isi T.z_isinstance (pda_cons (pd_v 0) (pda_cons (pd_bltn (n := "tuple") (by rfl) T.z_tuple (by decide +kernel)) pda_nil))) (pd_and (pd_eq (pd_len T.z_len (pda_cons (pd_v 0) pda_nil)) (pd_len T.z_len (pda_cons (pd_v 1) pda_nil))) (pd_one (pd_all rfl T.z_all (pda_cons (pd_lc (own := [("one", 2), ("two", 3)]) rfl sc_law_same.nd (pdi_zip T.z_zip (pda_cons (pd_v 0) (pda_cons (pd_v 1) pda_nil))) (blkOk_by (N := N_law_same) (sc := defScope s_law_same) (by decide +kernel)) (fun _ _ _ _ _ => (pdg_tupB (n := 2) rfl (pdgs_cons (pdg_name (i := 2) sc_law_same.nd rfl (Or.inl rfl)) (pdgs_cons (pdg_name (i := 3) sc_law_same.nd rfl (Or.inl rfl)) pdgs_nil)))) (fun _ _ _ _ _ => pdts_nil) (fun _ _ _ _ _ => (pd_call D_law_same hr passB (pda_cons (pd_v 2) (pda_cons (pd_v 3) pda_nil)))) (by decide)) pda_nil)))))))
      pds_nil)
      (pds_cons (pd_ifS (pt_isN (pd_v 1) pd_non)
      (pds_one (pd_ret (pd_isN (pd_v 0) pd_non)))
      pds_nil)
      (pds_cons (pd_ifS (pt_isB (pd_v 1) pd_bl)
      (pds_one (pd_ret (pd_isB (pd_v 0) pd_bl)))
      pds_nil)
      (pds_cons (pd_ifS (pt_isB (pd_v 1) pd_bl)
      (pds_one (pd_ret (pd_isB (pd_v 0) pd_bl)))
      pds_nil)
      (pds_cons (pd_ifS (pd_valT (pd_isi T.z_isinstance (pda_cons (pd_v 1) (pda_cons (pd_bltn (n := "int") (by rfl) T.z_int (by decide +kernel)) pda_nil))))
      (pds_one (pd_ret (pd_and (pd_isi T.z_isinstance (pda_cons (pd_v 0) (pda_cons (pd_bltn (n := "int") (by rfl) T.z_int (by decide +kernel)) pda_nil))) (pd_and (pd_not (pd_isi T.z_isinstance (pda_cons (pd_v 0) (pda_cons (pd_bltn (n := "bool") (by rfl) T.z_bool (by decide +kernel)) pda_nil)))) (pd_one (pd_eq (pd_v 0) (pd_v 1)))))))
      pds_nil)
      (pds_one (pd_ret (pd_and (pd_isi T.z_isinstance (pda_cons (pd_v 0) (pda_cons (pd_bltn (n := "str") (by rfl) T.z_str (by decide +kernel)) pda_nil))) (pd_one (pd_eq (pd_v 0) (pd_v 1)))))))))))), fun ds s Q Z hn h => ?_⟩
  obtain ⟨d, rfl, hd, h⟩ := h
  match d, hd with
  | .non, _ =>
    simp only [dRaise, dFrz, frz, dDict, dVals, wipeD, dYes, dSeq, dNext, dIfS, dRet, dRetN, dDrop, dAsg, gN, dIf, dB, dOp, dV, dC, sg, ss, startD, dCB, dCons, dNil, dTup, dLst, dLstC, dCall, dNo, dSome, dSl, dPar, dPar3, dAugN, dNeg, dAndV, dOrV, dNotV, dAnd, dOr, dNot, dFld, dSetF, dAugF, dMeth, dMake, dMakeD, dDGet, dDPut, dBM, dM1, gF, gTupD, gConsD, gNilD, rdInS, rdInT, itemsOf, strsOf, rdIxT, rdIx, rsT, rsL, rsU, rcLen, lenOf, rcInt, rcStr, rcList, rcListC, rcTup, rcAll, rcI2, tyN, rcIsi, it_NoneType_tuple, it_NoneType_int, it_NoneType_str, it_NoneType_bool, it_NoneType_list, it_bool_tuple, it_bool_int, it_bool_str, it_bool_bool, it_bool_list, it_int_tuple, it_int_int, it_int_str, it_int_bool, it_int_list, it_str_tuple, it_str_int, it_str_str, it_str_bool, it_str_list, it_tuple_tuple, it_tuple_int, it_tuple_str, it_tuple_bool, it_tuple_list, it_list_tuple, it_list_int, it_list_str, it_list_bool, it_list_list, ct_tuple, ct_int, ct_str, ct_bool, ct_list, Bool.not_true, Bool.not_false, rdAddI, rdSubI, rdMulI, rdModI, rdDivI, rdPowI, rdI, rdI0, rdLt, rdLe, rdGt, rdGe, rdAddS, rdAddL, rdAddT, rdEq, eqS, rdIsN, isNon, rdIsB, isBl, itL, itT, itS, itR1, itR2, itE, itZ, isLC, rbApp, rbPop, rbSplit, insOf, keyD, List.map_cons, List.map_nil, List.cons_append, List.nil_append, List.length_cons, List.length_nil, List.zip_cons_cons, List.zip_nil_left, List.reverse_cons, List.reverse_nil, List.replicate, Option.map_some, Nat.zero_add, Nat.reduceAdd, Nat.reduceSub, Bool.false_eq_true, if_false, if_true, reduceIte]
    exact ⟨trivial, h⟩
  | .bl true, _ =>
    simp only [dRaise, dFrz, frz, dDict, dVals, wipeD, dYes, dSeq, dNext, dIfS, dRet, dRetN, dDrop, dAsg, gN, dIf, dB, dOp, dV, dC, sg, ss, startD, dCB, dCons, dNil, dTup, dLst, dLstC, dCall, dNo, dSome, dSl, dPar, dPar3, dAugN, dNeg, dAndV, dOrV, dNotV, dAnd, dOr, dNot, dFld, dSetF, dAugF, dMeth, dMake, dMakeD, dDGet, dDPut, dBM, dM1, gF, gTupD, gConsD, gNilD, rdInS, rdInT, itemsOf, strsOf, rdIxT, rdIx, rsT, rsL, rsU, rcLen, lenOf, rcInt, rcStr, rcList, rcListC, rcTup, rcAll, rcI2, tyN, rcIsi, it_NoneType_tuple, it_NoneType_int, it_NoneType_str, it_NoneType_bool, it_NoneType_list, it_bool_tuple, it_bool_int, it_bool_str, it_bool_bool, it_bool_list, it_int_tuple, it_int_int, it_int_str, it_int_bool, it_int_list, it_str_tuple, it_str_int, it_str_str, it_str_bool, it_str_list, it_tuple_tuple, it_tuple_int, it_tuple_str, it_tuple_bool, it_tuple_list, it_list_tuple, it_list_int, it_list_str, it_list_bool, it_list_list, ct_tuple, ct_int, ct_str, ct_bool, ct_list, Bool.not_true, Bool.not_false, rdAddI, rdSubI, rdMulI, rdModI, rdDivI, rdPowI, rdI, rdI0, rdLt, rdLe, rdGt, rdGe, rdAddS, rdAddL, rdAddT, rdEq, eqS, rdIsN, isNon, rdIsB, isBl, itL, itT, itS, itR1, itR2, itE, itZ, isLC, rbApp, rbPop, rbSplit, insOf, keyD, List.map_cons, List.map_nil, List.cons_append, List.nil_append, List.length_cons, List.length_nil, List.zip_cons_cons, List.zip_nil_left, List.reverse_cons, List.reverse_nil, List.replicate, Option.map_some, Nat.zero_add, Nat.reduceAdd, Nat.reduceSub, Bool.false_eq_true, if_false, if_true, reduceIte]
    exact ⟨trivial, h⟩
  | .bl false, _ =>
    simp only [dRaise, dFrz, frz, dDict, dVals, wipeD, dYes, dSeq, dNext, dIfS, dRet, dRetN, dDrop, dAsg, gN, dIf, dB, dOp, dV, dC, sg, ss, startD, dCB, dCons, dNil, dTup, dLst, dLstC, dCall, dNo, dSome, dSl, dPar, dPar3, dAugN, dNeg, dAndV, dOrV, dNotV, dAnd, dOr, dNot, dFld, dSetF, dAugF, dMeth, dMake, dMakeD, dDGet, dDPut, dBM, dM1, gF, gTupD, gConsD, gNilD, rdInS, rdInT, itemsOf, strsOf, rdIxT, rdIx, rsT, rsL, rsU, rcLen, lenOf, rcInt, rcStr, rcList, rcListC, rcTup, rcAll, rcI2, tyN, rcIsi, it_NoneType_tuple, it_NoneType_int, it_NoneType_str, it_NoneType_bool, it_NoneType_list, it_bool_tuple, it_bool_int, it_bool_str, it_bool_bool, it_bool_list, it_int_tuple, it_int_int, it_int_str, it_int_bool, it_int_list, it_str_tuple, it_str_int, it_str_str, it_str_bool, it_str_list, it_tuple_tuple, it_tuple_int, it_tuple_str, it_tuple_bool, it_tuple_list, it_list_tuple, it_list_int, it_list_str, it_list_bool, it_list_list, ct_tuple, ct_int, ct_str, ct_bool, ct_list, Bool.not_true, Bool.not_false, rdAddI, rdSubI, rdMulI, rdModI, rdDivI, rdPowI, rdI, rdI0, rdLt, rdLe, rdGt, rdGe, rdAddS, rdAddL, rdAddT, rdEq, eqS, rdIsN, isNon, rdIsB, isBl, itL, itT, itS, itR1, itR2, itE, itZ, isLC, rbApp, rbPop, rbSplit, insOf, keyD, List.map_cons, List.map_nil, List.cons_append, List.nil_append, List.length_cons, List.length_nil, List.zip_cons_cons, List.zip_nil_left, List.reverse_cons, List.reverse_nil, List.replicate, Option.map_some, Nat.zero_add, Nat.reduceAdd, Nat.reduceSub, Bool.false_eq_true, if_false, if_true, reduceIte]
    exact ⟨trivial, h⟩
  | .int i, _ =>
    simp only [dRaise, dFrz, frz, dDict, dVals, wipeD, dYes, dSeq, dNext, dIfS, dRet, dRetN, dDrop, dAsg, gN, dIf, dB, dOp, dV, dC, sg, ss, startD, dCB, dCons, dNil, dTup, dLst, dLstC, dCall, dNo, dSome, dSl, dPar, dPar3, dAugN, dNeg, dAndV, dOrV, dNotV, dAnd, dOr, dNot, dFld, dSetF, dAugF, dMeth, dMake, dMakeD, dDGet, dDPut, dBM, dM1, gF, gTupD, gConsD, gNilD, rdInS, rdInT, itemsOf, strsOf, rdIxT, rdIx, rsT, rsL, rsU, rcLen, lenOf, rcInt, rcStr, rcList, rcListC, rcTup, rcAll, rcI2, tyN, rcIsi, it_NoneType_tuple, it_NoneType_int, it_NoneType_str, it_NoneType_bool, it_NoneType_list, it_bool_tuple, it_bool_int, it_bool_str, it_bool_bool, it_bool_list, it_int_tuple, it_int_int, it_int_str, it_int_bool, it_int_list, it_str_tuple, it_str_int, it_str_str, it_str_bool, it_str_list, it_tuple_tuple, it_tuple_int, it_tuple_str, it_tuple_bool, it_tuple_list, it_list_tuple, it_list_int, it_list_str, it_list_bool, it_list_list, ct_tuple, ct_int, ct_str, ct_bool, ct_list, Bool.not_true, Bool.not_false, rdAddI, rdSubI, rdMulI, rdModI, rdDivI, rdPowI, rdI, rdI0, rdLt, rdLe, rdGt, rdGe, rdAddS, rdAddL, rdAddT, rdEq, eqS, rdIsN, isNon, rdIsB, isBl, itL, itT, itS, itR1, itR2, itE, itZ, isLC, rbApp, rbPop, rbSplit, insOf, keyD, List.map_cons, List.map_nil, List.cons_append, List.nil_append, List.length_cons, List.length_nil, List.zip_cons_cons, List.zip_nil_left, List.reverse_cons, List.reverse_nil, List.replicate, Option.map_some, Nat.zero_add, Nat.reduceAdd, Nat.reduceSub, Bool.false_eq_true, if_false, if_true, reduceIte, beq_self_eq_true]
    exact ⟨trivial, trivial, trivial, trivial, h⟩
  | .str x, _ =>
    simp only [dRaise, dFrz, frz, dDict, dVals, wipeD, dYes, dSeq, dNext, dIfS, dRet, dRetN, dDrop, dAsg, gN, dIf, dB, dOp, dV, dC, sg, ss, startD, dCB, dCons, dNil, dTup, dLst, dLstC, dCall, dNo, dSome, dSl, dPar, dPar3, dAugN, dNeg, dAndV, dOrV, dNotV, dAnd, dOr, dNot, dFld, dSetF, dAugF, dMeth, dMake, dMakeD, dDGet, dDPut, dBM, dM1, gF, gTupD, gConsD, gNilD, rdInS, rdInT, itemsOf, strsOf, rdIxT, rdIx, rsT, rsL, rsU, rcLen, lenOf, rcInt, rcStr, rcList, rcListC, rcTup, rcAll, rcI2, tyN, rcIsi, it_NoneType_tuple, it_NoneType_int, it_NoneType_str, it_NoneType_bool, it_NoneType_list, it_bool_tuple, it_bool_int, it_bool_str, it_bool_bool, it_bool_list, it_int_tuple, it_int_int, it_int_str, it_int_bool, it_int_list, it_str_tuple, it_str_int, it_str_str, it_str_bool, it_str_list, it_tuple_tuple, it_tuple_int, it_tuple_str, it_tuple_bool, it_tuple_list, it_list_tuple, it_list_int, it_list_str, it_list_bool, it_list_list, ct_tuple, ct_int, ct_str, ct_bool, ct_list, Bool.not_true, Bool.not_false, rdAddI, rdSubI, rdMulI, rdModI, rdDivI, rdPowI, rdI, rdI0, rdLt, rdLe, rdGt, rdGe, rdAddS, rdAddL, rdAddT, rdEq, eqS, rdIsN, isNon, rdIsB, isBl, itL, itT, itS, itR1, itR2, itE, itZ, isLC, rbApp, rbPop, rbSplit, insOf, keyD, List.map_cons, List.map_nil, List.cons_append, List.nil_append, List.length_cons, List.length_nil, List.zip_cons_cons, List.zip_nil_left, List.reverse_cons, List.reverse_nil, List.replicate, Option.map_some, Nat.zero_add, Nat.reduceAdd, Nat.reduceSub, Bool.false_eq_true, if_false, if_true, reduceIte, beq_self_eq_true]
    exact ⟨trivial, trivial, trivial, h⟩
  | .tup l, hd =>
    have hc : Val (dLc (itZ (dCons (dV 0) (dCons (dV 1) dNil))) (gTupD 2 (gConsD (gN 2) (gConsD (gN 3) gNilD))) dYes (dCall 2 (gSame n) (dCons (dV 2) (dCons (dV 3) dNil))) [2, 3]) (startD 4 [.tup l, .tup l]) s (.lst ((zipD l l).filterMap fun _ => some (.bl true))) := by
      refine val_lc (ds := zipD l l) _ (fun Q Z q => q) ?_ (fun d hd' => ?_)
      · unfold zipD
        rw [List.length_zipWith, Nat.min_self]
        exact Nat.lt_trans hd.1 (by decide)
      · obtain ⟨x, hx, rfl⟩ := zip_self hd'
        exact ⟨_, true, fun s' P p => ⟨rfl, p⟩, fun s' Q Z q => q, fun _ => ⟨_, rfl, fun s' Q Z q => ⟨rfl, x, rfl, hd.2 x hx, q⟩⟩, fun z => nomatch z⟩
    refine s_when (b := true) (fun Q Z q => ⟨rfl, q⟩) (fun _ => ?_) (fun z => nomatch z)
    refine s_ret (d := .bl true) (val_and (a := true) (b := true) (fun Q Z q => ⟨rfl, q⟩) (fun _ => val_and (a := true) (b := true) (fun Q Z q => ?_) (fun _ => val_cb1 hc fun Q q => ?_))) h
    · show Q (.bl ((l.length : Int) == (l.length : Int))) s
      rw [beq_self_eq_true]
      exact q
    · obtain ⟨bs, h1, h2⟩ := bls_true (zipD l l)
      show match blsOf ((zipD l l).filterMap fun _ => some (.bl true)) with
        | some bs => Q (.bl (bs.all id)) s
        | none => False
      rw [h1]
      show Q (.bl (bs.all id)) s
      rw [h2]
      exact q
end
end K34

/-! K34g: more small defs. -/
namespace K34
open PySem PySem.Spec PyProof.Rows L2 G
section
variable {P : Program} {w : World} {K : PySem.W.Frag} {mg : Str → Option Value} {base : Heap} {Sc Mi : Addr}
theorem ok_is_sign {f : Addr} {fd : FuncData} (F : Fun K "_law_is_sign" "_law_is_sign" s_law_is_sign f fd) (T : Txt K mg Sc) : FnOk P w K mg base (L2.CX P w) 1 f fd ["word"] (spG K 1 gIsSign) := by
  refine okG F sc_law_is_sign rfl fun cdv A outer s H E hr => ⟨_, ((pds_one (pd_ret (pd_inS (pd_v 0) (pd_lst (pda_cons pd_str (pda_cons pd_str (pda_cons pd_str (pda_cons pd_str (pda_cons pd_str pda_nil)))))))))), fun ds s Q Z hn h => ?_⟩
  obtain ⟨x, rfl, h⟩ := h
  simp only [dRaise, dFrz, frz, dDict, dVals, wipeD, dYes, dSeq, dNext, dIfS, dRet, dRetN, dDrop, dAsg, gN, dIf, dB, dOp, dV, dC, sg, ss, startD, dCB, dCons, dNil, dTup, dLst, dLstC, dCall, dNo, dSome, dSl, dPar, dPar3, dAugN, dNeg, dAndV, dOrV, dNotV, dAnd, dOr, dNot, dFld, dSetF, dAugF, dMeth, dMake, dMakeD, dDGet, dDPut, dBM, dM1, gF, gTupD, gConsD, gNilD, rdInS, rdInT, itemsOf, strsOf, rdIxT, rdIx, rsT, rsL, rsU, rcLen, lenOf, rcInt, rcStr, rcList, rcListC, rcTup, rcAll, rcI2, tyN, rcIsi, isTy, rdAddI, rdSubI, rdMulI, rdModI, rdDivI, rdPowI, rdI, rdI0, rdLt, rdLe, rdGt, rdGe, rdAddS, rdAddL, rdAddT, rdEq, eqS, rdIsN, isNon, rdIsB, isBl, itL, itT, itS, itR1, itR2, itE, itZ, isLC, rbApp, rbPop, rbSplit, insOf, keyD, List.map_cons, List.map_nil, List.cons_append, List.nil_append, List.length_cons, List.length_nil, List.zip_cons_cons, List.zip_nil_left, List.reverse_cons, List.reverse_nil, List.replicate, Option.map_some, Nat.zero_add, Nat.reduceAdd, Nat.reduceSub, Bool.false_eq_true, if_false, if_true, reduceIte]
  exact ⟨by decide, h⟩
theorem ok_behind {f : Addr} {fd : FuncData} (F : Fun K "_law_behind_text" "_law_behind_text" s_law_behind_text f fd) (T : Txt K mg Sc) : FnOk P w K mg base (L2.CX P w) 1 f fd ["place", "text"] (spG K 2 gBehind) := by
  refine okG F sc_law_behind_text rfl fun cdv A outer s H E hr => ⟨_, ((pds_cons (pd_asg (pd_v 0) (pdg_tup rfl (pdgs_cons (pdg_name (i := 2) sc_law_behind_text.nd rfl (Or.inl rfl)) (pdgs_cons (pdg_name (i := 3) sc_law_behind_text.nd rfl (Or.inl rfl)) pdgs_nil))))
      (pds_cons (pd_for passOwnG rfl (pdi_str (pd_v 1)) (pdg_name (i := 4) sc_law_behind_text.nd rfl (Or.inl rfl))
      (pds_one (pd_asg (pd_if (pt_eqD (pd_v 4) pd_str) (pd_tup (pda_cons (pd_addI (pd_v 2) pd_int) (pda_cons pd_int pda_nil))) (pd_tup (pda_cons (pd_v 2) (pda_cons (pd_addI (pd_v 3) pd_int) pda_nil)))) (pdg_tup rfl (pdgs_cons (pdg_name (i := 2) sc_law_behind_text.nd rfl (Or.inl rfl)) (pdgs_cons (pdg_name (i := 3) sc_law_behind_text.nd rfl (Or.inl rfl)) pdgs_nil))))))
      (pds_one (pd_ret (pd_tup (pda_cons (pd_v 2) (pda_cons (pd_v 3) pda_nil)))))))), fun ds s Q Z hn h => ?_⟩
  obtain ⟨p, x, rfl, h⟩ := h
  unfold plD at h ⊢
  simp only [dRaise, dFrz, frz, dDict, dVals, wipeD, dYes, dSeq, dNext, dIfS, dRet, dRetN, dDrop, dAsg, gN, dIf, dB, dOp, dV, dC, sg, ss, startD, dCB, dCons, dNil, dTup, dLst, dLstC, dCall, dNo, dSome, dSl, dPar, dPar3, dAugN, dNeg, dAndV, dOrV, dNotV, dAnd, dOr, dNot, dFld, dSetF, dAugF, dMeth, dMake, dMakeD, dDGet, dDPut, dBM, dM1, gF, gTupD, gConsD, gNilD, rdInS, rdInT, itemsOf, strsOf, rdIxT, rdIx, rsT, rsL, rsU, rcLen, lenOf, rcInt, rcStr, rcList, rcListC, rcTup, rcAll, rcI2, tyN, rcIsi, isTy, rdAddI, rdSubI, rdMulI, rdModI, rdDivI, rdPowI, rdI, rdI0, rdLt, rdLe, rdGt, rdGe, rdAddS, rdAddL, rdAddT, rdEq, eqS, rdIsN, isNon, rdIsB, isBl, itL, itT, itS, itR1, itR2, itE, itZ, isLC, rbApp, rbPop, rbSplit, insOf, keyD, List.map_cons, List.map_nil, List.cons_append, List.nil_append, List.length_cons, List.length_nil, List.zip_cons_cons, List.zip_nil_left, List.reverse_cons, List.reverse_nil, List.replicate, Option.map_some, Nat.zero_add, Nat.reduceAdd, Nat.reduceSub, Bool.false_eq_true, if_false, if_true, reduceIte, dFor]
  refine ⟨rfl, ?_⟩
  refine forD_all (fun i ρ s' => ∃ q o, ρ = [some (.tup [.int p.1, .int p.2]), some (.str (mkS x)), some (.int q.1), some (.int q.2), o] ∧ behind (x.drop i) q = behind x p ∧ s' = s) ⟨p, _, rfl, rfl, rfl⟩ ?_ ?_
  · rintro i d ρ1 s1 NX hd ⟨q, o, hρ, h1, h2⟩ hnx
    subst ρ1
    subst s1
    unfold signsD at hd
    rw [List.getElem?_map, mkS_cps] at hd
    obtain ⟨c, hc, rfl⟩ := Option.map_eq_some_iff.mp hd
    have hnl : ("\n" : Str) = ⟨#[10]⟩ := by decide +kernel
    have hdr : x.drop i = c :: x.drop (i + 1) := by
      obtain ⟨hi, hc'⟩ := List.getElem?_eq_some_iff.mp hc
      rw [List.drop_eq_getElem_cons hi, hc']
    rw [hdr] at h1
    by_cases h10 : c = 10
    · have e1 : ((⟨#[c]⟩ : Str) == "\n") = true := by
        rw [hnl, one_eq, h10]
        rfl
      simp only [dRaise, dFrz, frz, dDict, dVals, wipeD, dYes, dSeq, dNext, dIfS, dRet, dRetN, dDrop, dAsg, gN, dIf, dB, dOp, dV, dC, sg, ss, startD, dCB, dCons, dNil, dTup, dLst, dLstC, dCall, dNo, dSome, dSl, dPar, dPar3, dAugN, dNeg, dAndV, dOrV, dNotV, dAnd, dOr, dNot, dFld, dSetF, dAugF, dMeth, dMake, dMakeD, dDGet, dDPut, dBM, dM1, gF, gTupD, gConsD, gNilD, rdInS, rdInT, itemsOf, strsOf, rdIxT, rdIx, rsT, rsL, rsU, rcLen, lenOf, rcInt, rcStr, rcList, rcListC, rcTup, rcAll, rcI2, tyN, rcIsi, isTy, rdAddI, rdSubI, rdMulI, rdModI, rdDivI, rdPowI, rdI, rdI0, rdLt, rdLe, rdGt, rdGe, rdAddS, rdAddL, rdAddT, rdEq, eqS, rdIsN, isNon, rdIsB, isBl, itL, itT, itS, itR1, itR2, itE, itZ, isLC, rbApp, rbPop, rbSplit, insOf, keyD, List.map_cons, List.map_nil, List.cons_append, List.nil_append, List.length_cons, List.length_nil, List.zip_cons_cons, List.zip_nil_left, List.reverse_cons, List.reverse_nil, List.replicate, Option.map_some, Nat.zero_add, Nat.reduceAdd, Nat.reduceSub, Bool.false_eq_true, if_false, if_true, reduceIte, e1]
      refine ⟨by decide, rfl, hnx _ _ ⟨(q.1 + 1, 1), _, rfl, ?_, rfl⟩⟩
      have h1' : behind (x.drop (i + 1)) (if c = 10 then (q.1 + 1, 1) else (q.1, q.2 + 1)) = behind x p := h1
      rw [if_pos h10] at h1'
      exact h1'
    · have e1 : ((⟨#[c]⟩ : Str) == "\n") = false := by
        rw [hnl, one_eq]
        simpa using h10
      simp only [dRaise, dFrz, frz, dDict, dVals, wipeD, dYes, dSeq, dNext, dIfS, dRet, dRetN, dDrop, dAsg, gN, dIf, dB, dOp, dV, dC, sg, ss, startD, dCB, dCons, dNil, dTup, dLst, dLstC, dCall, dNo, dSome, dSl, dPar, dPar3, dAugN, dNeg, dAndV, dOrV, dNotV, dAnd, dOr, dNot, dFld, dSetF, dAugF, dMeth, dMake, dMakeD, dDGet, dDPut, dBM, dM1, gF, gTupD, gConsD, gNilD, rdInS, rdInT, itemsOf, strsOf, rdIxT, rdIx, rsT, rsL, rsU, rcLen, lenOf, rcInt, rcStr, rcList, rcListC, rcTup, rcAll, rcI2, tyN, rcIsi, isTy, rdAddI, rdSubI, rdMulI, rdModI, rdDivI, rdPowI, rdI, rdI0, rdLt, rdLe, rdGt, rdGe, rdAddS, rdAddL, rdAddT, rdEq, eqS, rdIsN, isNon, rdIsB, isBl, itL, itT, itS, itR1, itR2, itE, itZ, isLC, rbApp, rbPop, rbSplit, insOf, keyD, List.map_cons, List.map_nil, List.cons_append, List.nil_append, List.length_cons, List.length_nil, List.zip_cons_cons, List.zip_nil_left, List.reverse_cons, List.reverse_nil, List.replicate, Option.map_some, Nat.zero_add, Nat.reduceAdd, Nat.reduceSub, Bool.false_eq_true, if_false, if_true, reduceIte, e1]
      refine ⟨by decide, rfl, hnx _ _ ⟨(q.1, q.2 + 1), _, rfl, ?_, rfl⟩⟩
      have h1' : behind (x.drop (i + 1)) (if c = 10 then (q.1 + 1, 1) else (q.1, q.2 + 1)) = behind x p := h1
      rw [if_neg h10] at h1'
      exact h1'
  · rintro ρ1 s1 ⟨q, o, hρ, h1, h2⟩
    subst ρ1
    subst s1
    have hl : (signsD (mkS x)).length = x.length := by
      unfold signsD
      rw [List.length_map]
      rfl
    rw [hl, List.drop_eq_nil_of_le (Nat.le_refl _)] at h1
    have h1' : q = behind x p := h1
    simp only [dRaise, dFrz, frz, dDict, dVals, wipeD, dYes, dSeq, dNext, dIfS, dRet, dRetN, dDrop, dAsg, gN, dIf, dB, dOp, dV, dC, sg, ss, startD, dCB, dCons, dNil, dTup, dLst, dLstC, dCall, dNo, dSome, dSl, dPar, dPar3, dAugN, dNeg, dAndV, dOrV, dNotV, dAnd, dOr, dNot, dFld, dSetF, dAugF, dMeth, dMake, dMakeD, dDGet, dDPut, dBM, dM1, gF, gTupD, gConsD, gNilD, rdInS, rdInT, itemsOf, strsOf, rdIxT, rdIx, rsT, rsL, rsU, rcLen, lenOf, rcInt, rcStr, rcList, rcListC, rcTup, rcAll, rcI2, tyN, rcIsi, isTy, rdAddI, rdSubI, rdMulI, rdModI, rdDivI, rdPowI, rdI, rdI0, rdLt, rdLe, rdGt, rdGe, rdAddS, rdAddL, rdAddT, rdEq, eqS, rdIsN, isNon, rdIsB, isBl, itL, itT, itS, itR1, itR2, itE, itZ, isLC, rbApp, rbPop, rbSplit, insOf, keyD, List.map_cons, List.map_nil, List.cons_append, List.nil_append, List.length_cons, List.length_nil, List.zip_cons_cons, List.zip_nil_left, List.reverse_cons, List.reverse_nil, List.replicate, Option.map_some, Nat.zero_add, Nat.reduceAdd, Nat.reduceSub, Bool.false_eq_true, if_false, if_true, reduceIte]
    rw [← h1'] at h
    exact ⟨by decide, h⟩
theorem ok_alone {f : Addr} {fd : FuncData} (F : Fun K "_law_alone" "_law_alone" s_law_alone f fd) (T : Txt K mg Sc) (D_tokens : DefOk P w K mg base 4 "tokens" 1 (gTokens Mi)) : FnOk P w K mg base (L2.CX P w) 5 f fd ["word"] (spG K 1 gAlone) := by
  refine okG F sc_law_alone rfl fun cdv A outer s H E hr => ⟨_, ((pds_one (pd_ret (pd_ixS (pd_ixS (pd_call D_tokens (hr.mono (by decide)) passG (pda_cons (pd_v 0) pda_nil)) pd_int) pd_int)))), fun ds s Q Z hn h => ?_⟩
  obtain ⟨x, rows, kd, r, rfl, hx, ht, h0, h⟩ := h
  simp only [dRaise, dFrz, frz, dDict, dVals, wipeD, dYes, dSeq, dNext, dIfS, dRet, dRetN, dDrop, dAsg, gN, dIf, dB, dOp, dV, dC, sg, ss, startD, dCB, dCons, dNil, dTup, dLst, dLstC, dCall, dNo, dSome, dSl, dPar, dPar3, dAugN, dNeg, dAndV, dOrV, dNotV, dAnd, dOr, dNot, dFld, dSetF, dAugF, dMeth, dMake, dMakeD, dDGet, dDPut, dBM, dM1, gF, gTupD, gConsD, gNilD, rdInS, rdInT, itemsOf, strsOf, rdIxT, rdIx, rsT, rsL, rsU, rcLen, lenOf, rcInt, rcStr, rcList, rcListC, rcTup, rcAll, rcI2, tyN, rcIsi, isTy, rdAddI, rdSubI, rdMulI, rdModI, rdDivI, rdPowI, rdI, rdI0, rdLt, rdLe, rdGt, rdGe, rdAddS, rdAddL, rdAddT, rdEq, eqS, rdIsN, isNon, rdIsB, isBl, itL, itT, itS, itR1, itR2, itE, itZ, isLC, rbApp, rbPop, rbSplit, insOf, keyD, List.map_cons, List.map_nil, List.cons_append, List.nil_append, List.length_cons, List.length_nil, List.zip_cons_cons, List.zip_nil_left, List.reverse_cons, List.reverse_nil, List.replicate, Option.map_some, Nat.zero_add, Nat.reduceAdd, Nat.reduceSub, Bool.false_eq_true, if_false, if_true, reduceIte]
  refine ⟨trivial, .inl ⟨x, rows, none, rfl, hx, ht, fun _ => ?_, fun l c e => nomatch e⟩⟩
  have e0 : atI rows 0 = some (.tup (kd :: r)) := atI_nat (j := 0) h0
  have e1 : atI (kd :: r) 0 = some kd := atI_nat (j := 0) rfl
  simp only [e0, e1]
  exact h
end
end K34

/-! K34h: _law_moved. -/
namespace K34
open PySem PySem.Spec PyProof.Rows L2 G
section
variable {P : Program} {w : World} {K : PySem.W.Frag} {mg : Str → Option Value} {base : Heap} {Sc Mi : Addr}
theorem ok_moved {f : Addr} {fd : FuncData} (F : Fun K "_law_moved" "_law_moved" s_law_moved f fd) (T : Txt K mg Sc) : FnOk P w K mg base (L2.CX P w) 1 f fd ["rows", "here"] (spG K 2 gMoved) := by
  refine okG F sc_law_moved rfl fun cdv A outer s H E hr => ⟨_, ((pds_cons (pd_set (i := 2) sc_law_moved.nd rfl (Or.inl rfl) (pd_lstC pda_nil))
      (pds_cons (pd_for passOwnG rfl (pdi_tup (pd_v 0)) (pdg_tup rfl (pdgs_cons (pdg_name (i := 3) sc_law_moved.nd rfl (Or.inl rfl)) (pdgs_cons (pdg_name (i := 4) sc_law_moved.nd rfl (Or.inl rfl)) (pdgs_cons (pdg_name (i := 5) sc_law_moved.nd rfl (Or.inl rfl)) pdgs_nil))))
      (pds_one (pd_expr (pd_append (pd_v 2) (pda_cons (pd_tup (pda_cons (pd_v 3) (pda_cons (pd_v 4) (pda_cons (pd_tup (pda_cons (pd_subI (pd_addI (pd_ixS (pd_v 5) pd_int) (pd_ixS (pd_v 1) pd_int)) pd_int) (pda_cons (pd_addI (pd_ixS (pd_v 5) pd_int) (pd_if (pt_eqD (pd_ixS (pd_v 5) pd_int) pd_int) (pd_subI (pd_ixS (pd_v 1) pd_int) pd_int) pd_int)) pda_nil))) pda_nil)))) pda_nil)))))
      (pds_frz 2 (pds_one (pd_ret (pd_v 2))))))), fun ds s Q Z hn h => ?_⟩
  obtain ⟨rows, p, rfl, hl, h⟩ := h
  simp only [dRaise, dFrz, frz, dDict, dVals, wipeD, dYes, dSeq, dNext, dIfS, dRet, dRetN, dDrop, dAsg, gN, dIf, dB, dOp, dV, dC, sg, ss, startD, dCB, dCons, dNil, dTup, dLst, dLstC, dCall, dNo, dSome, dSl, dPar, dPar3, dAugN, dNeg, dAndV, dOrV, dNotV, dAnd, dOr, dNot, dFld, dSetF, dAugF, dMeth, dMake, dMakeD, dDGet, dDPut, dBM, dM1, gF, gTupD, gConsD, gNilD, rdInS, rdInT, itemsOf, strsOf, rdIxT, rdIx, rsT, rsL, rsU, rcLen, lenOf, rcInt, rcStr, rcList, rcListC, rcTup, rcAll, rcI2, tyN, rcIsi, isTy, rdAddI, rdSubI, rdMulI, rdModI, rdDivI, rdPowI, rdI, rdI0, rdLt, rdLe, rdGt, rdGe, rdAddS, rdAddL, rdAddT, rdEq, eqS, rdIsN, isNon, rdIsB, isBl, itL, itT, itS, itR1, itR2, itE, itZ, isLC, rbApp, rbPop, rbSplit, insOf, keyD, List.map_cons, List.map_nil, List.cons_append, List.nil_append, List.length_cons, List.length_nil, List.zip_cons_cons, List.zip_nil_left, List.reverse_cons, List.reverse_nil, List.replicate, Option.map_some, Nat.zero_add, Nat.reduceAdd, Nat.reduceSub, Bool.false_eq_true, if_false, if_true, reduceIte, dFor, plD]
  refine ⟨by decide, fun a ha => ?_⟩
  refine forD_all (fun i ρ s' => ∃ o1 o2 o3, ρ = [some (.tup (rows.map rwD)), some (.tup [.int p.1, .int p.2]), some (.ref a), o1, o2, o3] ∧ s' = supd s a (.lst ((rows.take i).map fun r => rwD (r.1, r.2.1, movP p r.2.2)))) ⟨_, _, _, rfl, rfl⟩ ?_ ?_
  · rintro i d ρ1 s1 NX hd ⟨o1, o2, o3, hρ, hs⟩ hnx
    subst ρ1
    subst s1
    rw [List.getElem?_map] at hd
    obtain ⟨r, hr1, rfl⟩ := Option.map_eq_some_iff.mp hd
    obtain ⟨hi, hr2⟩ := List.getElem?_eq_some_iff.mp hr1
    have e0 : atI [D.int r.2.2.1, .int r.2.2.2] 0 = some (.int r.2.2.1) := atI_nat (j := 0) rfl
    have e1 : atI [D.int r.2.2.1, .int r.2.2.2] 1 = some (.int r.2.2.2) := atI_nat (j := 1) rfl
    have p0 : atI [D.int p.1, .int p.2] 0 = some (.int p.1) := atI_nat (j := 0) rfl
    have p1 : atI [D.int p.1, .int p.2] 1 = some (.int p.2) := atI_nat (j := 1) rfl
    have hz : 1000000 < sizeLine := by decide
    have ht : (rows.take (i + 1)).map (fun r => rwD (r.1, r.2.1, movP p r.2.2)) = (rows.take i).map (fun r => rwD (r.1, r.2.1, movP p r.2.2)) ++ [rwD (r.1, r.2.1, movP p r.2.2)] := by
      rw [List.take_succ, hr1, List.map_append]
      rfl
    have hlen : ((rows.take i).map fun r => rwD (r.1, r.2.1, movP p r.2.2)).length < sizeLine := by
      rw [List.length_map, List.length_take]
      omega
    have hl3 := ht
    unfold rwD plD movP at ht
    by_cases h1 : r.2.2.1 = 1
    · have eb : (r.2.2.1 == 1) = true := by simpa using h1
      simp only [rwD, dRaise, dFrz, frz, dDict, dVals, wipeD, dYes, dSeq, dNext, dIfS, dRet, dRetN, dDrop, dAsg, gN, dIf, dB, dOp, dV, dC, sg, ss, startD, dCB, dCons, dNil, dTup, dLst, dLstC, dCall, dNo, dSome, dSl, dPar, dPar3, dAugN, dNeg, dAndV, dOrV, dNotV, dAnd, dOr, dNot, dFld, dSetF, dAugF, dMeth, dMake, dMakeD, dDGet, dDPut, dBM, dM1, gF, gTupD, gConsD, gNilD, rdInS, rdInT, itemsOf, strsOf, rdIxT, rdIx, rsT, rsL, rsU, rcLen, lenOf, rcInt, rcStr, rcList, rcListC, rcTup, rcAll, rcI2, tyN, rcIsi, isTy, rdAddI, rdSubI, rdMulI, rdModI, rdDivI, rdPowI, rdI, rdI0, rdLt, rdLe, rdGt, rdGe, rdAddS, rdAddL, rdAddT, rdEq, eqS, rdIsN, isNon, rdIsB, isBl, itL, itT, itS, itR1, itR2, itE, itZ, isLC, rbApp, rbPop, rbSplit, insOf, keyD, List.map_cons, List.map_nil, List.cons_append, List.nil_append, List.length_cons, List.length_nil, List.zip_cons_cons, List.zip_nil_left, List.reverse_cons, List.reverse_nil, List.replicate, Option.map_some, Nat.zero_add, Nat.reduceAdd, Nat.reduceSub, Bool.false_eq_true, if_false, if_true, reduceIte, supd_same, supd_supd, e0, e1, p0, p1, eb, plD]
      refine ⟨rfl, trivial, by decide, by decide, ?_, ?_⟩
      · exact hlen
      · refine hnx _ _ ⟨_, _, _, rfl, ?_⟩
        rw [hl3]
        unfold rwD plD movP
        rw [if_pos h1]
    · have eb : (r.2.2.1 == 1) = false := by simpa using h1
      simp only [rwD, dRaise, dFrz, frz, dDict, dVals, wipeD, dYes, dSeq, dNext, dIfS, dRet, dRetN, dDrop, dAsg, gN, dIf, dB, dOp, dV, dC, sg, ss, startD, dCB, dCons, dNil, dTup, dLst, dLstC, dCall, dNo, dSome, dSl, dPar, dPar3, dAugN, dNeg, dAndV, dOrV, dNotV, dAnd, dOr, dNot, dFld, dSetF, dAugF, dMeth, dMake, dMakeD, dDGet, dDPut, dBM, dM1, gF, gTupD, gConsD, gNilD, rdInS, rdInT, itemsOf, strsOf, rdIxT, rdIx, rsT, rsL, rsU, rcLen, lenOf, rcInt, rcStr, rcList, rcListC, rcTup, rcAll, rcI2, tyN, rcIsi, isTy, rdAddI, rdSubI, rdMulI, rdModI, rdDivI, rdPowI, rdI, rdI0, rdLt, rdLe, rdGt, rdGe, rdAddS, rdAddL, rdAddT, rdEq, eqS, rdIsN, isNon, rdIsB, isBl, itL, itT, itS, itR1, itR2, itE, itZ, isLC, rbApp, rbPop, rbSplit, insOf, keyD, List.map_cons, List.map_nil, List.cons_append, List.nil_append, List.length_cons, List.length_nil, List.zip_cons_cons, List.zip_nil_left, List.reverse_cons, List.reverse_nil, List.replicate, Option.map_some, Nat.zero_add, Nat.reduceAdd, Nat.reduceSub, Bool.false_eq_true, if_false, if_true, reduceIte, supd_same, supd_supd, e0, e1, p0, p1, eb, plD]
      refine ⟨rfl, trivial, by decide, by decide, ?_, ?_⟩
      · exact hlen
      · refine hnx _ _ ⟨_, _, _, rfl, ?_⟩
        rw [hl3]
        unfold rwD plD movP
        rw [if_neg h1]
  · rintro ρ1 s1 ⟨o1, o2, o3, hρ, hs⟩
    subst ρ1
    subst s1
    rw [List.length_map, List.take_of_length_le (Nat.le_refl _)]
    simp only [dRaise, dFrz, frz, dDict, dVals, wipeD, dYes, dSeq, dNext, dIfS, dRet, dRetN, dDrop, dAsg, gN, dIf, dB, dOp, dV, dC, sg, ss, startD, dCB, dCons, dNil, dTup, dLst, dLstC, dCall, dNo, dSome, dSl, dPar, dPar3, dAugN, dNeg, dAndV, dOrV, dNotV, dAnd, dOr, dNot, dFld, dSetF, dAugF, dMeth, dMake, dMakeD, dDGet, dDPut, dBM, dM1, gF, gTupD, gConsD, gNilD, rdInS, rdInT, itemsOf, strsOf, rdIxT, rdIx, rsT, rsL, rsU, rcLen, lenOf, rcInt, rcStr, rcList, rcListC, rcTup, rcAll, rcI2, tyN, rcIsi, isTy, rdAddI, rdSubI, rdMulI, rdModI, rdDivI, rdPowI, rdI, rdI0, rdLt, rdLe, rdGt, rdGe, rdAddS, rdAddL, rdAddT, rdEq, eqS, rdIsN, isNon, rdIsB, isBl, itL, itT, itS, itR1, itR2, itE, itZ, isLC, rbApp, rbPop, rbSplit, insOf, keyD, List.map_cons, List.map_nil, List.cons_append, List.nil_append, List.length_cons, List.length_nil, List.zip_cons_cons, List.zip_nil_left, List.reverse_cons, List.reverse_nil, List.replicate, Option.map_some, Nat.zero_add, Nat.reduceAdd, Nat.reduceSub, Bool.false_eq_true, if_false, if_true, reduceIte, supd_same]
    rw [sdel_supd ha]
    exact h
end
end K34

/-! K34i: the plain law of the scanner: gaps, words, bodies. -/
namespace K34
open PySem PySem.Spec PyProof.Rows L2 G

/-! ### gaps -/
/-- a reader of gaps: whether in a remark, and what is left; true at the end where no remark is open -/
def gapM : Bool → List Nat → Bool
  | m, [] => !m
  | true, c :: r => gapM (c != 10) r
  | false, c :: r => if c = 10 ∨ c = 32 then gapM false r else if c = 35 then gapM true r else false
/-- .. or open -/
def gapE : Bool → List Nat → Bool
  | _, [] => true
  | true, c :: r => gapE (c != 10) r
  | false, c :: r => if c = 10 ∨ c = 32 then gapE false r else if c = 35 then gapE true r else false
/-- a remark's rest: signs up to the line's end -/
theorem gap_split : ∀ {g : List Nat}, gapM true g = true → ∃ u g', g = u ++ 10 :: g' ∧ (∀ c, c ∈ u → c ≠ 10) ∧ gapM false g' = true
  | [], h => by cases h
  | c :: g, h => by
    have h' : gapM (c != 10) g = true := h
    by_cases hc : c = 10
    · subst hc
      exact ⟨[], g, rfl, (by intro c hc; cases hc), h'⟩
    · rw [show (c != 10) = true by simpa using hc] at h'
      obtain ⟨u, g', rfl, h1, h2⟩ := gap_split h'
      refine ⟨c :: u, g', rfl, ?_, h2⟩
      intro d hd
      rcases List.mem_cons.mp
          hd with rfl | hd
      · exact hc
      · exact h1 d hd
theorem gape_split : ∀ {g : List Nat}, gapE true g = true → (∀ c, c ∈ g → c ≠ 10) ∨ ∃ u g', g = u ++ 10 :: g' ∧ (∀ c, c ∈ u → c ≠ 10) ∧ gapE false g' = true
  | [], _ => .inl (by intro c hc; cases hc)
  | c :: g, h => by
    have h' : gapE (c != 10) g = true := h
    by_cases hc : c = 10
    · subst hc
      exact .inr ⟨[], g, rfl, (by intro c hc; cases hc), h'⟩
    · rw [show (c != 10) = true by simpa using hc] at h'
      rcases gape_split h' with h1 | ⟨u, g', rfl, h1, h2⟩
      · refine .inl fun d hd => ?_
        rcases List.mem_cons.mp
            hd with rfl | hd
        · exact hc
        · exact h1 d hd
      · refine .inr ⟨c :: u, g', rfl, ?_, h2⟩
        intro d hd
        rcases List.mem_cons.mp
            hd with rfl | hd
        · exact hc
        · exact h1 d hd
theorem behind_flat : ∀ (u : List Nat) (p : Int × Int), (∀ c, c ∈ u → c ≠ 10) → behind u p = (p.1, p.2 + (u.length : Nat))
  | [], p, _ => by
    show p = _
    rw [List.length_nil]
    simp
  | c :: u, p, h => by
    show behind u (if c = 10 then _ else _) = _
    rw [if_neg (h c List.mem_cons_self), behind_flat u _ (fun d hd => h d (List.mem_cons_of_mem _ hd)), List.length_cons]
    show (p.1, p.2 + 1 + (u.length : Nat)) = (p.1, p.2 + ((u.length + 1 : Nat) : Int))
    rw [show p.2 + 1 + (u.length : Int) = p.2 + ((u.length + 1 : Nat) : Int) by omega]
theorem take_flat : ∀ (u r : List Nat), (∀ c, c ∈ u → c ≠ 10) → ((u ++ 10 :: r).takeWhile (· != 10)).length = u.length
  | [], r, _ => by simp
  | c :: u, r, h => by
    have hc : (c != 10) = true := by simpa using h c List.mem_cons_self
    rw [List.cons_append, List.takeWhile_cons, hc]
    show ((u ++ 10 :: r).takeWhile (· != 10)).length + 1 = u.length + 1
    rw [take_flat u r fun d hd => h d (List.mem_cons_of_mem _ hd)]
theorem drop_flat (u r : List Nat) : (u ++ r).drop u.length = r := by
  rw [List.drop_append_of_le_length (Nat.le_refl _), List.drop_length, List.nil_append]
theorem tk_gap {rest : List Nat} {rows : List D} {b : Option (Int × Int)} : ∀ (n : Nat) (g : List Nat) (p : Int × Int), g.length ≤ n → gapM false g = true → Tk rest (behind g p).1 (behind g p).2 rows b → Tk (g ++ rest) p.1 p.2 rows b
  | _, [], p, _, _, h => h
  | 0, c :: g, p, hn, _, _ => by simp at hn
  | n + 1, c :: g, p, hn, hg, h => by
    rw [List.length_cons] at hn
    have hg' : (if c = 10 ∨ c = 32 then gapM false g else if c = 35 then gapM true g else false) = true := hg
    by_cases h10 : c = 10
    · subst h10
      rw [if_pos (.inl rfl)] at hg'
      exact .nl (tk_gap n g (p.1 + 1, 1) (by omega) hg' h)
    · by_cases h32 : c = 32
      · subst h32
        rw [if_pos (.inr rfl)] at hg'
        exact .sp (tk_gap n g (p.1, p.2 + 1) (by omega) hg' h)
      · rw [if_neg (by omega)] at hg'
        by_cases h35 : c = 35
        · subst h35
          rw [if_pos rfl] at hg'
          obtain ⟨u, g', rfl, h1, h2⟩ := gap_split hg'
          have e1 : behind (35 :: (u ++ 10 :: g')) p = behind g' (p.1 + 1, 1) := by
            show behind (u ++ 10 :: g') (p.1, p.2 + 1) = _
            rw [behind_append, behind_flat u _ h1]
            rfl
          rw [e1] at h
          have hlen : ((u ++ 10 :: g' ++ rest).takeWhile (· != 10)).length = u.length := by
            rw [List.append_assoc]
            exact take_flat u (g' ++ rest) h1
          refine .hash hlen.symm ?_
          show Tk ((u ++ 10 :: g' ++ rest).drop u.length) _ _ _ _
          rw [List.append_assoc, drop_flat]
          refine .nl (tk_gap n g' (p.1 + 1, 1) ?_ h2 h)
          rw [List.length_append, List.length_cons] at hn
          omega
        · rw [if_neg h35] at hg'
          cases hg'
theorem tk_tail : ∀ (n : Nat) (g : List Nat) (p : Int × Int), g.length ≤ n → gapE false g = true → Tk g p.1 p.2 [endRow (behind g p).1 (behind g p).2] none
  | _, [], p, _, _ => .nil
  | 0, c :: g, p, hn, _ => by simp at hn
  | n + 1, c :: g, p, hn, hg => by
    rw [List.length_cons] at hn
    have hg' : (if c = 10 ∨ c = 32 then gapE false g else if c = 35 then gapE true g else false) = true := hg
    by_cases h10 : c = 10
    · subst h10
      rw [if_pos (.inl rfl)] at hg'
      exact .nl (tk_tail n g (p.1 + 1, 1) (by omega) hg')
    · by_cases h32 : c = 32
      · subst h32
        rw [if_pos (.inr rfl)] at hg'
        exact .sp (tk_tail n g (p.1, p.2 + 1) (by omega) hg')
      · rw [if_neg (by omega)] at hg'
        by_cases h35 : c = 35
        · subst h35
          rw [if_pos rfl] at hg'
          rcases gape_split hg' with h1 | ⟨u, g', rfl, h1, h2⟩
          · have e1 : behind (35 :: g) p = (p.1, p.2 + 1 + (g.length : Nat)) := by
              show behind g (p.1, p.2 + 1) = _
              rw [behind_flat g _ h1]
            rw [e1]
            have hl : (g.takeWhile (· != 10)).length = g.length := by
              rw [takeWhile_self fun c hc => by simpa using h1 c hc]
            refine .hash hl.symm ?_
            rw [List.drop_length, show p.2 + ((g.length + 1 : Nat) : Int) = p.2 + 1 + (g.length : Nat) by omega]
            exact .nil
          · have e1 : behind (35 :: (u ++ 10 :: g')) p = behind g' (p.1 + 1, 1) := by
              show behind (u ++ 10 :: g') (p.1, p.2 + 1) = _
              rw [behind_append, behind_flat u _ h1]
              rfl
            rw [e1]
            refine .hash (take_flat u g' h1).symm ?_
            rw [drop_flat]
            refine .nl (tk_tail n g' (p.1 + 1, 1) ?_ h2)
            rw [List.length_append, List.length_cons] at hn
            omega
        · rw [if_neg h35] at hg'
          cases hg'

/-! ### words -/
def isSignW (w : List Nat) : Bool := signsL.contains (mkS w)
/-- a word that is read as one token, of kind kd -/
def IsW (w : List Nat) (kd : Str) : Prop :=
  (isSignW w = false ∧ w ≠ [] ∧ (∀ c, c ∈ w → isRun c = true) ∧ kindD (mkS w) = .str kd) ∨
  (isSignW w = true ∧ kd = "sign" ∧ ∃ ch, w = [ch] ∧ isRun ch = false ∧ ch ≠ 10 ∧ ch ≠ 32 ∧ ch ≠ 35)
/-- what may follow a run -/
def Stops (rest : List Nat) : Prop := ∀ c r, rest = c :: r → isRun c = false
theorem run_ne10 {c : Nat} (h : isRun c = true) : c ≠ 10 := fun e => by
  subst e
  exact not_run h run10
theorem run_take : ∀ {w : List Nat} {rest : List Nat}, (∀ c, c ∈ w → isRun c = true) → Stops rest → (w ++ rest).takeWhile isRun = w
  | [], [], _, _ => rfl
  | [], c :: r, _, h => by
    rw [List.nil_append, List.takeWhile_cons, h c r rfl]
    rfl
  | c :: w, rest, h, hs => by
    rw [List.cons_append, List.takeWhile_cons, h c List.mem_cons_self]
    show c :: (w ++ rest).takeWhile isRun = c :: w
    rw [run_take (fun d hd => h d (List.mem_cons_of_mem _ hd)) hs]
theorem word_behind {w : List Nat} {kd : Str} (h : IsW w kd) (p : Int × Int) : behind w p = (p.1, p.2 + (w.length : Nat)) := by
  refine behind_flat w p fun c hc => ?_
  rcases h with ⟨_, _, h, _⟩ | ⟨_, _, ch, rfl, _, h, _⟩
  · exact run_ne10 (h c hc)
  · rw [List.mem_singleton.mp hc]
    exact h
theorem tk_word {w : List Nat} {kd : Str} {rest : List Nat} {rows : List D} {b : Option (Int × Int)} {p : Int × Int} (h : IsW w kd) (hs : isSignW w = false → Stops rest) (ht : Tk rest (behind w p).1 (behind w p).2 rows b) : Tk (w ++ rest) p.1 p.2 (rowD kd w p.1 p.2 :: rows) b := by
  rw [word_behind h] at ht
  rcases h with ⟨h0, h1, h2, h3⟩ | ⟨h0, rfl, ch, rfl, h1, h2, h3, h4⟩
  · cases w with
    | nil => exact absurd rfl h1
    | cons c w =>
      have ew : c :: w = c :: (w ++ rest).takeWhile isRun := by rw [run_take (fun d hd => h2 d (List.mem_cons_of_mem _ hd)) (hs h0)]
      refine .run (h2 c List.mem_cons_self) ew h3 ?_
      show Tk (((c :: w) ++ rest).drop (c :: w).length) _ _ _ _
      rw [drop_flat]
      exact ht
  · exact .sign h1 h2 h3 h4 h0 ht

/-! ### bodies: gaps and words -/
abbrev Body := List (List Nat × List Nat)
def textOf : Body → List Nat
  | [] => []
  | (g, w) :: bs => g ++ (w ++ textOf bs)
/-- fr: a word may stand right behind what is ahead -/
def OkB : Bool → Body → Prop
  | _, [] => True
  | fr, (g, w) :: bs => gapM false g = true ∧ (∃ kd, IsW w kd) ∧ (fr = false → isSignW w = false → g ≠ []) ∧ OkB (isSignW w) bs
def endFr : Bool → Body → Bool
  | fr, [] => fr
  | _, (_, w) :: bs => endFr (isSignW w) bs
def kindW (w : List Nat) : D := if isSignW w then .str "sign" else kindD (mkS w)
theorem IsW.kind {w : List Nat} {kd : Str} (h : IsW w kd) : kindW w = .str kd := by
  unfold kindW
  rcases h with ⟨h0, _, _, h3⟩ | ⟨h0, rfl, _⟩
  · rw [h0]
    exact h3
  · rw [h0]
    rfl
def rowsOf : Body → Int × Int → List Row
  | [], _ => []
  | (g, w) :: bs, p => (kindW w, .str (mkS w), behind g p) :: rowsOf bs (behind w (behind g p))
theorem gap_stops {g rest : List Nat} (h : gapM false g = true) (hg : g ≠ []) : Stops (g ++ rest) := by
  cases g with
  | nil => exact absurd rfl hg
  | cons c g =>
    intro d r e
    rw [List.cons_append] at e
    injection e with e1 e2
    subst e1
    have h' : (if c = 10 ∨ c = 32 then gapM false g else if c = 35 then gapM true g else false) = true := h
    by_cases h1 : c = 10 ∨ c = 32
    · rcases h1 with rfl | rfl
      · exact run10
      · exact run32
    · rw [if_neg h1] at h'
      by_cases h2 : c = 35
      · rw [h2]
        exact run35
      · rw [if_neg h2] at h'
        cases h'
theorem textOf_stops {bs : Body} {rest : List Nat} (h : OkB false bs) (hr : bs = [] → Stops rest) (hsign : ∀ w, isSignW w = true → (∃ kd, IsW w kd) → ∀ c r, w = c :: r → isRun c = false) : Stops (textOf bs ++ rest) := by
  cases bs with
  | nil => exact hr rfl
  | cons x bs =>
    obtain ⟨g, w⟩ := x
    obtain ⟨h1, h2, h3, h4⟩ := h
    by_cases hg : g = []
    · subst hg
      cases hw : isSignW w with
      | false => exact absurd rfl (h3 rfl hw)
      | true =>
        obtain ⟨kd, hk⟩ := h2
        rcases hk with ⟨h0, _⟩ | ⟨_, _, ch, rfl, h5, _⟩
        · rw [hw] at h0
          cases h0
        · intro c r e
          have e' : ch :: (textOf bs ++ rest) = c :: r := e
          injection e' with e1 e2
          rw [← e1]
          exact h5
    · show Stops (g ++ (w ++ textOf bs) ++ rest)
      rw [List.append_assoc]
      exact gap_stops h1 hg
theorem signW_head {w : List Nat} (hw : isSignW w = true) (h : ∃ kd, IsW w kd) (c : Nat) (r : List Nat) (e : w = c :: r) : isRun c = false := by
  obtain ⟨kd, hk⟩ := h
  rcases hk with ⟨h0, _⟩ | ⟨_, _, ch, rfl, h5, _⟩
  · rw [hw] at h0
    cases h0
  · injection e with e1 e2
    rw [← e1]
    exact h5
theorem tk_body {rest : List Nat} {rows : List D} {b : Option (Int × Int)} : ∀ (fr : Bool) (bs : Body) (p : Int × Int), OkB fr bs → (endFr true bs = false → Stops rest) → Tk rest (behind (textOf bs) p).1 (behind (textOf bs) p).2 rows b → Tk (textOf bs ++ rest) p.1 p.2 ((rowsOf bs p).map rwD ++ rows) b
  | _, [], p, _, _, h => h
  | fr, (g, w) :: bs, p, ⟨h1, ⟨kd, h2⟩, h3, h4⟩, hs, h => by
    have e1 : behind (textOf ((g, w) :: bs)) p = behind (textOf bs) (behind w (behind g p)) := by
      show behind (g ++ (w ++ textOf bs)) p = _
      rw [behind_append, behind_append]
    rw [e1] at h
    have hs' : endFr (isSignW w) bs = false → Stops rest := hs
    have e2 : rowsOf ((g, w) :: bs) p = (kindW w, .str (mkS w), behind g p) :: rowsOf bs (behind w (behind g p)) := rfl
    rw [e2, List.map_cons]
    show Tk (g ++ (w ++ textOf bs) ++ rest) _ _ (rwD (kindW w, .str (mkS w), behind g p) :: ((rowsOf bs _).map rwD ++ rows)) _
    rw [List.append_assoc,
        List.append_assoc]
    refine tk_gap _ g p (Nat.le_refl _) h1 ?_
    have e3 : rwD (kindW w, .str (mkS w), behind g p) = rowD kd w (behind g p).1 (behind g p).2 := by
      rw [h2.kind]
      rfl
    rw [e3]
    refine tk_word h2 (fun hw => ?_) ?_
    · refine textOf_stops (by rw [hw] at h4; exact h4) (fun e => ?_) (fun w a b => signW_head a b)
      subst e
      rw [hw] at hs'
      exact hs' rfl
    · refine tk_body (isSignW w) bs (behind w (behind g p)) h4 (fun e => ?_) h
      cases bs with
      | nil => 
        cases e
      | cons x bs => exact hs' e
/-- a text: a body and a tail -/
theorem tk_text {bs : Body} {tail : List Nat} (h : OkB true bs) (ht : gapE false tail = true) (hs : Stops tail) : Tk (textOf bs ++ tail) 1 1 ((rowsOf bs (1, 1)).map rwD ++ [endRow (behind (textOf bs ++ tail) (1, 1)).1 (behind (textOf bs ++ tail) (1, 1)).2]) none := by
  rw [behind_append]
  exact tk_body true bs (1, 1) h (fun _ => hs) (tk_tail _ tail _ (Nat.le_refl _) ht)
theorem movP_behind : ∀ (u : List Nat) (h p : Int × Int), 1 ≤ p.1 → behind u (movP h p) = movP h (behind u p) ∧ 1 ≤ (behind u p).1
  | [], _, p, hp => ⟨rfl, hp⟩
  | c :: u, h, p, hp => by
    show behind u (if c = 10 then _ else _) = movP h (behind u (if c = 10 then _ else _)) ∧ 1 ≤ (behind u (if c = 10 then _ else _)).1
    by_cases hc : c = 10
    · rw [if_pos hc, if_pos hc]
      have := movP_behind u h (p.1 + 1, 1) (by show 1 ≤ p.1 + 1; omega)
      refine ⟨?_, this.2⟩
      rw [← this.1]
      unfold movP
      rw [if_neg (show ¬ ((p.1 + 1, (1 : Int)).1 = 1) by show ¬ p.1 + 1 = 1; omega)]
      show behind u (p.1 + h.1 - 1 + 1, 1) = behind u (p.1 + 1 + h.1 - 1, 1 + 0)
      rw [show p.1 + h.1 - 1 + 1 = p.1 + 1 + h.1 - 1 by omega]
      rfl
    · rw [if_neg hc, if_neg hc]
      have := movP_behind u h (p.1, p.2 + 1) hp
      refine ⟨?_, this.2⟩
      rw [← this.1]
      unfold movP
      show behind u (p.1 + h.1 - 1, p.2 + (if p.1 = 1 then h.2 - 1 else 0) + 1) = behind u (p.1 + h.1 - 1, p.2 + 1 + (if p.1 = 1 then h.2 - 1 else 0))
      rw [show p.2 + (if p.1 = 1 then h.2 - 1 else 0) + 1 = p.2 + 1 + (if p.1 = 1 then h.2 - 1 else 0) by omega]
theorem movP_one (h : Int × Int) : movP h (1, 1) = h := by
  unfold movP
  show ((1 : Int) + h.1 - 1, (1 : Int) + (if (1 : Int) = 1 then h.2 - 1 else 0)) = h
  rw [if_pos rfl, show (1 : Int) + h.1 - 1 = h.1 by omega, show (1 : Int) + (h.2 - 1) = h.2 by omega]
theorem rows_moved : ∀ (bs : Body) (h p : Int × Int), 1 ≤ p.1 → (rowsOf bs p).map (fun r => (r.1, r.2.1, movP h r.2.2)) = rowsOf bs (movP h p)
  | [], _, _, _ => rfl
  | (g, w) :: bs, h, p, hp => by
    have a := movP_behind g h p hp
    have b := movP_behind w h (behind g p) a.2
    show (kindW w, _, movP h (behind g p)) :: (rowsOf bs (behind w (behind g p))).map _ = (kindW w, _, behind g (movP h p)) :: rowsOf bs (behind w (behind g (movP h p)))
    rw [a.1, b.1, rows_moved bs h _ b.2]
end K34

/-! K34j: _law_laid, _law_drawn_words. -/
namespace K34
open PySem PySem.Spec PyProof.Rows L2 G
def wD (w : List Nat) : D := .str (mkS w)
def Good (w : List Nat) : Prop := (∃ kd, IsW w kd) ∧ w.length ≤ 12
def tailsL : List (List Nat) := ([("" : Str), "\n", " ", " # load a to b;", "\n#\n"] : List Str).map fun x : Str => x.cps.toList
def placesD (bs : Body) : List D := (rowsOf bs (1, 1)).map fun r => plD r.2.2
def gLaid : DF := fun ds s Q _ => ∃ p ws n, ds = [.ref p, .lst (ws.map wD)] ∧ (∀ w, w ∈ ws → Good w) ∧ ws.length ≤ 10 ∧ Pen s p n ∧ n + 20 ≤ most ∧ ∀ bs tail s', bs.map (·.2) = ws → OkB true bs → tail ∈ tailsL → (textOf bs).length ≤ 320 → Pen s' p (n + 20) → Oth p s s' → Q (.tup [.str (mkS (textOf bs ++ tail)), .lst (placesD bs), plD (behind (textOf bs ++ tail) (1, 1))]) s'
def gDrawn : DF := fun ds s Q _ => ∃ p, ∃ m n : Nat, ds = [.ref p, .int m] ∧ m ≤ 10 ∧ Pen s p n ∧ n + 130 ≤ most ∧ ∀ (ws : List (List Nat)) s', ws.length = m → (∀ w, w ∈ ws → Good w) → Pen s' p (n + 130) → Oth p s s' → Q (.lst (ws.map wD)) s'
theorem mo_Laid : MoF gLaid := fun _ _ _ _ _ _ h _ ⟨p, ws, n, e, a, b, c, d, q⟩ => ⟨p, ws, n, e, a, b, c, d, fun bs tail s' x1 x2 x3 x4 x5 x6 => h _ _ (q bs tail s' x1 x2 x3 x4 x5 x6)⟩
theorem mo_Drawn : MoF gDrawn := fun _ _ _ _ _ _ h _ ⟨p, m, n, e, a, b, c, q⟩ => ⟨p, m, n, e, a, b, c, fun ws s' x1 x2 x3 x4 => h _ _ (q ws s' x1 x2 x3 x4)⟩
theorem of_str {x : Str} {P : List Nat → Prop} (h : P x.cps.toList) : ∃ g, D.str x = .str (mkS g) ∧ P g := ⟨x.cps.toList, by rw [mkS_of], h⟩
theorem gap_of {x : D} (h : x ∈ [D.str "", .str " ", .str " ", .str "\n", .str "  \n ", .str " # road q: a to b;\n", .str "#}\n", .str "\n\n"]) : ∃ g, x = .str (mkS g) ∧ gapM false g = true ∧ g.length ≤ 20 := by
  simp only [List.mem_cons, List.not_mem_nil, or_false] at h
  rcases h with rfl | rfl | rfl | rfl | rfl | rfl | rfl | rfl <;> exact of_str (P := fun g => gapM false g = true ∧ g.length ≤ 20) (by decide +kernel)
theorem tail_of {x : D} (h : x ∈ [D.str "", .str "", .str "\n", .str " ", .str " # load a to b;", .str "\n#\n"]) : ∃ g, x = .str (mkS g) ∧ g ∈ tailsL ∧ g.length ≤ 20 := by
  simp only [List.mem_cons, List.not_mem_nil, or_false] at h
  rcases h with rfl | rfl | rfl | rfl | rfl | rfl <;> exact of_str (P := fun g => g ∈ tailsL ∧ g.length ≤ 20) (by decide +kernel)
theorem textOf_snoc : ∀ (bs : Body) (g w : List Nat), textOf (bs ++ [(g, w)]) = textOf bs ++ (g ++ w)
  | [], g, w => by
    show g ++ (w ++ []) = g ++ w
    rw [List.append_nil]
  | (a, b) :: bs, g, w => by
    show a ++ (b ++ textOf (bs ++ [(g, w)])) = a ++ (b ++ textOf bs) ++ (g ++ w)
    rw [textOf_snoc bs, List.append_assoc, List.append_assoc]
theorem rowsOf_snoc : ∀ (bs : Body) (g w : List Nat) (p : Int × Int), rowsOf (bs ++ [(g, w)]) p = rowsOf bs p ++ [(kindW w, .str (mkS w), behind g (behind (textOf bs) p))]
  | [], g, w, p => rfl
  | (a, b) :: bs, g, w, p => by
    show (kindW b, _, behind a p) :: rowsOf (bs ++ [(g, w)]) (behind b (behind a p)) = (kindW b, _, behind a p) :: (rowsOf bs (behind b (behind a p)) ++ [(kindW w, _, behind g (behind (a ++ (b ++ textOf bs)) p))])
    rw [rowsOf_snoc bs, behind_append, behind_append]
theorem OkB_snoc : ∀ (fr : Bool) (bs : Body) (g w : List Nat), OkB fr bs → gapM false g = true → (∃ kd, IsW w kd) → (endFr fr bs = false → isSignW w = false → g ≠ []) → OkB fr (bs ++ [(g, w)])
  | fr, [], g, w, _, h1, h2, h3 => ⟨h1, h2, h3, trivial⟩
  | fr, (a, b) :: bs, g, w, ⟨k1, k2, k3, k4⟩, h1, h2, h3 => ⟨k1, k2, k3, OkB_snoc _ bs g w k4 h1 h2 h3⟩
theorem endFr_snoc : ∀ (fr : Bool) (bs : Body) (g w : List Nat), endFr fr (bs ++ [(g, w)]) = isSignW w
  | fr, [], g, w => rfl
  | fr, (a, b) :: bs, g, w => endFr_snoc (isSignW b) bs g w
theorem rowsOf_len : ∀ (bs : Body) (p : Int × Int), (rowsOf bs p).length = bs.length
  | [], _ => rfl
  | (a, b) :: bs, p => by
    show (rowsOf bs _).length + 1 = bs.length + 1
    rw [rowsOf_len bs]
theorem enum_get {l : List D} {i : Nat} {d : D} (h : (enumD l)[i]? = some d) : ∃ e, l[i]? = some e ∧ d = .tup [.int (i : Nat), e] := by
  unfold enumD at h
  rw [List.getElem?_zipWith] at h
  have hi : i < l.length := by
    cases e : l[i]? with
    | some _ => exact (List.getElem?_eq_some_iff.mp e).1
    | none =>
      rw [e] at h
      cases e2 : (List.range l.length)[i]? <;> rw [e2] at h <;> cases h
  rw [List.getElem?_range hi, List.getElem?_eq_getElem hi] at h
  exact ⟨l[i], List.getElem?_eq_getElem hi, (Option.some.inj h).symm⟩
theorem enum_len (l : List D) : (enumD l).length = l.length := by
  unfold enumD
  rw [List.length_zipWith, List.length_range, Nat.min_self]
theorem placesD_snoc (bs : Body) (g w : List Nat) : placesD (bs ++ [(g, w)]) = placesD bs ++ [plD (behind g (behind (textOf bs) (1, 1)))] := by
  unfold placesD
  rw [rowsOf_snoc, List.map_append]
  rfl
theorem laid_rest {K : DEnds} {r0 r1 o5 o8 : Option D} {a : Addr} {bs : Body} {g wd : List Nat} {s : Sto} (hl : (textOf bs).length ≤ 320) (hb : bs.length ≤ 10) (hg : g.length ≤ 20) (hw : wd.length ≤ 12) (hs : s a = some (.lst (placesD bs)))
    (h : K.nx [r0, r1, some (.str (mkS (textOf (bs ++ [(g, wd)])))), some (plD (behind (textOf (bs ++ [(g, wd)])) (1, 1))), some (.ref a), o5, some (wD wd), some (.str (mkS g)), o8] (supd s a (.lst (placesD (bs ++ [(g, wd)]))))) :
    dSeq (dAsg (dCall 2 gBehind (dCons (dV 3) (dCons (dV 7) dNil))) (gN 3)) (dSeq (dDrop (dBM rbApp (dV 4) (dCons (dV 3) dNil))) (dPar 2 3 (dCons (dOp rdAddS (dOp rdAddS (dV 2) (dV 7)) (dV 6)) (dCons (dCall 2 gBehind (dCons (dV 3) (dCons (dV 6) dNil))) dNil)))) K
      [r0, r1, some (.str (mkS (textOf bs))), some (plD (behind (textOf bs) (1, 1))), some (.ref a), o5, some (wD wd), some (.str (mkS g)), o8] s := by
  have hz : 1000000 < sizeLine := by decide
  simp only [dRaise, dFrz, frz, dDict, dVals, wipeD, dYes, dSeq, dNext, dIfS, dRet, dRetN, dDrop, dAsg, gN, dIf, dB, dOp, dV, dC, sg, ss, startD, dCB, dCons, dNil, dTup, dLst, dLstC, dCall, dNo, dSome, dSl, dPar, dPar3, dAugN, dNeg, dAndV, dOrV, dNotV, dAnd, dOr, dNot, dFld, dSetF, dAugF, dMeth, dMake, dMakeD, dDGet, dDPut, dBM, dM1, gF, gTupD, gConsD, gNilD, rdInS, rdInT, itemsOf, strsOf, rdIxT, rdIx, rsT, rsL, rsU, rcLen, lenOf, rcInt, rcStr, rcList, rcListC, rcTup, rcAll, rcI2, tyN, rcIsi, isTy, rdAddI, rdSubI, rdMulI, rdModI, rdDivI, rdPowI, rdI, rdI0, rdLt, rdLe, rdGt, rdGe, rdAddS, rdAddL, rdAddT, rdEq, eqS, rdIsN, isNon, rdIsB, isBl, itL, itT, itS, itR1, itR2, itE, itZ, isLC, rbApp, rbPop, rbSplit, insOf, keyD, List.map_cons, List.map_nil, List.cons_append, List.nil_append, List.length_cons, List.length_nil, List.zip_cons_cons, List.zip_nil_left, List.reverse_cons, List.reverse_nil, List.replicate, Option.map_some, Nat.zero_add, Nat.reduceAdd, Nat.reduceSub, Bool.false_eq_true, if_false, if_true, reduceIte, wD, mkS_append, mkS_len]
  refine ⟨trivial, _, g, rfl, ?_⟩
  simp only [hs]
  refine ⟨trivial, ?_, ?_, ?_, trivial, _, wd, rfl, ?_⟩
  · unfold placesD
    rw [List.length_map, rowsOf_len]
    omega
  · omega
  · rw [List.length_append]
    omega
  · rw [textOf_snoc, placesD_snoc, behind_append, behind_append, ← List.append_assoc] at h
    exact h
/-! ### words that are drawn -/
def wordB (w : List Nat) : Bool := (!isSignW w && (w != []) && w.all isRun && (match kindD (mkS w) with
  | .str _ => true
  | _ => false)) || (isSignW w && (match w with
  | [c] => !isRun c && c != 10 && c != 32 && c != 35
  | _ => false))
theorem wordB_ok {w : List Nat} (h : wordB w = true) : ∃ kd, IsW w kd := by
  unfold wordB at h
  rcases Bool.or_eq_true _ _ |>.mp h with h | h
  · rw [Bool.and_eq_true, Bool.and_eq_true, Bool.and_eq_true] at h
    obtain ⟨⟨⟨h1,
        h2⟩, h3⟩, h4⟩ := h
    split at h4
    · rename_i k hk
      exact ⟨k, .inl ⟨by simpa using h1, by simpa using h2, fun c hc => List.all_eq_true.mp h3 c hc, hk⟩⟩
    · cases h4
  · rw [Bool.and_eq_true] at h
    obtain ⟨h1, h2⟩ := h
    split at h2
    · rename_i c
      rw [Bool.and_eq_true, Bool.and_eq_true, Bool.and_eq_true] at h2
      obtain ⟨⟨⟨a, b⟩, c1⟩, d⟩ := h2
      exact ⟨"sign", .inr ⟨h1, rfl, c, rfl, by simpa using a, by simpa using b, by simpa using c1, by simpa using d⟩⟩
    · cases h2
theorem low_let {c : Nat} (h : 97 ≤ c ∧ c ≤ 122) : isLet c = true := by
  unfold isLet
  rw [show letters.cps.toList = List.range' 97 26 from by decide +kernel, decide_eq_true_iff, List.mem_range'_1]
  omega
theorem keys_low {x : Str} (h : keysL.contains x = true) : ∀ c, c ∈ x.cps.toList → 97 ≤ c := by
  unfold keysL at h
  simp only [List.contains_iff_mem, List.mem_cons, List.not_mem_nil, or_false] at h
  have key : ∀ k : Str, (k.cps.toList.all fun c => decide (97 ≤ c)) = true → ∀ c, c ∈ k.cps.toList → 97 ≤ c := fun k hk c hc => of_decide_eq_true (List.all_eq_true.mp hk c hc)
  rcases h with rfl | rfl | rfl | rfl | rfl | rfl | rfl <;> exact key _ (by decide +kernel)
theorem signs_one {x : Str} (h : signsL.contains x = true) : x.length = 1 := by
  unfold signsL at h
  simp only [List.contains_iff_mem, List.mem_cons, List.not_mem_nil, or_false] at h
  rcases h with rfl | rfl | rfl | rfl | rfl <;> decide +kernel
theorem name_good {i : Nat} {x : Str} (hi : i < 10) (h : NameOf i x) : ∃ w, D.str x = wD w ∧ Good w := by
  obtain ⟨a, b, rfl, h1, h2, h3, h4⟩ := h
  refine ⟨a ++ (48 + i) :: b, rfl, ⟨"name", .inl ⟨?_, ?_, ?_, ?_⟩⟩, ?_⟩
  · cases e : isSignW (a ++ (48 + i) :: b) with
    | false => rfl
    | true =>
      have := signs_one e
      rw [mkS_len, List.length_append, List.length_cons] at this
      exact absurd (List.eq_nil_of_length_eq_zero (by omega)) h1
  · intro e
    have := congrArg List.length e
    rw [List.length_append, List.length_cons] at this
    cases this
  · intro c hc
    unfold isRun
    rcases List.mem_append.mp
        hc with hc | hc
    · rw [low_let (h2 c hc)]
      rfl
    · rcases List.mem_cons.mp
        hc with rfl | hc
      · have : i = 0 ∨ i = 1 ∨ i = 2 ∨ i = 3 ∨ i = 4 ∨ i = 5 ∨ i = 6 ∨ i = 7 ∨ i = 8 ∨ i = 9 := by omega
        rcases this with rfl | rfl | rfl | rfl | rfl | rfl | rfl | rfl | rfl | rfl <;> decide +kernel
      · rw [low_let (h3 c hc)]
        rfl
  · have hk : keysL.contains (mkS (a ++ (48 + i) :: b)) = false := by
      cases e : keysL.contains (mkS (a ++ (48 + i) :: b)) with
      | false => rfl
      | true =>
        have := keys_low e (48 + i) (by rw [mkS_cps]; exact List.mem_append.mpr (.inr List.mem_cons_self))
        omega
    have hh : isLet ((mkS (a ++ (48 + i) :: b)).cps.toList.headD 0) = true := by
      rw [mkS_cps]
      cases a with
      | nil => exact absurd rfl h1
      | cons c a => exact low_let (h2 c List.mem_cons_self)
    have hl : (mkS (a ++ (48 + i) :: b)).length ≤ 12 := by
      rw [mkS_len, List.length_append, List.length_cons]
      omega
    unfold kindD
    rw [hk, hh, if_neg (by decide), if_pos rfl, if_pos hl]
  · rw [List.length_append, List.length_cons]
    omega
theorem word_of {x : Str} (h : (wordB x.cps.toList && decide (x.cps.toList.length ≤ 12)) = true) : ∃ w, D.str x = wD w ∧ Good w := by
  rw [Bool.and_eq_true] at h
  exact ⟨x.cps.toList, by unfold wD; rw [mkS_of], wordB_ok h.1, of_decide_eq_true h.2⟩
theorem keys_good {x : D} (h : x ∈ [D.str "town", .str "homes", .str "place", .str "road", .str "to", .str "times", .str "load"]) : ∃ w, x = wD w ∧ Good w := by
  simp only [List.mem_cons, List.not_mem_nil, or_false] at h
  rcases h with rfl | rfl | rfl | rfl | rfl | rfl | rfl <;> exact word_of (by decide +kernel)
theorem more_good {x : D} (h : x ∈ [D.str "{", .str "}", .str ",", .str ";", .str ":", .str "0", .str "7", .str "10", .str "999", .str "a", .str "tow", .str "towns", .str "abcdefghijkl", .str "a0b1"]) : ∃ w, x = wD w ∧ Good w := by
  simp only [List.mem_cons, List.not_mem_nil, or_false] at h
  rcases h with rfl | rfl | rfl | rfl | rfl | rfl | rfl | rfl | rfl | rfl | rfl | rfl | rfl | rfl <;> exact word_of (by decide +kernel)
section
variable {P : Program} {w : World} {K : PySem.W.Frag} {mg : Str → Option Value} {base : Heap} {Sc Mi : Addr}
theorem ok_laid {f : Addr} {fd : FuncData} (F : Fun K "_law_laid" "_law_laid" s_law_laid f fd) (T : Txt K mg Sc) (D_law_pick : DefOk P w K mg base 2 "_law_pick" 2 gPick) (D_law_is_sign : DefOk P w K mg base 1 "_law_is_sign" 1 gIsSign) (D_law_behind_text : DefOk P w K mg base 1 "_law_behind_text" 2 gBehind) : FnOk P w K mg base (L2.CX P w) 3 f fd ["pen", "words"] (spG K 2 gLaid) := by
  refine okG F sc_law_laid rfl fun cdv A outer s H E hr => ⟨_, ((pds_cons (pd_par3 (i := 2) (j := 3) (l := 4) rfl sc_law_laid.nd rfl rfl rfl (by decide) (by decide) (by decide) rfl rfl rfl (pda_cons pd_str (pda_cons (pd_tup (pda_cons pd_int (pda_cons pd_int pda_nil))) (pda_cons (pd_lstC pda_nil) pda_nil))) (by rfl))
      (pds_cons (pd_for passOwnG rfl (pdi_enum T.z_enumerate (pda_cons (pd_v 1) pda_nil)) (pdg_tup rfl (pdgs_cons (pdg_name (i := 5) sc_law_laid.nd rfl (Or.inl rfl)) (pdgs_cons (pdg_name (i := 6) sc_law_laid.nd rfl (Or.inl rfl)) pdgs_nil)))
      (pds_cons (pd_set (i := 7) sc_law_laid.nd rfl (Or.inl rfl) (pd_call D_law_pick (hr.mono (by decide)) passG (pda_cons (pd_v 0) (pda_cons (pd_lst (pda_cons pd_str (pda_cons pd_str (pda_cons pd_str (pda_cons pd_str (pda_cons pd_str (pda_cons pd_str (pda_cons pd_str (pda_cons pd_str pda_nil))))))))) pda_nil))))
      (pds_cons (pd_ifS (PDW.t (pdw_and (pt_eqD (pd_v 7) pd_str) (pdw_and (pt_gtD (pd_v 5) pd_int) (pdw_and (pd_notT (pd_valT (pd_call D_law_is_sign (hr.mono (by decide)) passG (pda_cons (pd_v 6) pda_nil)))) (pdw_and1 (pd_notT (pd_valT (pd_call D_law_is_sign (hr.mono (by decide)) passG (pda_cons (pd_ixS (pd_v 1) (pd_subI (pd_v 5) pd_int)) pda_nil)))))))))
      (pds_one (pd_set (i := 7) sc_law_laid.nd rfl (Or.inl rfl) pd_str))
      pds_nil)
      (pds_cons (pd_set (i := 3) sc_law_laid.nd rfl (Or.inl rfl) (pd_call D_law_behind_text (hr.mono (by decide)) passG (pda_cons (pd_v 3) (pda_cons (pd_v 7) pda_nil))))
      (pds_cons (pd_expr (pd_append (pd_v 4) (pda_cons (pd_v 3) pda_nil)))
      (pds_one (pd_par (i := 2) (j := 3) rfl sc_law_laid.nd rfl rfl (by decide) rfl rfl (pda_cons (pd_addS (pd_addS (pd_v 2) (pd_v 7)) (pd_v 6)) (pda_cons (pd_call D_law_behind_text (hr.mono (by decide)) passG (pda_cons (pd_v 3) (pda_cons (pd_v 6) pda_nil))) pda_nil)) (by rfl))))))))
      (pds_frz 4 (pds_cons (pd_set (i := 8) sc_law_laid.nd rfl (Or.inl rfl) (pd_call D_law_pick (hr.mono (by decide)) passG (pda_cons (pd_v 0) (pda_cons (pd_lst (pda_cons pd_str (pda_cons pd_str (pda_cons pd_str (pda_cons pd_str (pda_cons pd_str (pda_cons pd_str pda_nil))))))) pda_nil))))
      (pds_one (pd_ret (pd_tup (pda_cons (pd_addS (pd_v 2) (pd_v 8)) (pda_cons (pd_v 4) (pda_cons (pd_call D_law_behind_text (hr.mono (by decide)) passG (pda_cons (pd_v 3) (pda_cons (pd_v 8) pda_nil))) pda_nil))))))))))), fun ds s Q Z hn h => ?_⟩
  obtain ⟨p, ws, n, rfl, hw, hl, hp, hn2, h⟩ := h
  simp only [dRaise, dFrz, frz, dDict, dVals, wipeD, dYes, dSeq, dNext, dRet, dRetN, dDrop, dAsg, gN, dIf, dB, dOp, dV, dC, sg, ss, startD, dCB, dCons, dNil, dTup, dLst, dLstC, dCall, dNo, dSome, dSl, dPar, dPar3, dAugN, dNeg, dAndV, dOrV, dNotV, dAnd, dOr, dNot, dFld, dSetF, dAugF, dMeth, dMake, dMakeD, dDGet, dDPut, dBM, dM1, gF, gTupD, gConsD, gNilD, rdInS, rdInT, itemsOf, strsOf, rdIxT, rdIx, rsT, rsL, rsU, rcLen, lenOf, rcInt, rcStr, rcList, rcListC, rcTup, rcAll, rcI2, tyN, rcIsi, isTy, rdAddI, rdSubI, rdMulI, rdModI, rdDivI, rdPowI, rdI, rdI0, rdLt, rdLe, rdGt, rdGe, rdAddS, rdAddL, rdAddT, rdEq, eqS, rdIsN, isNon, rdIsB, isBl, itL, itT, itS, itR1, itR2, itE, itZ, isLC, rbApp, rbPop, rbSplit, insOf, keyD, List.map_cons, List.map_nil, List.cons_append, List.nil_append, List.length_cons, List.length_nil, List.zip_cons_cons, List.zip_nil_left, List.reverse_cons, List.reverse_nil, List.replicate, Option.map_some, Nat.zero_add, Nat.reduceAdd, Nat.reduceSub, Bool.false_eq_true, if_false, if_true, reduceIte, dFor]
  refine ⟨by decide, by decide, fun a ha => ?_⟩
  have hpa : p ≠ a := fun e => hp.some (by rw [e]; exact ha)
  have hz : 1000000 < sizeLine := by decide
  refine forD_all (fun i ρ s' => ∃ bs o5 o6 o7, bs.map (·.2) = ws.take i ∧ bs.length = i ∧ OkB true bs ∧ (endFr true bs = false → ∃ j v, i = j + 1 ∧ ws[j]? = some v ∧ isSignW v = false) ∧ (textOf bs).length ≤ 32 * i ∧
    ρ = [some (.ref p), some (.lst (ws.map wD)), some (.str (mkS (textOf bs))), some (plD (behind (textOf bs) (1, 1))), some (.ref a), o5, o6, o7, none] ∧ s' a = some (.lst (placesD bs)) ∧ Pen s' p (n + i) ∧ ∀ c, c ≠ p → c ≠ a → s' c = s c) ?_ ?_ ?_
  · refine ⟨[], none, none, none, rfl, rfl, trivial, (fun z => by cases z), Nat.le_refl _, rfl, supd_same, hp.of (supd_ne hpa), fun c _ hc => supd_ne hc⟩
  · rintro i d ρ1 s1 NX hd ⟨bs, o5, o6, o7, h1, h1', h2, h3, h4, hρ, h5, h6, h7⟩ hnx
    subst ρ1
    obtain ⟨e, he, rfl⟩ := enum_get hd
    rw [List.getElem?_map] at he
    obtain ⟨wd, hwd, rfl⟩ := Option.map_eq_some_iff.mp he
    have hil : i < ws.length := (List.getElem?_eq_some_iff.mp hwd).1
    have hgood := hw wd (List.mem_of_getElem? hwd)
    simp only [dRaise, dFrz, frz, dDict, dVals, wipeD, dYes, dSeq, dNext, dRet, dRetN, dDrop, dAsg, gN, dIf, dB, dOp, dV, dC, sg, ss, startD, dCB, dCons, dNil, dTup, dLst, dLstC, dCall, dNo, dSome, dSl, dPar, dPar3, dAugN, dNeg, dAndV, dOrV, dNotV, dAnd, dOr, dNot, dFld, dSetF, dAugF, dMeth, dMake, dMakeD, dDGet, dDPut, dBM, dM1, gF, gTupD, gConsD, gNilD, rdInS, rdInT, itemsOf, strsOf, rdIxT, rdIx, rsT, rsL, rsU, rcLen, lenOf, rcInt, rcStr, rcList, rcListC, rcTup, rcAll, rcI2, tyN, rcIsi, isTy, rdAddI, rdSubI, rdMulI, rdModI, rdDivI, rdPowI, rdI, rdI0, rdLt, rdLe, rdGt, rdGe, rdAddS, rdAddL, rdAddT, rdEq, eqS, rdIsN, isNon, rdIsB, isBl, itL, itT, itS, itR1, itR2, itE, itZ, isLC, rbApp, rbPop, rbSplit, insOf, keyD, List.map_cons, List.map_nil, List.cons_append, List.nil_append, List.length_cons, List.length_nil, List.zip_cons_cons, List.zip_nil_left, List.reverse_cons, List.reverse_nil, List.replicate, Option.map_some, Nat.zero_add, Nat.reduceAdd, Nat.reduceSub, Bool.false_eq_true, if_false, if_true, reduceIte]
    refine ⟨rfl, by decide, trivial, p, _, _, n + i, rfl, rfl, by decide, by show 8 < 1073741824; decide, h6, by omega, fun x s2 hx hp2 ho2 => ?_⟩
    obtain ⟨g0, rfl, hg1, hg2⟩ := gap_of hx
    obtain ⟨cnd, hcnd⟩ : ∃ cnd, cnd = (mkS g0 == "" && (decide ((0 : Int) < (i : Int)) && (!isSignW wd && !isSignW (ws.getD (i - 1) [])))) := ⟨_, rfl⟩
    have hs2 : s2 a = some (.lst (placesD bs)) := (ho2 a hpa.symm).trans h5
    have hfin : ∀ g, gapM false g = true → g.length ≤ 20 → (endFr true bs = false → isSignW wd = false → g ≠ []) → NX [some (.ref p), some (.lst (ws.map wD)), some (.str (mkS (textOf (bs ++ [(g, wd)])))), some (plD (behind (textOf (bs ++ [(g, wd)])) (1, 1))), some (.ref a), some (.int i), some (wD wd), some (.str (mkS g)), none] (supd s2 a (.lst (placesD (bs ++ [(g, wd)])))) := by
      intro g k1 k2 k3
      refine hnx _ _ ⟨bs ++ [(g, wd)], _, _, _, ?_, ?_, OkB_snoc _ _ _ _ h2 k1 hgood.1 k3, ?_, ?_, rfl, supd_same, ?_, ?_⟩
      · rw [List.map_append, h1, List.take_succ, hwd]
        rfl
      · rw [List.length_append, h1']
        rfl
      · intro e
        rw [endFr_snoc] at e
        exact ⟨i, wd, rfl, hwd, e⟩
      · rw [textOf_snoc, List.length_append, List.length_append]
        have := hgood.2
        omega
      · exact hp2.of (supd_ne hpa)
      · intro c c1 c2
        rw [supd_ne c2, ho2 c c1, h7 c c1 c2]
    have hemp : (mkS g0 == "") = (g0 == []) := by
      rw [show ("" : Str) = mkS [] from rfl, mkS_beq]
    refine s_ifS (b := cnd) ?_ (fun hb => ?_) (fun hb => ?_)
    · rw [hcnd]
      refine tv_and (fun Q Z q => q) fun _ => tv_and (fun Q Z q => q) fun hi => tv_and (tv_not (a := isSignW wd) (fun Q Z q => ⟨rfl, mkS wd, rfl, q⟩)) fun _ => tv_not (a := isSignW (ws.getD (i - 1) [])) (fun Q Z q => ?_)
      have hi' : 0 < i := by
        have := of_decide_eq_true hi
        omega
      have e1 : (ws.map wD)[i - 1]? = some (wD (ws.getD (i - 1) [])) := by
        rw [List.getElem?_map, List.getD_eq_getElem?_getD, List.getElem?_eq_getElem (show i - 1 < ws.length by omega)]
        rfl
      have e2 : atI (ws.map wD) ((i : Int) - 1) = some (wD (ws.getD (i - 1) [])) := by
        rw [show (i : Int) - 1 = ((i - 1 : Nat) : Int) by omega]
        exact atI_nat e1
      show match atI (ws.map wD) ((i : Int) - 1) with
        | some d => _
        | none => False
      rw [e2]
      exact ⟨rfl, _, rfl, q⟩
    · have hb' := hb
      rw [hcnd] at hb'
      refine laid_rest (g := [32]) (by omega) (by omega) (by decide) hgood.2 hs2 (hfin [32] (by decide) (by decide) (fun _ _ => by intro e; cases e))
    · refine laid_rest (g := g0) (by omega) (by omega) hg2 hgood.2 hs2 (hfin g0 hg1 hg2 (fun e1 e2 e3 => ?_))
      obtain ⟨j, v, rfl, hv, hsv⟩ := h3 e1
      have e4 : ws.getD (j + 1 - 1) [] = v := by
        rw [List.getD_eq_getElem?_getD, show j + 1 - 1 = j by omega, hv]
        rfl
      rw [hcnd, hemp, e3, e2, e4, hsv] at hb
      rw [decide_eq_true (show (0 : Int) < ((j + 1 : Nat) : Int) by omega)] at hb
      cases hb
  · rintro ρ1 s1 ⟨bs, o5, o6, o7, h1, h1', h2, h3, h4, hρ, h5, h6, h7⟩
    rw [enum_len, List.length_map] at h1 h1' h4 h6
    rw [List.take_of_length_le (Nat.le_refl _)] at h1
    subst ρ1
    simp only [dRaise, dFrz, frz, dDict, dVals, wipeD, dYes, dSeq, dNext, dIfS, dRet, dRetN, dDrop, dAsg, gN, dIf, dB, dOp, dV, dC, sg, ss, startD, dCB, dCons, dNil, dTup, dLst, dLstC, dCall, dNo, dSome, dSl, dPar, dPar3, dAugN, dNeg, dAndV, dOrV, dNotV, dAnd, dOr, dNot, dFld, dSetF, dAugF, dMeth, dMake, dMakeD, dDGet, dDPut, dBM, dM1, gF, gTupD, gConsD, gNilD, rdInS, rdInT, itemsOf, strsOf, rdIxT, rdIx, rsT, rsL, rsU, rcLen, lenOf, rcInt, rcStr, rcList, rcListC, rcTup, rcAll, rcI2, tyN, rcIsi, isTy, rdAddI, rdSubI, rdMulI, rdModI, rdDivI, rdPowI, rdI, rdI0, rdLt, rdLe, rdGt, rdGe, rdAddS, rdAddL, rdAddT, rdEq, eqS, rdIsN, isNon, rdIsB, isBl, itL, itT, itS, itR1, itR2, itE, itZ, isLC, rbApp, rbPop, rbSplit, insOf, keyD, List.map_cons, List.map_nil, List.cons_append, List.nil_append, List.length_cons, List.length_nil, List.zip_cons_cons, List.zip_nil_left, List.reverse_cons, List.reverse_nil, List.replicate, Option.map_some, Nat.zero_add, Nat.reduceAdd, Nat.reduceSub, Bool.false_eq_true, if_false, if_true, reduceIte, h5]
    have ex : ∀ c, c ≠ p → sdel s1 a c = s c := fun c hc => by
      by_cases e : c = a
      · rw [e, sdel_same, ha]
      · rw [sdel_ne e, h7 c hc e]
    refine ⟨by decide, trivial, p, _, _, n + ws.length, rfl, rfl, by decide, by show 6 < 1073741824; decide, h6.of (sdel_ne hpa), by omega, fun x s2 hx hp2 ho2 => ?_⟩
    obtain ⟨tl, rfl, ht1, ht2⟩ := tail_of hx
    simp only [mkS_append, mkS_len]
    refine ⟨by omega, trivial, _, tl, rfl, by decide, ?_⟩
    have := h bs tl s2 h1 h2 ht1 (by omega) (hp2.mono (by omega)) (fun c hc => (ho2 c hc).trans (ex c hc))
    rw [behind_append] at this
    exact this
theorem ok_drawn {f : Addr} {fd : FuncData} (F : Fun K "_law_drawn_words" "_law_drawn_words" s_law_drawn_words f fd) (T : Txt K mg Sc) (D_law_pick : DefOk P w K mg base 2 "_law_pick" 2 gPick) (D_law_names : DefOk P w K mg base 3 "_law_names" 2 gNames) : FnOk P w K mg base (L2.CX P w) 4 f fd ["pen", "many"] (spG K 2 gDrawn) := by
  refine okG F sc_law_drawn_words rfl fun cdv A outer s H E hr => ⟨_, ((pds_cons (pd_set (i := 2) sc_law_drawn_words.nd rfl (Or.inl rfl) (pd_lst (pda_cons pd_str (pda_cons pd_str (pda_cons pd_str (pda_cons pd_str (pda_cons pd_str (pda_cons pd_str (pda_cons pd_str pda_nil)))))))))
      (pds_cons (pd_set (i := 3) sc_law_drawn_words.nd rfl (Or.inr rfl) (pd_addL (pd_addL (pd_call D_law_names (hr.mono (by decide)) passG (pda_cons (pd_v 0) (pda_cons pd_int pda_nil))) (pd_v 2)) (pd_lst (pda_cons pd_str (pda_cons pd_str (pda_cons pd_str (pda_cons pd_str (pda_cons pd_str (pda_cons pd_str (pda_cons pd_str (pda_cons pd_str (pda_cons pd_str (pda_cons pd_str (pda_cons pd_str (pda_cons pd_str (pda_cons pd_str (pda_cons pd_str pda_nil)))))))))))))))))
      (pds_one (pd_ret (pd_lc (own := [("turn", 4)]) rfl sc_law_drawn_words.nd (pdi_range1 T.z_range (pda_cons (pd_v 1) pda_nil)) (blkOk_by (N := N_law_drawn_words) (sc := defScope s_law_drawn_words) (by decide +kernel)) (fun _ _ _ _ _ => (pdg_name (i := 4) sc_law_drawn_words.nd rfl (Or.inl rfl))) (fun _ _ _ _ _ => pdts_nil) (fun _ _ _ _ _ => (pd_call D_law_pick (hr.mono (by decide)) passB (pda_cons (pd_v 0) (pda_cons (pd_v 3) pda_nil)))) (by decide))))))), fun ds s Q Z hn h => ?_⟩
  obtain ⟨p, m, n, rfl, hm, hp, hn2, h⟩ := h
  simp only [dRaise, dFrz, frz, dDict, dVals, wipeD, dYes, dSeq, dNext, dIfS, dRet, dRetN, dDrop, dAsg, gN, dIf, dB, dOp, dV, dC, sg, ss, startD, dCB, dCons, dNil, dTup, dLst, dLstC, dCall, dNo, dSome, dSl, dPar, dPar3, dAugN, dNeg, dAndV, dOrV, dNotV, dAnd, dOr, dNot, dFld, dSetF, dAugF, dMeth, dMake, dMakeD, dDGet, dDPut, dBM, dM1, gF, gTupD, gConsD, gNilD, rdInS, rdInT, itemsOf, strsOf, rdIxT, rdIx, rsT, rsL, rsU, rcLen, lenOf, rcInt, rcStr, rcList, rcListC, rcTup, rcAll, rcI2, tyN, rcIsi, isTy, rdAddI, rdSubI, rdMulI, rdModI, rdDivI, rdPowI, rdI, rdI0, rdLt, rdLe, rdGt, rdGe, rdAddS, rdAddL, rdAddT, rdEq, eqS, rdIsN, isNon, rdIsB, isBl, itL, itT, itS, itR1, itR2, itE, itZ, isLC, rbApp, rbPop, rbSplit, insOf, keyD, List.map_cons, List.map_nil, List.cons_append, List.nil_append, List.length_cons, List.length_nil, List.zip_cons_cons, List.zip_nil_left, List.reverse_cons, List.reverse_nil, List.replicate, Option.map_some, Nat.zero_add, Nat.reduceAdd, Nat.reduceSub, Bool.false_eq_true, if_false, if_true, reduceIte]
  refine ⟨by decide, trivial, p, 6, n, rfl, by decide, hp, by omega, fun l l' s1 hl hperm hp1 ho1 => ?_⟩
  have hlen : l'.length = 6 := by rw [hperm.length_eq, hl.1]
  dsimp only
  refine ⟨by rw [hlen]; decide, by decide, by rw [List.length_append, hlen]; decide, ?_⟩
  have hgood : ∀ x, x ∈ l' ++ [D.str "town", .str "homes", .str "place", .str "road", .str "to", .str "times", .str "load"] ++ [D.str "{", .str "}", .str ",", .str ";", .str ":", .str "0", .str "7", .str "10", .str "999", .str "a", .str "tow", .str "towns", .str "abcdefghijkl", .str "a0b1"] → ∃ w, x = wD w ∧ Good w := by
    intro x hx
    rcases List.mem_append.mp
        hx with hx | hx
    · rcases List.mem_append.mp
        hx with hx | hx
      · obtain ⟨i, hi⟩ := List.mem_iff_getElem?.mp (hperm.mem_iff.mp hx)
        have hi6 : i < 6 := by
          rw [← hl.1]
          exact (List.getElem?_eq_some_iff.mp hi).1
        obtain ⟨y, hy1, hy2⟩ := hl.2 i hi6
        rw [hi] at hy1
        injection hy1 with hy1
        subst hy1
        exact name_good (by omega) hy2
      · exact keys_good hx
    · exact more_good hx
  obtain ⟨L, hL⟩ : ∃ L, L = l' ++ [D.str "town", .str "homes", .str "place", .str "road", .str "to", .str "times", .str "load"] ++ [D.str "{", .str "}", .str ",", .str ";", .str ":", .str "0", .str "7", .str "10", .str "999", .str "a", .str "tow", .str "towns", .str "abcdefghijkl", .str "a0b1"] := ⟨_, rfl⟩
  have hLl : L.length = 27 := by
    rw [hL, List.length_append, List.length_append, hlen]
    rfl
  rw [← hL] at hgood ⊢
  have hrl : (rangeD 0 ((m : Int)).toNat).length = m := by
    unfold rangeD
    rw [List.length_map,
        List.length_range]
    omega
  refine lc_inv (ds := rangeD 0 ((m : Int)).toNat) (fun Dl i acc s' => (∃ ws : List (List Nat), acc = ws.map wD ∧ ws.length = i ∧ ∀ w, w ∈ ws → Good w) ∧ s' Dl = some (.lst acc) ∧ Pen s' p (n + 110 + i) ∧ ∀ c, c ≠ p → c ≠ Dl → s' c = s1 c) ?_ ?_ ?_ ?_
  · intro Q Z q
    exact ⟨by omega, by omega, q⟩
  · intro Dl hD
    refine ⟨⟨[], rfl, rfl, (by intro w hw; cases hw)⟩, supd_same, hp1.of (supd_ne fun e => hp1.some (by rw [e]; exact hD)), fun c _ hc => supd_ne hc⟩
  · rintro Dl i d acc s' NX hD hd ⟨⟨ws, rfl, h1, h2⟩, h3, h4, h5⟩ hnx
    have hil : i < m := by
      rw [← hrl]
      exact (List.getElem?_eq_some_iff.mp hd).1
    have hpD : Dl ≠ p := fun e => hp1.some (by rw [← e]; exact hD)
    simp only [dRaise, dFrz, frz, dDict, dVals, wipeD, dYes, dSeq, dNext, dIfS, dRet, dRetN, dDrop, dAsg, gN, dIf, dB, dOp, dV, dC, sg, ss, startD, dCB, dCons, dNil, dTup, dLst, dLstC, dCall, dNo, dSome, dSl, dPar, dPar3, dAugN, dNeg, dAndV, dOrV, dNotV, dAnd, dOr, dNot, dFld, dSetF, dAugF, dMeth, dMake, dMakeD, dDGet, dDPut, dBM, dM1, gF, gTupD, gConsD, gNilD, rdInS, rdInT, itemsOf, strsOf, rdIxT, rdIx, rsT, rsL, rsU, rcLen, lenOf, rcInt, rcStr, rcList, rcListC, rcTup, rcAll, rcI2, tyN, rcIsi, isTy, rdAddI, rdSubI, rdMulI, rdModI, rdDivI, rdPowI, rdI, rdI0, rdLt, rdLe, rdGt, rdGe, rdAddS, rdAddL, rdAddT, rdEq, eqS, rdIsN, isNon, rdIsB, isBl, itL, itT, itS, itR1, itR2, itE, itZ, isLC, rbApp, rbPop, rbSplit, insOf, keyD, List.map_cons, List.map_nil, List.cons_append, List.nil_append, List.length_cons, List.length_nil, List.zip_cons_cons, List.zip_nil_left, List.reverse_cons, List.reverse_nil, List.replicate, Option.map_some, Nat.zero_add, Nat.reduceAdd, Nat.reduceSub, Bool.false_eq_true, if_false, if_true, reduceIte]
    refine ⟨trivial, p, _, L, n + 110 + i, rfl, rfl, by omega, by omega, h4, by omega, fun x s'' hx hp' ho => ⟨(ho Dl hpD).trans h3, ?_, hnx _ _ ⟨?_, supd_same, ?_, ?_⟩⟩⟩
    · rw [List.length_map]
      have : 1000 < sizeLine := by decide
      omega
    · obtain ⟨wd, rfl, hg⟩ := hgood x hx
      refine ⟨ws ++ [wd], by rw [List.map_append]; rfl, by rw [List.length_append, h1]; rfl, fun w hw => ?_⟩
      rcases List.mem_append.mp hw with hw | hw
      · exact h2 w hw
      · rw [List.mem_singleton.mp hw]
        exact hg
    · exact hp'.of (supd_ne hpD.symm)
    · intro c hc1 hc2
      rw [supd_ne hc2, ho c hc1, h5 c hc1 hc2]
  · rintro Dl acc s' hD ⟨⟨ws, rfl, h1, h2⟩, h3, h4, h5⟩
    rw [hrl] at h1 h4
    have hpD : Dl ≠ p := fun e => hp1.some (by rw [← e]; exact hD)
    refine ⟨h3, h ws _ h1 h2 ((h4.of (sdel_ne hpD.symm)).mono (by omega)) fun c hc => ?_⟩
    by_cases hcD : c = Dl
    · rw [hcD, sdel_same, ← ho1 Dl hpD, hD]
    · rw [sdel_ne hcD, h5 c hc hcD, ho1 c hc]
end
end K34

/-! K34k: _law_why. -/
namespace K34
open PySem PySem.Spec PyProof.Rows L2 G
open LamX (CodeO GivesTo)
/-- the error classes that _law_why names -/
structure Errs (K : PySem.W.Frag) (mg : Str → Option Value) (Mi : Addr) : Prop where
  e1 : ∃ a, mg "BadText" = some (.ref a) ∧ PySem.W.exmOne K (.ref Mi) (.ref a) = some false
  e2 : ∃ a, mg "BadName" = some (.ref a) ∧ PySem.W.exmOne K (.ref Mi) (.ref a) = some false
  e3 : ∃ a, mg "BadNumber" = some (.ref a) ∧ PySem.W.exmOne K (.ref Mi) (.ref a) = some false
  e4 : ∃ a, mg "BadRow" = some (.ref a) ∧ PySem.W.exmOne K (.ref Mi) (.ref a) = some false
  e5 : mg "Misread" = some (.ref Mi) ∧ PySem.W.exmOne K (.ref Mi) (.ref Mi) = some true
  e6 : ∃ a, mg "Misplaced" = some (.ref a)
  e7 : ∃ a, mg "NoName" = some (.ref a)
  e8 : ∃ a, mg "TakenName" = some (.ref a)
  e9 : ∃ a, mg "Unlike" = some (.ref a)
  e10 : ∃ a, mg "NotThere" = some (.ref a)
  e11 : ∃ a, mg "TooMany" = some (.ref a)
  xf : XfC K Mi
  nl : PySem.W.findIn K (.ref Mi) "line" = some none
  nc : PySem.W.findIn K (.ref Mi) "column" = some none
theorem why_gives {X : Cx} {Mi g : Addr} {cdg : Value} {q : Str} (Er : Errs X.K X.mg Mi) : GivesTo X N_law_why "_law_why" (defScope s_law_why) g cdg (defBody s_law_why) "call" q (TWhy Mi) := by
  intro f c' s H Q tl act hc h
  obtain ⟨a1, m1, x1⟩ := Er.e1
  obtain ⟨a2, m2, x2⟩ := Er.e2
  obtain ⟨a3, m3, x3⟩ := Er.e3
  obtain ⟨a4, m4, x4⟩ := Er.e4
  obtain ⟨m5, x5⟩ := Er.e5
  obtain ⟨a6, m6⟩ := Er.e6
  obtain ⟨a7, m7⟩ := Er.e7
  obtain ⟨a8, m8⟩ := Er.e8
  obtain ⟨a9, m9⟩ := Er.e9
  obtain ⟨a10, m10⟩ := Er.e10
  obtain ⟨a11, m11⟩ := Er.e11
  refine ⟨_, pss_cons (ps_set (i := 1) sc_law_why.nd rfl (Or.inl rfl) pe_non) (pss_cons (ps_try_all (i := 2) (n := "error") (W0 := fun _ _ _ _ => False)
      (tb := fun W D σ H => ∃ Ech : XK, (∀ cls d σ' H', Ech cls d H' → W cls d σ' H') ∧ σ[0]? = some (some (.ref f)) ∧ H c' = some (CodeO c' q) ∧ tl Ech H (fun _ H1 => D.nx σ H1)) rfl rfl sc_law_why.nd rfl rfl LamX.takes0 (fun W pn xe tk _ => ?_)
      (.cons ⟨rfl, by decide, .inl m1⟩ (fun _ _ _ _ _ _ _ => G.pss_never) (.cons ⟨rfl, by decide, .inl m2⟩ (fun _ _ _ _ _ _ _ => G.pss_never) (.cons ⟨rfl, by decide, .inl m3⟩ (fun _ _ _ _ _ _ _ => G.pss_never) (.cons ⟨rfl, by decide, .inl m4⟩ (fun _ _ _ _ _ _ _ => G.pss_never)
        (.cons ⟨rfl, by decide, .inl m5⟩ (fun p ob k d pn hz hf => pss_one (ps_set (i := 1) sc_law_why.nd rfl (Or.inl rfl) (pe_tup (pa_cons pe_str (pa_cons (pe_xf Er.xf Er.nl hz hf (pe_var (i := 2) rfl (Or.inl rfl))) (pa_cons (pe_xf Er.xf Er.nc hz hf (pe_var (i := 2) rfl (Or.inl rfl))) pa_nil))))))
        (.cons ⟨rfl, by decide, .inl m6⟩ (fun _ _ _ _ _ _ _ => G.pss_never) (.cons ⟨rfl, by decide, .inl m7⟩ (fun _ _ _ _ _ _ _ => G.pss_never) (.cons ⟨rfl, by decide, .inl m8⟩ (fun _ _ _ _ _ _ _ => G.pss_never) (.cons ⟨rfl, by decide, .inl m9⟩ (fun _ _ _ _ _ _ _ => G.pss_never)
        (.cons ⟨rfl, by decide, .inl m10⟩ (fun _ _ _ _ _ _ _ => G.pss_never) (.cons ⟨rfl, by decide, .inl m11⟩ (fun _ _ _ _ _ _ _ => G.pss_never) .nil))))))))))))
    (pss_one (ps_ret (pe_var (i := 1) rfl (Or.inl rfl))))), ?_⟩
  · refine ⟨fun pins
      s' σ H' D I h' => ?_⟩
    obtain ⟨Ech, hW,
        h1, h2, h3⟩ := h'
    exact (pss_one (ps_expr (act W pn xe Ech _ _ tk hW))).run pins s' σ H' D I ⟨h1, h2, h3⟩
  · refine ⟨fun k dd H' => ∃ d l c, k = .ref Mi ∧ dd = some d ∧ H' d = some (.xd [("column", .int c), ("line", .int l)]) ∧ ∀ p, H' p = none → Q (.ref p) (upd H' p (.tup [.str "read", .int l, .int c])), ?_, rfl, hc, ?_⟩
    · rintro k dd σ' H' ⟨d, l, c, rfl, rfl, hd, hq⟩ hlen
      have hlen : σ'.length = 3 := hlen
      refine ⟨false, x1, (by intro z; cases z), fun _ => ⟨false, x2, (by intro z; cases z), fun _ => ⟨false, x3, (by intro z; cases z), fun _ => ⟨false, x4, (by intro z; cases z), fun _ => ⟨true, x5, fun _ p hp => ?_, (by intro z; cases z)⟩⟩⟩⟩⟩
      have h2 : (σ'.set 2 (some (V.ref p)))[2]? = some (some (V.ref p)) := List.getElem?_set_self (by omega)
      refine ⟨.ref p, h2, rfl, rfl, d, _, .int l, rfl, hd, ?_, .ref p, h2, rfl, rfl, d, _, .int c, rfl, hd, ?_, (show 3 ≤ sizeLine by decide), fun r hr => ?_⟩
      · rw [List.lookup_cons, show (("line" : Str) == "column") = false from by decide +kernel]
        show List.lookup _ _ = _
        rw [List.lookup_cons, beq_self_eq_true]
      · rw [List.lookup_cons, beq_self_eq_true]
      · refine ⟨.ref r, ?_, hq r hr⟩
        show (((σ'.set 2 (some (V.ref p))).set 1 (some (V.ref r))).set 2 none)[1]? = some (some (V.ref r))
        rw [List.getElem?_set_ne (by decide), List.getElem?_set_self (by rw [List.length_set]; omega)]
    · have e : (fun (_ : V) (H' : Hp) => ∃ v, ((L2.start N_law_why [V.ref f]).set 1 (some V.non))[1]? = some (some v) ∧ Q v H') = fun _ H' => Q .non H' := by
        funext _ H'
        refine propext ⟨fun ⟨v, h1, h2⟩ => ?_, fun h => ⟨.non, rfl, h⟩⟩
        cases h1
        exact h2
      show tl _ H (fun _ H' => ∃ v, ((L2.start N_law_why [V.ref f]).set 1 (some V.non))[1]? = some (some v) ∧ Q v H')
      rw [e]
      exact h
end K34

/-! K34m: the plain law: two texts, bad words, two words in one. -/
namespace K34
open PySem PySem.Spec PyProof.Rows L2 G
def codes (l : List Str) : List (List Nat) := l.map fun x : Str => x.cps.toList
def gaps2L : List (List Nat) := codes ["\n", "#\n", " \n", "\n# a\n\n "]
def badL : List (List Nat) := codes ["01", "1000", "7a", "abcdefghijklm", "A", "_", "a.b", "-", "aB", "[", "\t"]
def leftL : List (List Nat) := codes ["a", "to", "b7", "load", "x"]
def rightL : List (List Nat) := codes ["b", "7", "place", "0x", "s"]
def spotOf (x : List Nat) : Int := if (codes ["a.b", "aB"]).contains x then 1 else 0
theorem stops_nil : Stops [] := fun _ _ e => nomatch e
theorem tails_ok : ∀ t, t ∈ tailsL → gapE false t = true ∧ t.length ≤ 20 ∧ (t = [] ∨ isRun (t.headD 0) = false) := by decide +kernel
theorem tail_stops {t : List Nat} (h : t ∈ tailsL) : Stops t := by
  rcases (tails_ok t h).2.2 with rfl | h2
  · exact stops_nil
  · intro c r e
    subst e
    exact h2
theorem gaps2_ok : ∀ g, g ∈ gaps2L → g ≠ [] ∧ g.length ≤ 20 ∧ ∀ t, t ∈ tailsL → gapM false (t ++ g) = true := by decide +kernel
theorem behind_one : ∀ (u : List Nat) (p : Int × Int), 1 ≤ p.1 → 1 ≤ (behind u p).1
  | [], _, h => h
  | c :: u, p, h => behind_one u _ (by
    by_cases hc : c = 10
    · rw [if_pos hc]
      show 1 ≤ p.1 + 1
      omega
    · rw [if_neg hc]
      exact h)
/-- two texts, a gap between -/
theorem tk_two {bs1 bs2 : Body} {t1 t2 g : List Nat} {h : Int × Int} (h1 : OkB true bs1) (h2 : OkB true bs2) (ht1 : t1 ∈ tailsL) (hg : g ∈ gaps2L) (ht2 : t2 ∈ tailsL) (hh : h = behind g (behind (textOf bs1 ++ t1) (1, 1))) :
    Tk (textOf bs1 ++ t1 ++ g ++ (textOf bs2 ++ t2)) 1 1 ((rowsOf bs1 (1, 1)).map rwD ++ ((rowsOf bs2 h).map rwD ++ [endRow (behind (textOf bs2 ++ t2) h).1 (behind (textOf bs2 ++ t2) h).2])) none := by
  obtain ⟨g1, g2, g3⟩ := gaps2_ok g hg
  have hne : t1 ++ g ≠ [] := fun e => g1 (List.append_eq_nil_iff.mp e).2
  rw [List.append_assoc (textOf bs1), List.append_assoc]
  refine tk_body true bs1 (1, 1) h1 (fun _ => gap_stops (g3 t1 ht1) hne) ?_
  refine tk_gap _ (t1 ++ g) (behind (textOf bs1) (1, 1)) (Nat.le_refl _) (g3 t1 ht1) ?_
  rw [behind_append, ← behind_append (textOf bs1), ← hh]
  refine tk_body true bs2 h h2 (fun _ => tail_stops ht2) ?_
  rw [behind_append]
  exact tk_tail _ t2 _ (Nat.le_refl _) (tails_ok t2 ht2).1
theorem bad_run {w o : List Nat} {l c : Int} (h1 : w ≠ []) (h2 : w.all isRun = true) (h3 : kindD (mkS w) = .non) : Tk (w ++ 32 :: o) l c [] (some (l, c)) := by
  cases w with
  | nil => exact absurd rfl h1
  | cons ch w =>
    have ha : ∀ c, c ∈ ch :: w → isRun c = true := fun c hc => List.all_eq_true.mp h2 c hc
    have ew : ch :: w = ch :: (w ++ 32 :: o).takeWhile isRun := by
      rw [run_take (fun d hd => ha d (List.mem_cons_of_mem _ hd)) (fun c r e => by
        injection e with e1 e2
        rw [← e1]
        exact run32)]
    exact .runB (ha ch List.mem_cons_self) ew h3
theorem bad_ok {x : List Nat} (hx : x ∈ badL) (o : List Nat) (l c : Int) : ∃ rows, Tk (x ++ 32 :: o) l c rows (some (l, c + spotOf x)) := by
  have run0 : ∀ y : Str, (y.cps.toList != [] && y.cps.toList.all isRun && (match kindD y with
      | .non => true
      | _ => false) && spotOf y.cps.toList == 0) = true → ∃ rows, Tk (y.cps.toList ++ 32 :: o) l c rows (some (l, c + spotOf y.cps.toList)) := by
    intro y h
    rw [Bool.and_eq_true, Bool.and_eq_true, Bool.and_eq_true] at h
    obtain ⟨⟨⟨a, b⟩, d⟩, e⟩ := h
    have e' : spotOf y.cps.toList = 0 := by simpa using e
    rw [e', Int.add_zero]
    refine ⟨[], bad_run (by simpa using a) b ?_⟩
    rw [mkS_of]
    split at d
    · assumption
    · cases d
  have sig0 : ∀ ch : Nat, (!isRun ch && ch != 10 && ch != 32 && ch != 35 && !signsL.contains (mkS [ch]) && spotOf [ch] == 0) = true → ∃ rows, Tk ([ch] ++ 32 :: o) l c rows (some (l, c + spotOf [ch])) := by
    intro ch h
    simp only [Bool.and_eq_true, Bool.not_eq_true', bne_iff_ne, ne_eq, beq_iff_eq] at h
    obtain ⟨⟨⟨⟨⟨a, b⟩, d⟩, e⟩, f⟩, g⟩ := h
    rw [g, Int.add_zero]
    exact ⟨[], .signB a b d e f⟩
  have two : ∀ ch b : Nat, ∀ r : List Nat, (isRun ch && !isRun b && b != 10 && b != 32 && b != 35 && !signsL.contains (mkS [b]) && (match kindD (mkS [ch]) with
      | .str _ => true
      | _ => false) && spotOf (ch :: b :: r) == 1) = true → ∃ rows, Tk ((ch :: b :: r) ++ 32 :: o) l c rows (some (l, c + spotOf (ch :: b :: r))) := by
    intro ch b r h
    simp only [Bool.and_eq_true, Bool.not_eq_true', bne_iff_ne, ne_eq, beq_iff_eq] at h
    obtain ⟨⟨⟨⟨⟨⟨⟨a, b1⟩, b2⟩, b3⟩, b4⟩, b5⟩, b6⟩, g⟩ := h
    rw [g]
    split at b6
    · rename_i kd hk
      have ew : [ch] = ch :: ((b :: r) ++ 32 :: o).takeWhile isRun := by
        rw [List.cons_append, List.takeWhile_cons, b1]
        rfl
      exact ⟨_, .run a ew hk (.signB b1 b2 b3 b4 b5)⟩
    · cases b6
  unfold badL codes at hx
  simp only [List.map_cons, List.map_nil, List.mem_cons, List.not_mem_nil, or_false] at hx
  rcases hx with rfl | rfl | rfl | rfl | rfl | rfl | rfl | rfl | rfl | rfl | rfl
  · exact run0 _ (by decide +kernel)
  · exact run0 _ (by decide +kernel)
  · exact run0 _ (by decide +kernel)
  · exact run0 _ (by decide +kernel)
  · exact sig0 65 (by decide +kernel)
  · exact sig0 95 (by decide +kernel)
  · exact two 97 46 [98] (by decide +kernel)
  · exact sig0 45 (by decide +kernel)
  · exact two 97 66 [] (by decide +kernel)
  · exact sig0 91 (by decide +kernel)
  · exact sig0 9 (by decide +kernel)
/-- a text, a gap, a word that cannot be read -/
theorem tk_bad {bs1 : Body} {t1 g x : List Nat} {h : Int × Int} (o : List Nat) (h1 : OkB true bs1) (ht1 : t1 ∈ tailsL) (hg : g ∈ gaps2L) (hx : x ∈ badL) (hh : h = behind g (behind (textOf bs1 ++ t1) (1, 1))) :
    ∃ rows, Tk (textOf bs1 ++ t1 ++ g ++ (x ++ 32 :: o)) 1 1 rows (some (h.1, h.2 + spotOf x)) := by
  obtain ⟨g1, g2, g3⟩ := gaps2_ok g hg
  have hne : t1 ++ g ≠ [] := fun e => g1 (List.append_eq_nil_iff.mp e).2
  obtain ⟨rows, hr⟩ := bad_ok hx o h.1 h.2
  refine ⟨(rowsOf bs1 (1, 1)).map rwD ++ rows, ?_⟩
  rw [List.append_assoc (textOf bs1), List.append_assoc]
  refine tk_body true bs1 (1, 1) h1 (fun _ => gap_stops (g3 t1 ht1) hne) ?_
  refine tk_gap _ (t1 ++ g) (behind (textOf bs1) (1, 1)) (Nat.le_refl _) (g3 t1 ht1) ?_
  rw [behind_append, ← behind_append (textOf bs1), ← hh]
  exact hr
/-- one word alone -/
theorem tk_alone {w : List Nat} {kd : Str} (h : IsW w kd) : Tk w 1 1 [rowD kd w 1 1, endRow 1 (1 + (w.length : Nat))] none := by
  have := tk_word (rest := []) (rows := [endRow (behind w (1, 1)).1 (behind w (1, 1)).2]) (b := none) (p := (1, 1)) h (fun _ => stops_nil) .nil
  rw [List.append_nil, word_behind h] at this
  exact this
theorem two_ok : ∀ a, a ∈ leftL → ∀ b, b ∈ rightL → wordB (a ++ b) = true ∧ (a ++ b).length ≤ 12 := by decide +kernel
/-- is_name of a word: what its kind says -/
theorem isName_word {w : List Nat} {kd : Str} (h : IsW w kd) : isName (mkS w) = (kd == "name") := by
  rcases h with ⟨h0, h1, h2, h3⟩ | ⟨h0, rfl, ch, rfl, h1, _⟩
  · unfold isName
    have e1 : ((mkS w).length != 0) = true := by
      rw [mkS_len]
      cases w with
      | nil => exact absurd rfl h1
      | cons c w => rfl
    have e2 : (mkS w).cps.toList.all isRun = true := by
      rw [mkS_cps, List.all_eq_true]
      exact h2
    rw [e1, e2, h3]
    rfl
  · unfold isName
    have e2 : (mkS [ch]).cps.toList.all isRun = false := by
      rw [mkS_cps, List.all_cons, h1]
      rfl
    rw [e2, Bool.and_false, Bool.false_and]
    decide +kernel
theorem isName_A (w : List Nat) : isName (mkS (w ++ [65])) = false := by
  unfold isName
  have e2 : (mkS (w ++ [65])).cps.toList.all isRun = false := by
    rw [mkS_cps, List.all_append, show [65].all isRun = false from by decide +kernel, Bool.and_false]
  rw [e2, Bool.and_false, Bool.false_and]
end K34

/-! K34l: law. -/
namespace K34
open PySem PySem.Spec PyProof.Rows L2 G
def lamQ : Str := (envOfC "law" (defScope s_law) 0 0 Value.none).qual ++ "<lambda>"
def gLaw (PL : Addr) : DF := fun ds s Q _ => ∃ d, ∃ cells : List Int, ds = [d] ∧ (d = .fz (cells.map D.int) ∨ d = .lst (cells.map D.int)) ∧ OneTab s PL lamQ ∧ ∀ s', Q (.bl true) s'
theorem one_oth {s s' : Sto} {P p : Addr} {q : Str} {n : Nat} (h : OneTab s P q) (hp : Pen s' p n) (ho : Oth p s s') (hne : p ≠ P) : OneTab s' P q := by
  refine ⟨(ho P hne.symm).trans h.1, fun a r ha => ?_⟩
  by_cases e : a = p
  · obtain ⟨_, _, _, _, _, h1, _⟩ := hp
    rw [e, h1] at ha
    cases ha
  · rw [ho a e] at ha
    exact h.2 a r ha
theorem one_keeps {s s' : Sto} {P : Addr} {q : Str} (h : OneTab s P q) (k : Keeps s s') : OneTab s' P q := ⟨k.1 _ _ h.1, fun a r ha => h.2 a r (k.2 a r ha)⟩
theorem pen_keeps {s s' : Sto} {p : Addr} {n : Nat} (h : Pen s p n) (k : Keeps s s') : Pen s' p n := by
  obtain ⟨c, i, d, e, f, h1, h2⟩ := h
  exact ⟨c, i, d, e, f, k.1 _ _ h1, h2⟩
def fRow : D → Option D
  | .tup [.str x, pl] => some (.tup [kindW x.cps.toList, .str x, pl])
  | _ => none
theorem zip_rows : ∀ (bs : Body) (p : Int × Int), (zipD ((bs.map (·.2)).map wD) ((rowsOf bs p).map fun r => plD r.2.2)).filterMap fRow = (rowsOf bs p).map rwD
  | [], _ => rfl
  | (g, w) :: bs, p => by
    have ih := zip_rows bs (behind w (behind g p))
    have e1 : zipD ((((g, w) :: bs).map (·.2)).map wD) ((rowsOf ((g, w) :: bs) p).map fun r => plD r.2.2) = .tup [wD w, plD (behind g p)] :: zipD ((bs.map (·.2)).map wD) ((rowsOf bs (behind w (behind g p))).map fun r => plD r.2.2) := rfl
    have e2 : fRow (.tup [wD w, plD (behind g p)]) = some (rwD (kindW w, .str (mkS w), behind g p)) := rfl
    rw [e1, List.filterMap_cons, e2, ih]
    rfl
theorem zip_mem {d : D} : ∀ {l m : List D}, d ∈ zipD l m → ∃ a b, a ∈ l ∧ b ∈ m ∧ d = .tup [a, b]
  | x :: l, y :: m, h => by
    unfold zipD at h
    rw [List.zipWith_cons_cons] at h
    rcases List.mem_cons.mp h with h | h
    · exact ⟨x, y, List.mem_cons_self, List.mem_cons_self, h⟩
    · obtain ⟨a, b, ha, hb, e⟩ := zip_mem (l := l) (m := m) h
      exact ⟨a, b, List.mem_cons_of_mem _ ha, List.mem_cons_of_mem _ hb, e⟩
theorem kindD_in {x k : Str} (h : kindD x = .str k) : k = "key" ∨ k = "name" ∨ k = "number" := by
  unfold kindD at h
  split at h
  · cases h
    exact .inl rfl
  · split at h
    · split at h
      · cases h
        exact .inr (.inl rfl)
      · cases h
    · split at h
      · cases h
        exact .inr (.inr rfl)
      · cases h
def kindsL : List Str := ["key", "name", "number", "sign", "end"]
theorem isW_kind {w : List Nat} {kd : Str} (h : IsW w kd) : kindsL.contains kd = true := by
  rcases h with ⟨_, _, _, h⟩ | ⟨_, rfl, _⟩
  · rcases kindD_in h with rfl | rfl | rfl <;> decide +kernel
  · decide +kernel
theorem rows_kinds : ∀ (fr : Bool) (bs : Body) (p : Int × Int), OkB fr bs → ∀ r, r ∈ rowsOf bs p → (∃ k, r.1 = .str k ∧ kindsL.contains k = true) ∧ ∃ x, r.2.1 = .str x
  | _, [], _, _, r, hr => by cases hr
  | _, (g, w) :: bs, p, ⟨_, ⟨kd, h2⟩, _, h4⟩, r, hr => by
    rcases List.mem_cons.mp
        hr with rfl | hr
    · exact ⟨⟨kd, h2.kind, isW_kind h2⟩, _, rfl⟩
    · exact rows_kinds _ bs _ h4 r hr
theorem dep_pl (n : Nat) (p : Int × Int) : Dep (n + 2) (plD p) := ⟨by show 2 < 1000000; decide, fun x hx => by
  rcases List.mem_cons.mp
      hx with rfl | hx
  · exact trivial
  · rcases List.mem_cons.mp hx with rfl | hx
    · exact trivial
    · cases hx⟩
theorem dep_row (n : Nat) {k x : D} {p : Int × Int} (hk : ∃ s, k = .str s) (hx : ∃ s, x = .str s) : Dep (n + 3) (rwD (k, x, p)) := ⟨by show 3 < 1000000; decide, fun d hd => by
  obtain ⟨k, rfl⟩ := hk
  obtain ⟨x, rfl⟩ := hx
  rcases List.mem_cons.mp
      hd with rfl | hd
  · exact trivial
  · rcases List.mem_cons.mp
      hd with rfl | hd
    · exact trivial
    · rcases List.mem_cons.mp
        hd with rfl | hd
      · exact dep_pl n p
      · cases hd⟩
/-- rows and an end -/
theorem dep_rows (n : Nat) {l : List Row} {q : Int × Int} (hl : l.length < 100000) (h : ∀ r, r ∈ l → (∃ k, r.1 = .str k ∧ kindsL.contains k = true) ∧ ∃ x, r.2.1 = .str x) : Dep (n + 4) (.tup (l.map rwD ++ [endRow q.1 q.2])) := ⟨by
  rw [List.length_append, List.length_map]
  show l.length + 1 < 1000000
  omega, fun d hd => by
  rcases List.mem_append.mp hd with hd | hd
  · obtain ⟨r, hr, rfl⟩ := List.mem_map.mp hd
    obtain ⟨⟨k, hk, _⟩, hx⟩ := h r hr
    exact dep_row n ⟨k, hk⟩ hx
  · rw [List.mem_singleton.mp hd]
    exact dep_row n (p := q) ⟨_, rfl⟩ ⟨_, rfl⟩⟩
theorem rows_in {l : List Row} {q : Int × Int} (h : ∀ r, r ∈ l → (∃ k, r.1 = .str k ∧ kindsL.contains k = true) ∧ ∃ x, r.2.1 = .str x) : ∀ d, d ∈ l.map rwD ++ [endRow q.1 q.2] → ∃ k r, d = .tup (.str k :: r) ∧ kindsL.contains k = true := by
  intro d hd
  rcases List.mem_append.mp hd with hd | hd
  · obtain ⟨r, hr, rfl⟩ := List.mem_map.mp hd
    obtain ⟨⟨k, hk, h2⟩, _⟩ := h r hr
    unfold rwD
    rw [hk]
    exact ⟨k, _, rfl, h2⟩
  · rw [List.mem_singleton.mp hd]
    exact ⟨"end", _, rfl, by decide +kernel⟩
theorem filter_none (l : List D) : l.filterMap (fun _ => (none : Option D)) = [] := by
  induction l with
  | nil => rfl
  | cons d l ih => exact ih
theorem gap2_of {x : D} (h : x ∈ [D.str "\n", .str "#\n", .str " \n", .str "\n# a\n\n "]) : ∃ g, x = .str (mkS g) ∧ g ∈ gaps2L := by
  simp only [List.mem_cons, List.not_mem_nil, or_false] at h
  rcases h with rfl | rfl | rfl | rfl <;> exact of_str (P := fun g => g ∈ gaps2L) (by decide +kernel)
theorem bad_of {x : D} (h : x ∈ [D.str "01", .str "1000", .str "7a", .str "abcdefghijklm", .str "A", .str "_", .str "a.b", .str "-", .str "aB", .str "[", .str "\t"]) : ∃ g, x = .str (mkS g) ∧ g ∈ badL := by
  simp only [List.mem_cons, List.not_mem_nil, or_false] at h
  rcases h with rfl | rfl | rfl | rfl | rfl | rfl | rfl | rfl | rfl | rfl | rfl <;> exact of_str (P := fun g => g ∈ badL) (by decide +kernel)
theorem left_of {x : D} (h : x ∈ [D.str "a", .str "to", .str "b7", .str "load", .str "x"]) : ∃ g, x = .str (mkS g) ∧ g ∈ leftL := by
  simp only [List.mem_cons, List.not_mem_nil, or_false] at h
  rcases h with rfl | rfl | rfl | rfl | rfl <;> exact of_str (P := fun g => g ∈ leftL) (by decide +kernel)
theorem right_of {x : D} (h : x ∈ [D.str "b", .str "7", .str "place", .str "0x", .str "s"]) : ∃ g, x = .str (mkS g) ∧ g ∈ rightL := by
  simp only [List.mem_cons, List.not_mem_nil, or_false] at h
  rcases h with rfl | rfl | rfl | rfl | rfl <;> exact of_str (P := fun g => g ∈ rightL) (by decide +kernel)
theorem cut_last (a : List D) (e : D) : G.cutD (a ++ [e]) none (some (-1)) = a := by
  unfold G.cutD
  rw [HT.sIx_none]
  show ((a ++ [e]).drop 0).take ((-1 + ((a ++ [e]).length : Int)).toNat - 0) = a
  rw [List.drop_zero, List.length_append, List.length_singleton, show (-1 + ((a.length + 1 : Nat) : Int)).toNat - 0 = a.length by omega, List.take_append_of_le_length (Nat.le_refl _), List.take_length]
theorem cut_not (n : Nat) : ¬ (HT.sIx (n + 1) 0 none = 0 ∧ HT.sIx (n + 1) (n + 1) (some (-1)) = n + 1) := by
  rintro ⟨_, h⟩
  have h2 : (-1 + ((n + 1 : Nat) : Int)).toNat = n + 1 := h
  omega
theorem moved_rows (bs : Body) (u : List Nat) (h : Int × Int) : (rowsOf bs (1, 1) ++ [(D.str "end", D.str "", behind u (1, 1))]).map (fun r => rwD (r.1, r.2.1, movP h r.2.2)) = (rowsOf bs h).map rwD ++ [endRow (behind u h).1 (behind u h).2] := by
  have e1 := rows_moved bs h (1, 1) (by decide)
  rw [movP_one] at e1
  have e2 := (movP_behind u h (1, 1) (by decide)).1
  rw [movP_one] at e2
  rw [List.map_append, ← e1, List.map_map, e2]
  rfl
theorem spot_in : ∀ x, x ∈ badL → ([("a.b" : Str), "aB"] : List Str).contains (mkS x) = (codes ["a.b", "aB"]).contains x := by decide +kernel
theorem bad_len : ∀ x, x ∈ badL → x.length ≤ 20 := by decide +kernel
theorem read_shaped (a b : Int) : SeqAt.shaped (.tuple [.str "read", .int a, .int b]) = true := by
  have h1 : PyData.strOk "read" = true := by decide +kernel
  have h2 : PyData.canLay0 (.tuple [.str "read", .int a, .int b]) = true := by
    show (PyData.strOk "read" && (true && (true && true))) = true
    rw [h1]
    rfl
  unfold SeqAt.shaped
  rw [h2]
  simp [PyData.depth, PyData.depthAll]
theorem read_eqv (a b : Int) : PyData.eqv (.tuple [.str "read", .int a, .int b]) (.tuple [.str "read", .int a, .int b]) = true := by
  have h := SeqAt.canLay_of_shaped (read_shaped a b)
  first
  | exact PyData.eqv_refl _ h
  | simp [PyData.eqv, PyData.eqvAll]
section
variable {P : Program} {w : World} {K : PySem.W.Frag} {mg : Str → Option Value} {base : Heap} {Sc Mi gw cL PL f : Addr} {ocw oc : Value} {odw od anw an : Option Addr} {oslw osl : Array (Option Value)} {kVw docw pmw cdvw ctw kV doc pm ct : Value}
theorem ok_law (lk : K.lookup f = some ⟨oc, od, .func (PySem.W.fnOf "law" "law" (defArgs s_law) (defBody s_law) (defScope s_law) .none kV doc pm an (.ref cL) ct), osl⟩) (hcd : PySem.W.codeIn K (.ref cL) "law" = true)
    (T : Txt K mg Sc) (Er : Errs K mg Mi) (TBw : LamX.TabB base mg cL PL) (Wm : mg "_law_why" = some (.ref gw)) (Wk : PySem.W.keepIn K (.ref gw) = true)
    (Wl : K.lookup gw = some ⟨ocw, odw, .func (PySem.W.fnOf "_law_why" "_law_why" (defArgs s_law_why) (defBody s_law_why) (defScope s_law_why) .none kVw docw pmw anw cdvw ctw), oslw⟩) (Wc : PySem.W.codeIn K cdvw "_law_why" = true)
    (Wb : Binds K (PySem.W.fnOf "_law_why" "_law_why" (defArgs s_law_why) (defBody s_law_why) (defScope s_law_why) .none kVw docw pmw anw cdvw ctw) ["call"] [])
    (D_law_pen : DefOk P w K mg base 1 "_law_pen" 1 gPen) (D_law_draw : DefOk P w K mg base 1 "_law_draw" 2 gDraw) (D_law_pick : DefOk P w K mg base 2 "_law_pick" 2 gPick) (D_law_drawn_words : DefOk P w K mg base 4 "_law_drawn_words" 2 gDrawn)
    (D_law_laid : DefOk P w K mg base 3 "_law_laid" 2 gLaid) (D_tokens : DefOk P w K mg base 4 "tokens" 1 (gTokens Mi)) (D_law_alone : DefOk P w K mg base 5 "_law_alone" 1 gAlone) (D_law_same : DefOk P w K mg base 5 "_law_same" 2 (gSame 5))
    (D_law_behind_text : DefOk P w K mg base 1 "_law_behind_text" 2 gBehind) (D_law_moved : DefOk P w K mg base 1 "_law_moved" 2 gMoved) (D_is_name : DefOk P w K mg base 3 "is_name" 1 gIsName) :
    FnOk P w K mg base (L2.CX P w) 8 f (PySem.W.fnOf "law" "law" (defArgs s_law) (defBody s_law) (defScope s_law) .none kV doc pm an (.ref cL) ct) ["script"] (spG K 1 (gLaw PL)) := by
  refine okGc lk hcd sc_law rfl fun A outer s H E hr => ⟨_, ((pds_cons (pd_set (i := 1) sc_law.nd rfl (Or.inr rfl) (pd_call D_law_pen (hr.mono (by decide)) passG (pda_cons (pd_v 0) pda_nil)))
      (pds_cons (pd_for passOwnG rfl (pdi_range1 T.z_range (pda_cons pd_int pda_nil)) (pdg_name (i := 2) sc_law.nd rfl (Or.inl rfl))
      (pds_cons (pd_par (i := 3) (j := 4) rfl sc_law.nd rfl rfl (by decide) rfl rfl (pda_cons (pd_call D_law_drawn_words (hr.mono (by decide)) passG (pda_cons (pd_v 1) (pda_cons (pd_call D_law_draw (hr.mono (by decide)) passG (pda_cons (pd_v 1) (pda_cons pd_int pda_nil))) pda_nil))) (pda_cons (pd_call D_law_drawn_words (hr.mono (by decide)) passG (pda_cons (pd_v 1) (pda_cons (pd_addI pd_int (pd_call D_law_draw (hr.mono (by decide)) passG (pda_cons (pd_v 1) (pda_cons pd_int pda_nil)))) pda_nil))) pda_nil)) (by rfl))
      (pds_cons (pd_asg (pd_call D_law_laid (hr.mono (by decide)) passG (pda_cons (pd_v 1) (pda_cons (pd_v 3) pda_nil))) (pdg_tup (n := 3) rfl (pdgs_cons (pdg_name (i := 5) sc_law.nd rfl (Or.inr rfl)) (pdgs_cons (pdg_name (i := 6) sc_law.nd rfl (Or.inl rfl)) (pdgs_cons (pdg_name (i := 7) sc_law.nd rfl (Or.inl rfl)) pdgs_nil)))))
      (pds_cons (pd_asg (pd_call D_law_laid (hr.mono (by decide)) passG (pda_cons (pd_v 1) (pda_cons (pd_v 4) pda_nil))) (pdg_tup (n := 3) rfl (pdgs_cons (pdg_name (i := 8) sc_law.nd rfl (Or.inr rfl)) (pdgs_cons (pdg_name (i := 9) sc_law.nd rfl (Or.inl rfl)) (pdgs_cons (pdg_name (i := 10) sc_law.nd rfl (Or.inl rfl)) pdgs_nil)))))
      (pds_cons (pd_par (i := 11) (j := 12) rfl sc_law.nd rfl rfl (by decide) rfl rfl (pda_cons (pd_call D_tokens (hr.mono (by decide)) passG (pda_cons (pd_v 5) pda_nil)) (pda_cons (pd_call D_tokens (hr.mono (by decide)) passG (pda_cons (pd_v 8) pda_nil)) pda_nil)) (by rfl))
      (pds_cons (pd_set (i := 13) sc_law.nd rfl (Or.inl rfl) (pd_tup1 T.z_tuple (pda_cons (pd_addL (pd_lc (own := [("word", 20), ("place", 21)]) rfl sc_law.nd (pdi_zip T.z_zip (pda_cons (pd_v 3) (pda_cons (pd_v 6) pda_nil))) (blkOk_by (N := N_law) (sc := defScope s_law) (by decide +kernel)) (fun _ _ _ _ _ => (pdg_tupB (n := 2) rfl (pdgs_cons (pdg_name (i := 20) sc_law.nd rfl (Or.inl rfl)) (pdgs_cons (pdg_name (i := 21) sc_law.nd rfl (Or.inl rfl)) pdgs_nil)))) (fun _ _ _ _ _ => pdts_nil) (fun _ _ _ _ _ => (pd_tup (pda_cons (pd_call D_law_alone (hr.mono (by decide)) passB (pda_cons (pd_v 20) pda_nil)) (pda_cons (pd_v 20) (pda_cons (pd_v 21) pda_nil))))) (by decide)) (pd_lst (pda_cons (pd_tup (pda_cons pd_str (pda_cons pd_str (pda_cons (pd_v 7) pda_nil)))) pda_nil))) pda_nil)))
      (pds_cons (pd_ifS (PDW.t (pdw_or (pd_notT (pd_valT (pd_call D_law_same (hr.mono (by decide)) passG (pda_cons (pd_v 11) (pda_cons (pd_v 13) pda_nil))))) (pdw_or1 (pt_neP hr (pd_lc (own := [("row", 22)]) rfl sc_law.nd (pdi_tup (pd_v 11)) (blkOk_by (N := N_law) (sc := defScope s_law) (by decide +kernel)) (fun _ _ _ _ _ => (pdg_name (i := 22) sc_law.nd rfl (Or.inl rfl))) (fun _ _ _ _ _ => (pdts_one (pt_notInS (pd_ixS (pd_v 22) pd_int) (pd_lst (pda_cons pd_str (pda_cons pd_str (pda_cons pd_str (pda_cons pd_str (pda_cons pd_str pda_nil))))))))) (fun _ _ _ _ _ => (pd_v 22)) (by decide)) (pd_lst pda_nil)))))
      (pds_one (pd_ret pd_bl))
      pds_nil)
      (pds_cons (pd_set (i := 14) sc_law.nd rfl (Or.inr rfl) (pd_call D_law_pick (hr.mono (by decide)) passG (pda_cons (pd_v 1) (pda_cons (pd_lst (pda_cons pd_str (pda_cons pd_str (pda_cons pd_str (pda_cons pd_str pda_nil))))) pda_nil))))
      (pds_cons (pd_set (i := 15) sc_law.nd rfl (Or.inl rfl) (pd_call D_law_behind_text (hr.mono (by decide)) passG (pda_cons (pd_v 7) (pda_cons (pd_v 14) pda_nil))))
      (pds_cons (pd_ifS (pd_notT (pd_valT (pd_call D_law_same (hr.mono (by decide)) passG (pda_cons (pd_call D_tokens (hr.mono (by decide)) passG (pda_cons (pd_addS (pd_addS (pd_v 5) (pd_v 14)) (pd_v 8)) pda_nil)) (pda_cons (pd_tup1 T.z_tuple (pda_cons (pd_addL (pd_list1 T.z_list (pda_cons (pd_slU (pd_v 11) pdo_none (pdo_some (pd_neg pd_int))) pda_nil)) (pd_call D_law_moved (hr.mono (by decide)) passG (pda_cons (pd_v 12) (pda_cons (pd_v 15) pda_nil)))) pda_nil)) pda_nil)))))
      (pds_one (pd_ret pd_bl))
      pds_nil)
      (pds_cons (pd_set (i := 16) sc_law.nd rfl (Or.inr rfl) (pd_call D_law_pick (hr.mono (by decide)) passG (pda_cons (pd_v 1) (pda_cons (pd_lst (pda_cons pd_str (pda_cons pd_str (pda_cons pd_str (pda_cons pd_str (pda_cons pd_str (pda_cons pd_str (pda_cons pd_str (pda_cons pd_str (pda_cons pd_str (pda_cons pd_str (pda_cons pd_str pda_nil)))))))))))) pda_nil))))
      (pds_cons (pd_set (i := 17) sc_law.nd rfl (Or.inl rfl) (pd_if (pt_inS (pd_v 16) (pd_lst (pda_cons pd_str (pda_cons pd_str pda_nil)))) pd_int pd_int))
      (pds_cons (pd_ifS (pt_neP hr (pd_lamcall (k := 4) (q := lamQ) rfl Wm Wk Wl Wc Wb sc_law_why rfl (Or.inl rfl) rfl (why_gives Er) TBw rfl (hr.mono (by decide)) (LamX.lamS_by (sc := defScope s_law) (by decide +kernel)) rfl (fun _ _ _ _ _ => by rfl) (fun A outer s H E f c' hr => (pd_call D_tokens (hr.mono (by decide)) passLam (pda_cons (pd_addS (pd_addS (pd_addS (pd_addS (pd_v 5) (pd_v 14)) (pd_v 16)) pd_str) (pd_v 8)) pda_nil)))) (pd_tup (pda_cons pd_str (pda_cons (pd_ixS (pd_v 15) pd_int) (pda_cons (pd_addI (pd_ixS (pd_v 15) pd_int) (pd_v 17)) pda_nil)))))
      (pds_one (pd_ret pd_bl))
      pds_nil)
      (pds_cons (pd_par (i := 18) (j := 19) rfl sc_law.nd rfl rfl (by decide) rfl rfl (pda_cons (pd_call D_law_pick (hr.mono (by decide)) passG (pda_cons (pd_v 1) (pda_cons (pd_lst (pda_cons pd_str (pda_cons pd_str (pda_cons pd_str (pda_cons pd_str (pda_cons pd_str pda_nil)))))) pda_nil))) (pda_cons (pd_call D_law_pick (hr.mono (by decide)) passG (pda_cons (pd_v 1) (pda_cons (pd_lst (pda_cons pd_str (pda_cons pd_str (pda_cons pd_str (pda_cons pd_str (pda_cons pd_str pda_nil)))))) pda_nil))) pda_nil)) (by rfl))
      (pds_cons (pd_ifS (pd_notT (pd_valT (pd_call D_law_same (hr.mono (by decide)) passG (pda_cons (pd_call D_tokens (hr.mono (by decide)) passG (pda_cons (pd_addS (pd_v 18) (pd_v 19)) pda_nil)) (pda_cons (pd_tup (pda_cons (pd_tup (pda_cons (pd_call D_law_alone (hr.mono (by decide)) passG (pda_cons (pd_addS (pd_v 18) (pd_v 19)) pda_nil)) (pda_cons (pd_addS (pd_v 18) (pd_v 19)) (pda_cons (pd_tup (pda_cons pd_int (pda_cons pd_int pda_nil))) pda_nil)))) (pda_cons (pd_tup (pda_cons pd_str (pda_cons pd_str (pda_cons (pd_tup (pda_cons pd_int (pda_cons (pd_addI pd_int (pd_len T.z_len (pda_cons (pd_addS (pd_v 18) (pd_v 19)) pda_nil))) pda_nil))) pda_nil)))) pda_nil))) pda_nil)))))
      (pds_one (pd_ret pd_bl))
      pds_nil)
      (pds_one (pd_for passOwnG rfl (pdi_list (pd_addL (pd_v 3) (pd_v 4))) (pdg_name (i := 20) sc_law.nd rfl (Or.inl rfl))
      (pds_one (pd_ifS (pd_notT (pd_valT (pd_call D_law_same (hr.mono (by decide)) passG (pda_cons (pd_tup (pda_cons (pd_call D_is_name (hr.mono (by decide)) passG (pda_cons (pd_v 20) pda_nil)) (pda_cons (pd_call D_is_name (hr.mono (by decide)) passG (pda_cons (pd_addS (pd_v 20) pd_str) pda_nil)) (pda_cons (pd_call D_is_name (hr.mono (by decide)) passG (pda_cons (pd_lst (pda_cons (pd_v 20) pda_nil)) pda_nil)) pda_nil)))) (pda_cons (pd_tup (pda_cons (pd_eq (pd_call D_law_alone (hr.mono (by decide)) passG (pda_cons (pd_v 20) pda_nil)) pd_str) (pda_cons pd_bl (pda_cons pd_bl pda_nil)))) pda_nil)))))
      (pds_one (pd_ret pd_bl))
      pds_nil)))))))))))))))))))
      (pds_one (pd_ret (pd_eqP hr (pd_lamcall (k := 4) (q := lamQ) rfl Wm Wk Wl Wc Wb sc_law_why rfl (Or.inl rfl) rfl (why_gives Er) TBw rfl (hr.mono (by decide)) (LamX.lamS_by (sc := defScope s_law) (by decide +kernel)) rfl (fun _ _ _ _ _ => by rfl) (fun A outer s H E f c' hr => (pd_call D_tokens (hr.mono (by decide)) passLam (pda_cons (pd_call D_law_pick (hr.mono (by decide)) passLam (pda_cons (pd_v 1) (pda_cons (pd_lst (pda_cons pd_non (pda_cons pd_int (pda_cons (pd_lst (pda_cons pd_str pda_nil)) pda_nil)))) pda_nil))) pda_nil)))) (pd_tup (pda_cons pd_str (pda_cons pd_int (pda_cons pd_int pda_nil)))))))))), fun ds s Q Z hn h => ?_⟩
  obtain ⟨d0, cells, rfl, hd0, one, h⟩ := h
  simp only [dRaise, dFrz, frz, dDict, dVals, wipeD, dYes, dSeq, dNext, dRet, dRetN, dDrop, dAsg, gN, dIf, dB, dOp, dV, dC, sg, ss, startD, dCB, dCons, dNil, dTup, dLst, dLstC, dCall, dNo, dSome, dSl, dPar, dPar3, dAugN, dNeg, dAndV, dOrV, dNotV, dAnd, dOr, dNot, dFld, dSetF, dAugF, dMeth, dMake, dMakeD, dDGet, dDPut, dBM, dM1, gF, gTupD, gConsD, gNilD, rdInS, rdInT, itemsOf, strsOf, rdIxT, rdIx, rsT, rsL, rsU, rcLen, lenOf, rcInt, rcStr, rcList, rcListC, rcTup, rcAll, rcI2, tyN, rcIsi, isTy, rdAddI, rdSubI, rdMulI, rdModI, rdDivI, rdPowI, rdI, rdI0, rdLt, rdLe, rdGt, rdGe, rdAddS, rdAddL, rdAddT, rdEq, eqS, rdIsN, isNon, rdIsB, isBl, itL, itT, itS, itR1, itR2, itE, itZ, isLC, rbApp, rbPop, rbSplit, insOf, keyD, List.map_cons, List.map_nil, List.cons_append, List.nil_append, List.length_cons, List.length_nil, List.zip_cons_cons, List.zip_nil_left, List.reverse_cons, List.reverse_nil, List.replicate, Option.map_some, Nat.zero_add, Nat.reduceAdd, Nat.reduceSub, Bool.false_eq_true, if_false, if_true, reduceIte, dFor]
  refine ⟨trivial, d0, cells, rfl, hd0, fun p s1 hp0 hp ho => ⟨by decide, by decide, ?_⟩⟩
  have hne : p ≠ PL := fun e => by
    rw [e, one.1] at hp0
    cases hp0
  have hrl : (rangeD 0 (Int.toNat 4)).length = 4 := rfl
  refine forD_all (fun i ρ s' => ∃ os : List (Option D), os.length = 21 ∧ ρ = some d0 :: some (.ref p) :: os ∧ Pen s' p (1000 * i) ∧ OneTab s' PL lamQ) ⟨_, rfl, rfl, hp, one_oth one hp ho hne⟩ ?_ ?_
  · rintro i dl ρ1 s2 NX hd ⟨os, hos, hρ, hp1, one1⟩ hnx
    subst ρ1
    have hi4 : i < 4 := by
      rw [← hrl]
      exact (List.getElem?_eq_some_iff.mp hd).1
    match os, hos with
    | [a2, a3, a4, a5, a6, a7, a8, a9, a10, a11, a12, a13, a14, a15, a16, a17, a18, a19, a20, a21, a22], _ =>
    simp only [dRaise, dFrz, frz, dDict, dVals, wipeD, dYes, dSeq, dNext, dRet, dRetN, dDrop, dAsg, gN, dIf, dB, dOp, dV, dC, sg, ss, startD, dCB, dCons, dNil, dTup, dLst, dLstC, dCall, dNo, dSome, dSl, dPar, dPar3, dAugN, dNeg, dAndV, dOrV, dNotV, dAnd, dOr, dNot, dFld, dSetF, dAugF, dMeth, dMake, dMakeD, dDGet, dDPut, dBM, dM1, gF, gTupD, gConsD, gNilD, rdInS, rdInT, itemsOf, strsOf, rdIxT, rdIx, rsT, rsL, rsU, rcLen, lenOf, rcInt, rcStr, rcList, rcListC, rcTup, rcAll, rcI2, tyN, rcIsi, isTy, rdAddI, rdSubI, rdMulI, rdModI, rdDivI, rdPowI, rdI, rdI0, rdLt, rdLe, rdGt, rdGe, rdAddS, rdAddL, rdAddT, rdEq, eqS, rdIsN, isNon, rdIsB, isBl, itL, itT, itS, itR1, itR2, itE, itZ, isLC, rbApp, rbPop, rbSplit, insOf, keyD, List.map_cons, List.map_nil, List.cons_append, List.nil_append, List.length_cons, List.length_nil, List.zip_cons_cons, List.zip_nil_left, List.reverse_cons, List.reverse_nil, List.replicate, Option.map_some, Nat.zero_add, Nat.reduceAdd, Nat.reduceSub, Bool.false_eq_true, if_false, if_true, reduceIte]
    refine ⟨trivial, p, 7, 1000 * i, rfl, by decide, by decide, hp1, by show 1000 * i < 1099511627776; omega, fun m1 s3 hm0 hm1 hp3 ho3 => ?_⟩
    obtain ⟨k1, rfl⟩ := Int.eq_ofNat_of_zero_le hm0
    refine ⟨trivial, p, k1, 1000 * i + 1, rfl, by omega, hp3, by show 1000 * i + 1 + 130 ≤ 1099511627776; omega, fun ws1 s4 hw1 hg1 hp4 ho4 => ?_⟩
    refine ⟨trivial, p, 6, _, rfl, by decide, by decide, hp4, by show 1000 * i + 1 + 130 < 1099511627776; omega, fun m2 s5 hm20 hm21 hp5 ho5 => ?_⟩
    obtain ⟨k2, rfl⟩ := Int.eq_ofNat_of_zero_le hm20
    refine ⟨trivial, p, 1 + k2, _, by rw [show ((1 + k2 : Nat) : Int) = 1 + (k2 : Int) by omega], by omega, hp5, by show 1000 * i + 1 + 130 + 1 + 130 ≤ 1099511627776; omega, fun ws2 s6 hw2 hg2 hp6 ho6 => ?_⟩
    refine ⟨trivial, p, ws1, _, rfl, hg1, by omega, hp6, by show 1000 * i + 1 + 130 + 1 + 130 + 20 ≤ 1099511627776; omega, fun bs1 t1 s7 hb1 hk1 ht1 hl1 hp7 ho7 => ?_⟩
    dsimp only
    refine ⟨rfl, trivial, p, ws2, _, rfl, hg2, by omega, hp7, by show 1000 * i + 1 + 130 + 1 + 130 + 20 + 20 ≤ 1099511627776; omega, fun bs2 t2 s8 hb2 hk2 ht2 hl2 hp8 ho8 => ?_⟩
    dsimp only
    have hz : 1000000 < sizeLine := by decide
    have tl1 := (tails_ok t1 ht1).2.1
    have tl2 := (tails_ok t2 ht2).2.1
    have sh : ∀ w : List Nat, w.length ≤ 100000 → Sh (mkS w) := fun w h => h
    have k1 := tk_text hk1 (tails_ok t1 ht1).1 (tail_stops ht1)
    have k2 := tk_text hk2 (tails_ok t2 ht2).1 (tail_stops ht2)
    refine ⟨rfl, trivial, .inl ⟨_, _, none, rfl, sh _ (by rw [List.length_append]; omega), k1, fun _ => ?_, fun l c e => nomatch e⟩⟩
    refine ⟨trivial, .inl ⟨_, _, none, rfl, sh _ (by rw [List.length_append]; omega), k2, fun _ => ?_, fun l c e => nomatch e⟩⟩
    have hbl1 : bs1.length = ws1.length := by rw [← hb1, List.length_map]
    refine (val_lc (ds := zipD (ws1.map wD) (placesD bs1)) fRow (fun Q Z q => q) ?_ (fun d hd' => ?_)) _ _ ?_
    · unfold zipD
      rw [List.length_zipWith, List.length_map]
      omega
    · obtain ⟨a, b, ha, hb, rfl⟩ := zip_mem hd'
      obtain ⟨wd, hwd, rfl⟩ := List.mem_map.mp ha
      obtain ⟨kd, hkd⟩ := (hg1 wd hwd).1
      refine ⟨_, true, fun s' P p => ⟨rfl, p⟩, fun s' Q Z q => q, fun _ => ⟨.tup [kindW wd, wD wd, b], rfl, fun s' Q Z q => ?_⟩, fun z => nomatch z⟩
      have hwl := (hg1 wd hwd).2
      refine ⟨rfl, mkS wd, _, .str kd, _, rfl, sh _ (by omega), tk_alone hkd, rfl, ?_⟩
      rw [hkd.kind] at q
      exact ⟨(show 3 ≤ sizeLine by decide), q⟩
    · rw [show (zipD (ws1.map wD) (placesD bs1)).filterMap fRow = (rowsOf bs1 (1, 1)).map rwD from by rw [← hb1]; exact zip_rows bs1 (1, 1)]
      have rk1 := rows_kinds true bs1 (1, 1) hk1
      have rk2 := rows_kinds true bs2 (1, 1) hk2
      have rl1 : (rowsOf bs1 (1, 1)).length ≤ 10 := by
        rw [rowsOf_len, hbl1]
        omega
      dsimp only
      refine ⟨by decide, by decide, by rw [List.length_map]; show _ + 1 ≤ _; omega, ?_⟩
      refine s_ifS (b := false) (tv_or (a := false) (tv_not (a := true) (fun Q Z q => ⟨rfl, _, rfl, dep_rows 1 (by omega) rk1, q⟩)) (fun _ => tv_B (fun Q Z q => ?_))) (fun z => nomatch z) (fun _ => ?_)
      · refine (val_lc (ds := (rowsOf bs1 (1, 1)).map rwD ++ [endRow (behind (textOf bs1 ++ t1) (1, 1)).1 (behind (textOf bs1 ++ t1) (1, 1)).2]) (fun _ => none) (fun Q Z q => q) ?_ (fun d hd' => ?_)) _ _ ?_
        · rw [List.length_append, List.length_map]
          show _ + 1 < _
          omega
        · obtain ⟨k, r, rfl, hk⟩ := rows_in rk1 d hd'
          refine ⟨_, false, fun s' P p => p, fun s' Q Z q => ?_, (by intro z; cases z), fun _ => rfl⟩
          have e0 : atI (D.str k :: r) 0 = some (.str k) := atI_nat (j := 0) rfl
          have hk' := hk
          unfold kindsL at hk'
          simp only [dRaise, dFrz, frz, dDict, dVals, wipeD, dYes, dSeq, dNext, dIfS, dRet, dRetN, dDrop, dAsg, gN, dIf, dB, dOp, dV, dC, sg, ss, startD, dCB, dCons, dNil, dTup, dLst, dLstC, dCall, dNo, dSome, dSl, dPar, dPar3, dAugN, dNeg, dAndV, dOrV, dNotV, dAnd, dOr, dNot, dFld, dSetF, dAugF, dMeth, dMake, dMakeD, dDGet, dDPut, dBM, dM1, gF, gTupD, gConsD, gNilD, rdInS, rdInT, itemsOf, strsOf, rdIxT, rdIx, rsT, rsL, rsU, rcLen, lenOf, rcInt, rcStr, rcList, rcListC, rcTup, rcAll, rcI2, tyN, rcIsi, isTy, rdAddI, rdSubI, rdMulI, rdModI, rdDivI, rdPowI, rdI, rdI0, rdLt, rdLe, rdGt, rdGe, rdAddS, rdAddL, rdAddT, rdEq, eqS, rdIsN, isNon, rdIsB, isBl, itL, itT, itS, itR1, itR2, itE, itZ, isLC, rbApp, rbPop, rbSplit, insOf, keyD, List.map_cons, List.map_nil, List.cons_append, List.nil_append, List.length_cons, List.length_nil, List.zip_cons_cons, List.zip_nil_left, List.reverse_cons, List.reverse_nil, List.replicate, Option.map_some, Nat.zero_add, Nat.reduceAdd, Nat.reduceSub, Bool.false_eq_true, if_false, if_true, reduceIte, e0, hk', Bool.not_true]
          exact ⟨by decide, q⟩
        · rw [filter_none]
          refine ⟨by decide, _, _, rfl, rfl, rfl, rfl, ?_⟩
          exact q
      · simp only [dRaise, dFrz, frz, dDict, dVals, wipeD, dYes, dSeq, dNext, dRet, dRetN, dDrop, dAsg, gN, dIf, dB, dOp, dV, dC, sg, ss, startD, dCB, dCons, dNil, dTup, dLst, dLstC, dCall, dNo, dSome, dSl, dPar, dPar3, dAugN, dNeg, dAndV, dOrV, dNotV, dAnd, dOr, dNot, dFld, dSetF, dAugF, dMeth, dMake, dMakeD, dDGet, dDPut, dBM, dM1, gF, gTupD, gConsD, gNilD, rdInS, rdInT, itemsOf, strsOf, rdIxT, rdIx, rsT, rsL, rsU, rcLen, lenOf, rcInt, rcStr, rcList, rcListC, rcTup, rcAll, rcI2, tyN, rcIsi, isTy, rdAddI, rdSubI, rdMulI, rdModI, rdDivI, rdPowI, rdI, rdI0, rdLt, rdLe, rdGt, rdGe, rdAddS, rdAddL, rdAddT, rdEq, eqS, rdIsN, isNon, rdIsB, isBl, itL, itT, itS, itR1, itR2, itE, itZ, isLC, rbApp, rbPop, rbSplit, insOf, keyD, List.map_cons, List.map_nil, List.cons_append, List.nil_append, List.length_cons, List.length_nil, List.zip_cons_cons, List.zip_nil_left, List.reverse_cons, List.reverse_nil, List.replicate, Option.map_some, Nat.zero_add, Nat.reduceAdd, Nat.reduceSub, Bool.false_eq_true, if_false, if_true, reduceIte]
        refine ⟨by decide, trivial, p, _, _, 1000 * i + 1 + 130 + 1 + 130 + 20 + 20, rfl, rfl, by decide, by show 4 < 1073741824; decide, hp8, by show 1000 * i + 1 + 130 + 1 + 130 + 20 + 20 < 1099511627776; omega, fun x s9 hx hp9 ho9 => ?_⟩
        obtain ⟨g, rfl, hg⟩ := gap2_of hx
        refine ⟨trivial, _, g, rfl, ?_⟩
        obtain ⟨hh, ehh⟩ : ∃ hh, hh = behind g (behind (textOf bs1 ++ t1) (1, 1)) := ⟨_, rfl⟩
        rw [← ehh]
        have gl := (gaps2_ok g hg).2.1
        have rl2 : (rowsOf bs2 (1, 1)).length ≤ 10 := by
          rw [rowsOf_len, ← List.length_map (f := (·.2)), hb2]
          omega
        have rl3 : (rowsOf bs2 hh).length ≤ 10 := by
          rw [rowsOf_len, ← List.length_map (f := (·.2)), hb2]
          omega
        have rk3 := rows_kinds true bs2 hh hk2
        refine s_ifS (b := false) (tv_not (a := true) (fun Q Z q => ?_)) (fun z => nomatch z) (fun _ => ?_)
        · simp only [dRaise, dFrz, frz, dDict, dVals, wipeD, dYes, dSeq, dNext, dIfS, dRet, dRetN, dDrop, dAsg, gN, dIf, dB, dOp, dV, dC, sg, ss, startD, dCB, dCons, dNil, dTup, dLst, dLstC, dCall, dNo, dSome, dSl, dPar, dPar3, dAugN, dNeg, dAndV, dOrV, dNotV, dAnd, dOr, dNot, dFld, dSetF, dAugF, dMeth, dMake, dMakeD, dDGet, dDPut, dBM, dM1, gF, gTupD, gConsD, gNilD, rdInS, rdInT, itemsOf, strsOf, rdIxT, rdIx, rsT, rsL, rsU, rcLen, lenOf, rcInt, rcStr, rcList, rcListC, rcTup, rcAll, rcI2, tyN, rcIsi, isTy, rdAddI, rdSubI, rdMulI, rdModI, rdDivI, rdPowI, rdI, rdI0, rdLt, rdLe, rdGt, rdGe, rdAddS, rdAddL, rdAddT, rdEq, eqS, rdIsN, isNon, rdIsB, isBl, itL, itT, itS, itR1, itR2, itE, itZ, isLC, rbApp, rbPop, rbSplit, insOf, keyD, List.map_cons, List.map_nil, List.cons_append, List.nil_append, List.length_cons, List.length_nil, List.zip_cons_cons, List.zip_nil_left, List.reverse_cons, List.reverse_nil, List.replicate, Option.map_some, Nat.zero_add, Nat.reduceAdd, Nat.reduceSub, Bool.false_eq_true, if_false, if_true, reduceIte, mkS_append, mkS_len, List.length_append]
          refine ⟨by omega, by omega, trivial, .inl ⟨_, _, none, rfl, sh _ (by rw [List.length_append, List.length_append, List.length_append, List.length_append]; omega), tk_two hk1 hk2 ht1 hg ht2 ehh, fun _ => ?_, fun l c e => nomatch e⟩⟩
          refine ⟨cut_not _, ?_⟩
          rw [cut_last]
          refine ⟨trivial, rowsOf bs2 (1, 1) ++ [(D.str "end", D.str "", behind (textOf bs2 ++ t2) (1, 1))], hh, by rw [List.map_append]; rfl, by rw [List.length_append]; show _ + 1 < _; omega, ?_⟩
          rw [moved_rows]
          refine ⟨by simp only [List.length_append, List.length_map, List.length_singleton]; omega, trivial, _, rfl, ?_, q⟩
          rw [← List.append_assoc, ← List.map_append]
          exact dep_rows 1 (by rw [List.length_append]; omega) (fun r hr => (List.mem_append.mp hr).elim (rk1 r) (rk3 r))
        · simp only [dRaise, dFrz, frz, dDict, dVals, wipeD, dYes, dSeq, dNext, dRet, dRetN, dDrop, dAsg, gN, dB, dOp, dV, dC, sg, ss, startD, dCB, dCons, dNil, dTup, dLst, dLstC, dCall, dNo, dSome, dSl, dPar, dPar3, dAugN, dNeg, dAndV, dOrV, dNotV, dAnd, dOr, dNot, dFld, dSetF, dAugF, dMeth, dMake, dMakeD, dDGet, dDPut, dBM, dM1, gF, gTupD, gConsD, gNilD, rdInS, rdInT, itemsOf, strsOf, rdIxT, rdIx, rsT, rsL, rsU, rcLen, lenOf, rcInt, rcStr, rcList, rcListC, rcTup, rcAll, rcI2, tyN, rcIsi, isTy, rdAddI, rdSubI, rdMulI, rdModI, rdDivI, rdPowI, rdI, rdI0, rdLt, rdLe, rdGt, rdGe, rdAddS, rdAddL, rdAddT, rdEq, eqS, rdIsN, isNon, rdIsB, isBl, itL, itT, itS, itR1, itR2, itE, itZ, isLC, rbApp, rbPop, rbSplit, insOf, keyD, List.map_cons, List.map_nil, List.cons_append, List.nil_append, List.length_cons, List.length_nil, List.zip_cons_cons, List.zip_nil_left, List.reverse_cons, List.reverse_nil, List.replicate, Option.map_some, Nat.zero_add, Nat.reduceAdd, Nat.reduceSub, Bool.false_eq_true, if_false, if_true, reduceIte]
          refine ⟨by decide, trivial, p, _, _, 1000 * i + 1 + 130 + 1 + 130 + 20 + 20 + 1, rfl, rfl, by decide, by show 11 < 1073741824; decide, hp9, by show 1000 * i + 1 + 130 + 1 + 130 + 20 + 20 + 1 < 1099511627776; omega, fun x s10 hx hp10 ho10 => ?_⟩
          obtain ⟨bd, rfl, hbd⟩ := bad_of hx
          have bl := bad_len bd hbd
          refine val_if (b := ([("a.b" : Str), "aB"] : List Str).contains (mkS bd)) (d := .int (spotOf bd)) (fun Q Z q => ⟨by decide, q⟩) (fun hb => ?_) (fun hb => ?_) _ _ ?_
          · rw [spot_in bd hbd] at hb
            unfold spotOf
            rw [if_pos hb]
            exact val_C
          · rw [spot_in bd hbd] at hb
            unfold spotOf
            rw [if_neg (by rw [hb]; decide)]
            exact val_C
          have one10 : OneTab s10 PL lamQ := one_oth (one_oth (one_oth (one_oth (one_oth (one_oth (one_oth (one_oth one1 hp3 ho3 hne) hp4 ho4 hne) hp5 ho5 hne) hp6 ho6 hne) hp7 ho7 hne) hp8 ho8 hne) hp9 ho9 hne) hp10 ho10 hne
          obtain ⟨rowsB, tkB⟩ := tk_bad (textOf bs2 ++ t2) hk1 ht1 hg hbd ehh
          have eqT : mkS (textOf bs1 ++ t1) ++ mkS g ++ mkS bd ++ " " ++ mkS (textOf bs2 ++ t2) = mkS (textOf bs1 ++ t1 ++ g ++ (bd ++ 32 :: (textOf bs2 ++ t2))) := by
            rw [show (" " : Str) = mkS [32] from by decide +kernel, mkS_append, mkS_append, mkS_append, mkS_append]
            simp only [List.append_assoc,
                List.cons_append, List.nil_append]
          have e0 : atI [D.int hh.1, .int hh.2] 0 = some (.int hh.1) := atI_nat (j := 0) rfl
          have e1 : atI [D.int hh.1, .int hh.2] 1 = some (.int hh.2) := atI_nat (j := 1) rfl
          simp only [dWhy, dRaise, dFrz, frz, dDict, dVals, wipeD, dYes, dSeq, dNext, dIfS, dRet, dRetN, dDrop, dAsg, gN, dIf, dB, dOp, dV, dC, sg, ss, startD, dCB, dCons, dNil, dTup, dLst, dLstC, dCall, dNo, dSome, dSl, dPar, dPar3, dAugN, dNeg, dAndV, dOrV, dNotV, dAnd, dOr, dNot, dFld, dSetF, dAugF, dMeth, dMake, dMakeD, dDGet, dDPut, dBM, dM1, gF, gTupD, gConsD, gNilD, rdInS, rdInT, itemsOf, strsOf, rdIxT, rdIx, rsT, rsL, rsU, rcLen, lenOf, rcInt, rcStr, rcList, rcListC, rcTup, rcAll, rcI2, tyN, rcIsi, isTy, rdAddI, rdSubI, rdMulI, rdModI, rdDivI, rdPowI, rdI, rdI0, rdLt, rdLe, rdGt, rdGe, rdAddS, rdAddL, rdAddT, rdEq, eqS, rdIsN, isNon, rdIsB, isBl, itL, itT, itS, itR1, itR2, itE, itZ, isLC, rbApp, rbPop, rbSplit, insOf, keyD, List.map_cons, List.map_nil, List.cons_append, List.nil_append, List.length_cons, List.length_nil, List.zip_cons_cons, List.zip_nil_left, List.reverse_cons, List.reverse_nil, List.replicate, Option.map_some, Nat.zero_add, Nat.reduceAdd, Nat.reduceSub, Bool.false_eq_true, if_false, if_true, reduceIte]
          have ls : (" " : Str).length = 1 := by decide +kernel
          refine ⟨one10, ?_, ?_, ?_, ?_, trivial, ?_⟩
          · rw [mkS_len, mkS_len, List.length_append]
            omega
          · rw [mkS_append, mkS_len, mkS_len, List.length_append, List.length_append]
            omega
          · rw [mkS_append, mkS_append, mkS_len, ls, List.length_append, List.length_append, List.length_append]
            omega
          · rw [show (" " : Str) = mkS [32] from by decide +kernel, mkS_append, mkS_append, mkS_append, mkS_len, mkS_len]
            simp only [List.length_append, List.length_cons, List.length_nil]
            omega
          rw [eqT]
          refine .inl ⟨_, rowsB, _, rfl, sh _ (by simp only [List.length_append, List.length_cons]; omega), tkB, (fun e => nomatch e), fun l c e s11 kp => ?_⟩
          cases e
          refine ⟨rfl, _, _, rfl, ?_⟩
          simp only [plD, e0, e1]
          refine ⟨by decide, _, _, rfl, rfl, read_shaped _ _, read_shaped _ _, ?_⟩
          have hp11 := pen_keeps hp10 kp
          have one11 := one_keeps one10 kp
          simp only [read_eqv, Bool.not_true, if_true]
          refine ⟨by decide, trivial, p, _, _, _, rfl, rfl, by decide, by show 5 < 1073741824; decide, hp11, by show 1000 * i + 1 + 130 + 1 + 130 + 20 + 20 + 1 + 1 < 1099511627776; omega, fun x s12 hx hp12 ho12 => ?_⟩
          obtain ⟨lw, rfl, hlw⟩ := left_of hx
          refine ⟨by decide, trivial, p, _, _, _, rfl, rfl, by decide, by show 5 < 1073741824; decide, hp12, by show 1000 * i + 1 + 130 + 1 + 130 + 20 + 20 + 1 + 1 + 1 < 1099511627776; omega, fun x s13 hx hp13 ho13 => ?_⟩
          obtain ⟨rw', rfl, hrw⟩ := right_of hx
          obtain ⟨hwb, hwl⟩ := two_ok lw hlw rw' hrw
          obtain ⟨kd, hkd⟩ := wordB_ok hwb
          have one13 := one_oth (one_oth one11 hp12 ho12 hne) hp13 ho13 hne
          rw [List.length_append] at hwl
          simp only [mkS_append, mkS_len, List.length_append]
          refine ⟨by omega, trivial, .inl ⟨_, _, none, rfl, sh _ (by rw [List.length_append]; omega), tk_alone hkd, fun _ => ?_, fun l c e => nomatch e⟩⟩
          refine ⟨by omega, trivial, mkS (lw ++ rw'), _, .str kd, _, rfl, sh _ (by rw [List.length_append]; omega), tk_alone hkd, rfl, ?_⟩
          have eE : endRow 1 (1 + (((lw ++ rw').length : Nat) : Int)) = .tup [.str "end", .str "", .tup [.int 1, .int (1 + ((lw.length + rw'.length : Nat) : Int))]] := by
            rw [List.length_append]
            rfl
          refine ⟨by omega, by decide, by decide, by omega, by omega, by decide, by decide, by decide, trivial, .tup [rowD kd (lw ++ rw') 1 1, endRow 1 (1 + (((lw ++ rw').length : Nat) : Int))], ?_, ?_, ?_⟩
          · rw [mkS_cps, ← eE]
            rfl
          · exact dep_rows 1 (l := [(.str kd, .str (mkS (lw ++ rw')), (1, 1))]) (q := (1, 1 + (((lw ++ rw').length : Nat) : Int))) (show 1 < 100000 by decide) (fun r hr => by
              rw [List.mem_singleton.mp hr]
              exact ⟨⟨kd, rfl, isW_kind hkd⟩, _, rfl⟩)
          simp only [Bool.not_true]
          simp only [dRaise, dFrz, frz, dDict, dVals, wipeD, dYes, dSeq, dNext, dRet, dRetN, dDrop, dAsg, gN, dIf, dB, dOp, dV, dC, sg, ss, startD, dCB, dCons, dNil, dTup, dLst, dLstC, dCall, dNo, dSome, dSl, dPar, dPar3, dAugN, dNeg, dAndV, dOrV, dNotV, dAnd, dOr, dNot, dFld, dSetF, dAugF, dMeth, dMake, dMakeD, dDGet, dDPut, dBM, dM1, gF, gTupD, gConsD, gNilD, rdInS, rdInT, itemsOf, strsOf, rdIxT, rdIx, rsT, rsL, rsU, rcLen, lenOf, rcInt, rcStr, rcList, rcListC, rcTup, rcAll, rcI2, tyN, rcIsi, isTy, rdAddI, rdSubI, rdMulI, rdModI, rdDivI, rdPowI, rdI, rdI0, rdLt, rdLe, rdGt, rdGe, rdAddS, rdAddL, rdAddT, rdEq, eqS, rdIsN, isNon, rdIsB, isBl, itL, itT, itS, itR1, itR2, itE, itZ, isLC, rbApp, rbPop, rbSplit, insOf, keyD, List.map_cons, List.map_nil, List.cons_append, List.nil_append, List.length_cons, List.length_nil, List.zip_cons_cons, List.zip_nil_left, List.reverse_cons, List.reverse_nil, List.replicate, Option.map_some, Nat.zero_add, Nat.reduceAdd, Nat.reduceSub, Bool.false_eq_true, if_false, if_true, reduceIte, dFor]
          have hp13' : Pen s13 p (1000 * (i + 1)) := hp13.mono (by omega)
          refine ⟨by rw [List.length_map, List.length_map]; omega, ?_⟩
          refine forD_all (fun _ ρ s' => (∃ os : List (Option D), os.length = 21 ∧ ρ = some d0 :: some (.ref p) :: os) ∧ s' = s13) ⟨⟨_, rfl, rfl⟩, rfl⟩ ?_ ?_
          · rintro j dw ρ3 s14 NY hdw ⟨⟨os, hos, hρ⟩, hs⟩ hny
            subst ρ3
            subst s14
            match os, hos with
            | [b2, b3, b4, b5, b6, b7, b8, b9, b10, b11, b12, b13, b14, b15, b16, b17, b18, b19, b20, b21, b22], _ =>
            obtain ⟨wd, rfl, hgd⟩ : ∃ wd, dw = wD wd ∧ Good wd := by
              rcases List.mem_append.mp (List.mem_of_getElem? hdw) with hm | hm
              · obtain ⟨wd, h1, rfl⟩ := List.mem_map.mp hm
                exact ⟨wd, rfl, hg1 wd h1⟩
              · obtain ⟨wd, h1, rfl⟩ := List.mem_map.mp hm
                exact ⟨wd, rfl, hg2 wd h1⟩
            obtain ⟨⟨kw, hkw⟩, hwl2⟩ := hgd
            simp only [gN, ss]
            refine s_ifS (b := false) (tv_not (a := true) (fun Q Z q => ?_)) (fun z => nomatch z) (fun _ => hny _ _ ⟨⟨_, rfl, rfl⟩, rfl⟩)
            simp only [dRaise, dFrz, frz, dDict, dVals, wipeD, dYes, dSeq, dNext, dIfS, dRet, dRetN, dDrop, dAsg, gN, dIf, dB, dOp, dV, dC, sg, ss, startD, dCB, dCons, dNil, dTup, dLst, dLstC, dCall, dNo, dSome, dSl, dPar, dPar3, dAugN, dNeg, dAndV, dOrV, dNotV, dAnd, dOr, dNot, dFld, dSetF, dAugF, dMeth, dMake, dMakeD, dDGet, dDPut, dBM, dM1, gF, gTupD, gConsD, gNilD, rdInS, rdInT, itemsOf, strsOf, rdIxT, rdIx, rsT, rsL, rsU, rcLen, lenOf, rcInt, rcStr, rcList, rcListC, rcTup, rcAll, rcI2, tyN, rcIsi, isTy, rdAddI, rdSubI, rdMulI, rdModI, rdDivI, rdPowI, rdI, rdI0, rdLt, rdLe, rdGt, rdGe, rdAddS, rdAddL, rdAddT, rdEq, eqS, rdIsN, isNon, rdIsB, isBl, itL, itT, itS, itR1, itR2, itE, itZ, isLC, rbApp, rbPop, rbSplit, insOf, keyD, List.map_cons, List.map_nil, List.cons_append, List.nil_append, List.length_cons, List.length_nil, List.zip_cons_cons, List.zip_nil_left, List.reverse_cons, List.reverse_nil, List.replicate, Option.map_some, Nat.zero_add, Nat.reduceAdd, Nat.reduceSub, Bool.false_eq_true, if_false, if_true, reduceIte, wD]
            have lA : ("A" : Str).length = 1 := by decide +kernel
            have eA : mkS wd ++ ("A" : Str) = mkS (wd ++ [65]) := by
              rw [show ("A" : Str) = mkS [65] from by decide +kernel, mkS_append]
            refine ⟨trivial, .inl ⟨mkS wd, rfl, sh _ (by omega), ?_⟩⟩
            rw [eA, lA, mkS_len]
            refine ⟨by omega, trivial, .inl ⟨mkS (wd ++ [65]), rfl, sh _ (by rw [List.length_append]; show wd.length + 1 ≤ _; omega), ?_⟩⟩
            refine ⟨by decide, trivial, .inr ⟨_, rfl, ?_⟩⟩
            refine ⟨by decide, trivial, mkS wd, _, .str kw, _, rfl, sh _ (by omega), tk_alone hkw, rfl, ?_⟩
            dsimp only
            refine ⟨by decide, trivial, .tup [.bl (kw == "name"), .bl false, .bl false], ?_, ?_, q⟩
            · rw [isName_word hkw, isName_A]
            · refine ⟨by show 3 < 1000000; decide, fun x hx => ?_⟩
              rcases List.mem_cons.mp
                  hx with rfl | hx
              · exact trivial
              · rcases List.mem_cons.mp hx with rfl | hx
                · exact trivial
                · rcases List.mem_cons.mp hx with rfl | hx
                  · exact trivial
                  · cases hx
          · rintro ρ3 s14 ⟨⟨os, hos, hρ⟩, hs⟩
            subst s14
            exact hnx _ _ ⟨os, hos, hρ, hp13', one13⟩
  · rintro ρ1 s2 ⟨os, hos, hρ, hp1, one1⟩
    rw [hrl] at hp1
    subst ρ1
    simp only [dWhy, dRaise, dFrz, frz, dDict, dVals, wipeD, dYes, dSeq, dNext, dIfS, dRet, dRetN, dDrop, dAsg, gN, dIf, dB, dOp, dV, dC, sg, ss, startD, dCB, dCons, dNil, dTup, dLst, dLstC, dCall, dNo, dSome, dSl, dPar, dPar3, dAugN, dNeg, dAndV, dOrV, dNotV, dAnd, dOr, dNot, dFld, dSetF, dAugF, dMeth, dMake, dMakeD, dDGet, dDPut, dBM, dM1, gF, gTupD, gConsD, gNilD, rdInS, rdInT, itemsOf, strsOf, rdIxT, rdIx, rsT, rsL, rsU, rcLen, lenOf, rcInt, rcStr, rcList, rcListC, rcTup, rcAll, rcI2, tyN, rcIsi, isTy, rdAddI, rdSubI, rdMulI, rdModI, rdDivI, rdPowI, rdI, rdI0, rdLt, rdLe, rdGt, rdGe, rdAddS, rdAddL, rdAddT, rdEq, eqS, rdIsN, isNon, rdIsB, isBl, itL, itT, itS, itR1, itR2, itE, itZ, isLC, rbApp, rbPop, rbSplit, insOf, keyD, List.map_cons, List.map_nil, List.cons_append, List.nil_append, List.length_cons, List.length_nil, List.zip_cons_cons, List.zip_nil_left, List.reverse_cons, List.reverse_nil, List.replicate, Option.map_some, Nat.zero_add, Nat.reduceAdd, Nat.reduceSub, Bool.false_eq_true, if_false, if_true, reduceIte]
    refine ⟨one1, by decide, by decide, trivial, p, _, _, _, rfl, rfl, by decide, by show 3 < 1073741824; decide, hp1, by show 1000 * 4 < 1099511627776; decide, fun x s3 hx hp3 ho3 => ?_⟩
    have hx3 : x = .non ∨ (∃ i, x = .int i) ∨ ∃ l, x = .lst l := by
      simp only [List.mem_cons,
          List.not_mem_nil, or_false] at hx
      rcases hx with rfl | rfl | rfl
      · exact .inl rfl
      · exact .inr (.inl ⟨_, rfl⟩)
      · exact .inr (.inr ⟨_, rfl⟩)
    refine ⟨trivial, .inr ⟨x, rfl, hx3, rfl, 0, 0, rfl, by decide, _, _, rfl, rfl, read_shaped _ _, read_shaped _ _, ?_⟩⟩
    simp only [read_eqv]
    exact h _
end
end K34

/-! K34n: all defs together. -/
namespace K34
open PySem PySem.Spec PyProof.Rows L2 G
section
variable {P : Program} {w : World} {K : PySem.W.Frag} {mg : Str → Option Value} {base : Heap} {Sc Mi gw cL PL f : Addr} {ocw oc : Value} {odw od anw an : Option Addr} {oslw osl : Array (Option Value)} {kVw docw pmw cdvw ctw kV doc pm ct : Value}
theorem all_ok (T : Txt K mg Sc) (R_Misread : RaiseOk P w K mg base "Misread" Mi "line" "column") (Er : Errs K mg Mi)
    {a_is_run_sign : Addr} {d_is_run_sign : FuncData} (F_is_run_sign : Fun K "is_run_sign" "is_run_sign" s_is_run_sign a_is_run_sign d_is_run_sign) (B_is_run_sign : Binds K d_is_run_sign ["sign"] []) (N_is_run_sign : mg "is_run_sign" = some (.ref a_is_run_sign))
    {a_is_numeral : Addr} {d_is_numeral : FuncData} (F_is_numeral : Fun K "is_numeral" "is_numeral" s_is_numeral a_is_numeral d_is_numeral) (B_is_numeral : Binds K d_is_numeral ["run"] []) (N_is_numeral : mg "is_numeral" = some (.ref a_is_numeral))
    {a_kind_of : Addr} {d_kind_of : FuncData} (F_kind_of : Fun K "kind_of" "kind_of" s_kind_of a_kind_of d_kind_of) (B_kind_of : Binds K d_kind_of ["run"] []) (N_kind_of : mg "kind_of" = some (.ref a_kind_of))
    {a_is_name : Addr} {d_is_name : FuncData} (F_is_name : Fun K "is_name" "is_name" s_is_name a_is_name d_is_name) (B_is_name : Binds K d_is_name ["value"] []) (N_is_name : mg "is_name" = some (.ref a_is_name))
    {a_ini : Addr} {d_ini : FuncData} (F_ini : Fun K "__init__" "Scanner.__init__" s_Scanner___init__ a_ini d_ini) (B_ini : Binds K d_ini ["self", "text"] []) (Mk_Sc : Mk K Sc a_ini) (N_Sc : mg "Scanner" = some (.ref Sc))
    {a_is_over : Addr} {d_is_over : FuncData} (F_is_over : Fun K "is_over" "Scanner.is_over" s_Scanner_is_over a_is_over d_is_over) (B_is_over : Binds K d_is_over ["self"] []) (E_is_over : Meth K Sc "is_over" a_is_over)
    {a_skip : Addr} {d_skip : FuncData} (F_skip : Fun K "skip" "Scanner.skip" s_Scanner_skip a_skip d_skip) (B_skip : Binds K d_skip ["self", "many"] []) (E_skip : Meth K Sc "skip" a_skip)
    {a_pass_gap : Addr} {d_pass_gap : FuncData} (F_pass_gap : Fun K "pass_gap" "Scanner.pass_gap" s_Scanner_pass_gap a_pass_gap d_pass_gap) (B_pass_gap : Binds K d_pass_gap ["self"] []) (E_pass_gap : Meth K Sc "pass_gap" a_pass_gap)
    {a_token : Addr} {d_token : FuncData} (F_token : Fun K "token" "Scanner.token" s_Scanner_token a_token d_token) (B_token : Binds K d_token ["self"] []) (E_token : Meth K Sc "token" a_token)
    {a_tokens : Addr} {d_tokens : FuncData} (F_tokens : Fun K "tokens" "tokens" s_tokens a_tokens d_tokens) (B_tokens : Binds K d_tokens ["text"] []) (N_tokens : mg "tokens" = some (.ref a_tokens))
    {a_law_pen : Addr} {d_law_pen : FuncData} (F_law_pen : Fun K "_law_pen" "_law_pen" s_law_pen a_law_pen d_law_pen) (B_law_pen : Binds K d_law_pen ["script"] []) (N_law_pen : mg "_law_pen" = some (.ref a_law_pen))
    {a_law_draw : Addr} {d_law_draw : FuncData} (F_law_draw : Fun K "_law_draw" "_law_draw" s_law_draw a_law_draw d_law_draw) (B_law_draw : Binds K d_law_draw ["pen", "many"] []) (N_law_draw : mg "_law_draw" = some (.ref a_law_draw))
    {a_law_pick : Addr} {d_law_pick : FuncData} (F_law_pick : Fun K "_law_pick" "_law_pick" s_law_pick a_law_pick d_law_pick) (B_law_pick : Binds K d_law_pick ["pen", "some"] []) (N_law_pick : mg "_law_pick" = some (.ref a_law_pick))
    {a_law_shuffled : Addr} {d_law_shuffled : FuncData} (F_law_shuffled : Fun K "_law_shuffled" "_law_shuffled" s_law_shuffled a_law_shuffled d_law_shuffled) (B_law_shuffled : Binds K d_law_shuffled ["pen", "some"] []) (N_law_shuffled : mg "_law_shuffled" = some (.ref a_law_shuffled))
    {a_law_name : Addr} {d_law_name : FuncData} (F_law_name : Fun K "_law_name" "_law_name" s_law_name a_law_name d_law_name) (B_law_name : Binds K d_law_name ["pen", "index"] []) (N_law_name : mg "_law_name" = some (.ref a_law_name))
    {a_law_names : Addr} {d_law_names : FuncData} (F_law_names : Fun K "_law_names" "_law_names" s_law_names a_law_names d_law_names) (B_law_names : Binds K d_law_names ["pen", "many"] []) (N_law_names : mg "_law_names" = some (.ref a_law_names))
    {a_law_is_sign : Addr} {d_law_is_sign : FuncData} (F_law_is_sign : Fun K "_law_is_sign" "_law_is_sign" s_law_is_sign a_law_is_sign d_law_is_sign) (B_law_is_sign : Binds K d_law_is_sign ["word"] []) (N_law_is_sign : mg "_law_is_sign" = some (.ref a_law_is_sign))
    {a_law_behind_text : Addr} {d_law_behind_text : FuncData} (F_law_behind_text : Fun K "_law_behind_text" "_law_behind_text" s_law_behind_text a_law_behind_text d_law_behind_text) (B_law_behind_text : Binds K d_law_behind_text ["place", "text"] []) (N_law_behind_text : mg "_law_behind_text" = some (.ref a_law_behind_text))
    {a_law_laid : Addr} {d_law_laid : FuncData} (F_law_laid : Fun K "_law_laid" "_law_laid" s_law_laid a_law_laid d_law_laid) (B_law_laid : Binds K d_law_laid ["pen", "words"] []) (N_law_laid : mg "_law_laid" = some (.ref a_law_laid))
    {a_law_drawn_words : Addr} {d_law_drawn_words : FuncData} (F_law_drawn_words : Fun K "_law_drawn_words" "_law_drawn_words" s_law_drawn_words a_law_drawn_words d_law_drawn_words) (B_law_drawn_words : Binds K d_law_drawn_words ["pen", "many"] []) (N_law_drawn_words : mg "_law_drawn_words" = some (.ref a_law_drawn_words))
    {a_law_moved : Addr} {d_law_moved : FuncData} (F_law_moved : Fun K "_law_moved" "_law_moved" s_law_moved a_law_moved d_law_moved) (B_law_moved : Binds K d_law_moved ["rows", "here"] []) (N_law_moved : mg "_law_moved" = some (.ref a_law_moved))
    {a_law_alone : Addr} {d_law_alone : FuncData} (F_law_alone : Fun K "_law_alone" "_law_alone" s_law_alone a_law_alone d_law_alone) (B_law_alone : Binds K d_law_alone ["word"] []) (N_law_alone : mg "_law_alone" = some (.ref a_law_alone))
    {a_same : Addr} {d_same : FuncData} (F_same : Fun K "_law_same" "_law_same" s_law_same a_same d_same) (B_same : Binds K d_same ["told", "due"] []) (N_same : mg "_law_same" = some (.ref a_same))
    (lk : K.lookup f = some ⟨oc, od, .func (PySem.W.fnOf "law" "law" (defArgs s_law) (defBody s_law) (defScope s_law) .none kV doc pm an (.ref cL) ct), osl⟩) (hcd : PySem.W.codeIn K (.ref cL) "law" = true) (TBw : LamX.TabB base mg cL PL) (Wm : mg "_law_why" = some (.ref gw)) (Wk : PySem.W.keepIn K (.ref gw) = true)
    (Wl : K.lookup gw = some ⟨ocw, odw, .func (PySem.W.fnOf "_law_why" "_law_why" (defArgs s_law_why) (defBody s_law_why) (defScope s_law_why) .none kVw docw pmw anw cdvw ctw), oslw⟩) (Wc : PySem.W.codeIn K cdvw "_law_why" = true) (Wb : Binds K (PySem.W.fnOf "_law_why" "_law_why" (defArgs s_law_why) (defBody s_law_why) (defScope s_law_why) .none kVw docw pmw anw cdvw ctw) ["call"] []) :
    FnOk P w K mg base (L2.CX P w) 8 f (PySem.W.fnOf "law" "law" (defArgs s_law) (defBody s_law) (defScope s_law) .none kV doc pm an (.ref cL) ct) ["script"] (spG K 1 (gLaw PL)) := by
  have D_is_run_sign := defG (n := 1) F_is_run_sign B_is_run_sign N_is_run_sign mo_RunSign (ok_run_sign (P := P) (w := w) (base := base) F_is_run_sign T)
  have D_is_numeral := defG (n := 1) F_is_numeral B_is_numeral N_is_numeral mo_Numeral (ok_numeral (P := P) (w := w) (base := base) F_is_numeral T)
  have D_kind_of := defG (n := 1) F_kind_of B_kind_of N_kind_of mo_Kind (ok_kind (P := P) (w := w) (base := base) F_kind_of T D_is_numeral)
  have D_is_name := defG (n := 1) F_is_name B_is_name N_is_name mo_IsName (ok_is_name (P := P) (w := w) (base := base) F_is_name T D_is_run_sign D_kind_of)
  have M_Scanner : MakeOk P w K mg base 1 "Scanner" Sc 2 (gInit Sc) := ⟨mo_Init Sc, a_ini, d_ini, ["self", "text"], N_Sc, Mk_Sc, B_ini, ok_init F_ini T⟩
  have Mt_is_over : MetOk P w K mg base 1 Sc "is_over" 1 (gOver Sc) := ⟨(mo_Over Sc), T.c_Scanner, a_is_over, d_is_over, ["self"], E_is_over, B_is_over, ok_over F_is_over T⟩
  have Mt_skip : MetOk P w K mg base 1 Sc "skip" 2 (gSkip Sc) := ⟨(mo_Skip Sc), T.c_Scanner, a_skip, d_skip, ["self", "many"], E_skip, B_skip, ok_skip F_skip T⟩
  have Mt_pass_gap : MetOk P w K mg base 2 Sc "pass_gap" 1 (gGap Sc) := ⟨(mo_Gap Sc), T.c_Scanner, a_pass_gap, d_pass_gap, ["self"], E_pass_gap, B_pass_gap, ok_gap F_pass_gap T Mt_skip⟩
  have Mt_token : MetOk P w K mg base 3 Sc "token" 1 (gTok Sc Mi) := ⟨(mo_Tok Sc Mi), T.c_Scanner, a_token, d_token, ["self"], E_token, B_token, ok_token F_token T Mt_skip D_is_run_sign D_kind_of R_Misread⟩
  have D_tokens := defG (n := 1) F_tokens B_tokens N_tokens (mo_Tokens Mi) (ok_tokens (P := P) (w := w) (base := base) F_tokens T R_Misread M_Scanner Mt_is_over Mt_pass_gap Mt_token)
  have D_law_pen := defG (n := 1) F_law_pen B_law_pen N_law_pen mo_Pen (ok_pen (P := P) (w := w) (base := base) F_law_pen T)
  have D_law_draw := defG (n := 2) F_law_draw B_law_draw N_law_draw mo_Draw (ok_draw (P := P) (w := w) (base := base) F_law_draw T)
  have D_law_pick := defG (n := 2) F_law_pick B_law_pick N_law_pick mo_Pick (ok_pick (P := P) (w := w) (base := base) F_law_pick T D_law_draw)
  have D_law_shuffled := defG (n := 2) F_law_shuffled B_law_shuffled N_law_shuffled mo_Shuffled (ok_shuffled (P := P) (w := w) (base := base) F_law_shuffled T D_law_draw)
  have D_law_name := defG (n := 2) F_law_name B_law_name N_law_name mo_Name (ok_name (P := P) (w := w) (base := base) F_law_name T D_law_draw)
  have D_law_names := defG (n := 2) F_law_names B_law_names N_law_names mo_Names (ok_names (P := P) (w := w) (base := base) F_law_names T D_law_name D_law_shuffled)
  have D_law_is_sign := defG (n := 1) F_law_is_sign B_law_is_sign N_law_is_sign mo_IsSign (ok_is_sign (P := P) (w := w) (base := base) F_law_is_sign T)
  have D_law_behind_text := defG (n := 2) F_law_behind_text B_law_behind_text N_law_behind_text mo_Behind (ok_behind (P := P) (w := w) (base := base) F_law_behind_text T)
  have D_law_laid := defG (n := 2) F_law_laid B_law_laid N_law_laid mo_Laid (ok_laid (P := P) (w := w) (base := base) F_law_laid T D_law_pick D_law_is_sign D_law_behind_text)
  have D_law_drawn_words := defG (n := 2) F_law_drawn_words B_law_drawn_words N_law_drawn_words mo_Drawn (ok_drawn (P := P) (w := w) (base := base) F_law_drawn_words T D_law_pick D_law_names)
  have D_law_moved := defG (n := 2) F_law_moved B_law_moved N_law_moved mo_Moved (ok_moved (P := P) (w := w) (base := base) F_law_moved T)
  have D_law_alone := defG (n := 1) F_law_alone B_law_alone N_law_alone mo_Alone (ok_alone (P := P) (w := w) (base := base) F_law_alone T D_tokens)
  have D0 : DefOk P w K mg base 0 "_law_same" 2 (gSame 0) := ⟨mo_Same 0, a_same, d_same, ["told", "due"], N_same, F_same.kp, B_same, ok_same0⟩
  have D1 := defG (n := 2) F_same B_same N_same (mo_Same 1) (ok_same (P := P) (w := w) (base := base) F_same T D0)
  have D2 := defG (n := 2) F_same B_same N_same (mo_Same 2) (ok_same (P := P) (w := w) (base := base) F_same T D1)
  have D3 := defG (n := 2) F_same B_same N_same (mo_Same 3) (ok_same (P := P) (w := w) (base := base) F_same T D2)
  have D4 := defG (n := 2) F_same B_same N_same (mo_Same 4) (ok_same (P := P) (w := w) (base := base) F_same T D3)
  have D5 := defG (n := 2) F_same B_same N_same (mo_Same 5) (ok_same (P := P) (w := w) (base := base) F_same T D4)
  exact ok_law lk hcd T Er TBw Wm Wk Wl Wc Wb D_law_pen D_law_draw D_law_pick D_law_drawn_words D_law_laid D_tokens D_law_alone D5 D_law_behind_text D_law_moved D_is_name
end
end K34

/-! K34p: Misread's making; the law's promise at the head. -/
namespace K34
open PySem PySem.Spec PyProof.Rows L2 G
abbrev s_Misread___init__ : Stmt := inClass (topS 3) 0
theorem sc_Misread___init__ : FnScope ["self", "line", "column"] ["self", "line", "column"] (defScope s_Misread___init__) := ⟨rfl, rfl, rfl, by decide +kernel, rfl, by decide +kernel, by decide +kernel⟩
section
variable {P : Program} {w : World} {K : PySem.W.Frag} {mg : Str → Option Value} {base : Heap} {Mi PL fm : Addr} {dm : FuncData}
theorem raise_ok (T : OexC K Mi) (Fm : Fun K "__init__" "Misread.__init__" s_Misread___init__ fm dm) (Bm : Binds K dm ["self", "line", "column"] []) (a1 : PySem.W.findIn K (.ref Mi) "__init__" = some (some (.ref fm))) (t1 : PySem.W.typeIn K (.ref fm) = some (.type "function"))
    (N : mg "Misread" = some (.ref Mi)) (nl : PySem.W.findIn K (.ref Mi) "line" = some none) (nc : PySem.W.findIn K (.ref Mi) "column" = some none) : RaiseOk P w K mg base "Misread" Mi "line" "column" :=
  ⟨T, fm, dm, ["self", "line", "column"], a1, t1, ok_x2 Fm sc_Misread___init__ T nl nc (fun cdv A outer s H E => pss_cons (ps_ost (pe_var (i := 0) rfl (Or.inl rfl)) (pe_var (i := 1) rfl (Or.inl rfl))) (pss_one (ps_ost (pe_var (i := 0) rfl (Or.inl rfl)) (pe_var (i := 2) rfl (Or.inl rfl))))), Bm, N⟩
/-- the law's promise, asked of the script -/
theorem ask_law (H : Hp) (a : Addr) (ns : List Int) (hP : H PL = some (.tbl #[])) (hS : SqL K H a (ns.map V.int)) : spG K 1 (gLaw PL) [.ref a] H (fun v _ => v = .bl true) fun _ _ _ => False := by
  have one : OneTab (supd (fun _ => none) PL (.tab lamQ)) PL lamQ := ⟨supd_same, fun b r hb => by
    by_cases e : b = PL
    · exact e
    · rw [supd_ne e] at hb
      cases hb⟩
  have cel : Cells K (supd (fun _ => none) PL (.tab lamQ)) H := fun b c hb => by
    by_cases e : b = PL
    · rw [e, supd_same] at hb
      cases hb
      rw [e]
      exact ⟨#[], hP, trivial, fun pos cv hc => by
        have z : codeAmong pos [] = some cv :=
            hc
        simp [codeAmong] at z⟩
    · rw [supd_ne e] at hb
      cases hb
  have free : ∀ u, H a = some u → (∀ q, u ≠ .tbl q) → (supd (fun _ => none) PL (Cell.tab lamQ)) a = none := fun u hu hq => by
    refine supd_ne fun e => ?_
    rw [e, hP] at hu
    cases hu
    exact hq _ rfl
  have nums : ∀ l : List Int, RpL K (supd (fun _ => none) PL (.tab lamQ)) H (l.map D.int) (l.map V.int) := fun l => by
    induction l with
    | nil => exact .nil
    | cons i l ih => exact .cons (.int i) ih
  have key : ∃ d, (d = D.fz (ns.map D.int) ∨ d = .lst (ns.map D.int)) ∧ Rp K (supd (fun _ => none) PL (.tab lamQ)) H d (.ref a) := by
    rcases hS with (h | ⟨o, h⟩) | h
    · exact ⟨_, .inr rfl, .lst ⟨free _ h (fun q z => nomatch z), h⟩ (nums ns)⟩
    · exact ⟨_, .inl rfl, .fz (.inl ⟨free _ h (fun q z => nomatch z), o, h⟩) (nums ns)⟩
    · exact ⟨_, .inl rfl, .fz (.inr h) (nums ns)⟩
  obtain ⟨d, hd, rp⟩ := key
  refine ⟨[d], _, rfl, .cons rp .nil, cel, d, ns, rfl, hd, one, fun s' v H' _ _ r => ?_⟩
  cases r
  rfl
end
end K34

/-! K34z: the end. -/
namespace K34
open PySem PySem.Spec PyProof.Rows L2 G
theorem exm_self {K : PySem.W.Frag} {S : Addr} (h1 : PySem.W.subIn K (.ref S) (.type "BaseException") = some true) (h2 : PySem.W.isClsIn K S = true) (h3 : PySem.W.typeIn K (.ref S) = some (.type "type")) (h4 : PySem.W.subIn K (.ref S) (.ref S) = some true) : PySem.W.exmOne K (.ref S) (.ref S) = some true := by
  have h2' :
      (PySem.W.clsIn K S).isSome = true := h2
  unfold PySem.W.exmOne
  simp only [h1, h2', h3, h4, beq_self_eq_true, Bool.and_self, if_true]
  first
  | exact h4
  | (unfold PySem.W.kitCls
     simp [h2', h3, h4])
theorem all_mk {l : PySem.W.OpenLaw} {w : World} {K : PySem.W.Frag} {h : Heap} {mg : Str → Option Value} {fa : Addr} (KX : K.In h) (G : h.Ns mainGlobals mg) (hfa : mg "law" = some (.ref fa)) (own : LamX.OwnTab K fa h) {n : Nat}
    {a_is_run_sign a_is_numeral a_kind_of a_is_name a_tokens a_law_pen a_law_draw a_law_pick a_law_shuffled a_law_name a_law_names a_law_is_sign a_law_behind_text a_law_laid a_law_drawn_words a_law_moved a_law_alone a_same a_why a_law Sc Mi cL PL a_ini a_is_over a_skip a_pass_gap a_token a_mi b1 b2 b3 b4 b6 b7 b8 b9 b10 b11 t_KEYS t_SIGNS : Addr}
    {od_is_run_sign an_is_run_sign : Option Addr} {sl_is_run_sign : Array (Option Value)} {oc_is_run_sign kV_is_run_sign dc_is_run_sign pm_is_run_sign ct_is_run_sign : Value}
    {cd_is_run_sign : Value}
    {od_is_numeral an_is_numeral : Option Addr} {sl_is_numeral : Array (Option Value)} {oc_is_numeral kV_is_numeral dc_is_numeral pm_is_numeral ct_is_numeral : Value}
    {cd_is_numeral : Value}
    {od_kind_of an_kind_of : Option Addr} {sl_kind_of : Array (Option Value)} {oc_kind_of kV_kind_of dc_kind_of pm_kind_of ct_kind_of : Value}
    {cd_kind_of : Value}
    {od_is_name an_is_name : Option Addr} {sl_is_name : Array (Option Value)} {oc_is_name kV_is_name dc_is_name pm_is_name ct_is_name : Value}
    {cd_is_name : Value}
    {od_tokens an_tokens : Option Addr} {sl_tokens : Array (Option Value)} {oc_tokens kV_tokens dc_tokens pm_tokens ct_tokens : Value}
    {cd_tokens : Value}
    {od_law_pen an_law_pen : Option Addr} {sl_law_pen : Array (Option Value)} {oc_law_pen kV_law_pen dc_law_pen pm_law_pen ct_law_pen : Value}
    {cd_law_pen : Value}
    {od_law_draw an_law_draw : Option Addr} {sl_law_draw : Array (Option Value)} {oc_law_draw kV_law_draw dc_law_draw pm_law_draw ct_law_draw : Value}
    {cd_law_draw : Value}
    {od_law_pick an_law_pick : Option Addr} {sl_law_pick : Array (Option Value)} {oc_law_pick kV_law_pick dc_law_pick pm_law_pick ct_law_pick : Value}
    {cd_law_pick : Value}
    {od_law_shuffled an_law_shuffled : Option Addr} {sl_law_shuffled : Array (Option Value)} {oc_law_shuffled kV_law_shuffled dc_law_shuffled pm_law_shuffled ct_law_shuffled : Value}
    {cd_law_shuffled : Value}
    {od_law_name an_law_name : Option Addr} {sl_law_name : Array (Option Value)} {oc_law_name kV_law_name dc_law_name pm_law_name ct_law_name : Value}
    {cd_law_name : Value}
    {od_law_names an_law_names : Option Addr} {sl_law_names : Array (Option Value)} {oc_law_names kV_law_names dc_law_names pm_law_names ct_law_names : Value}
    {cd_law_names : Value}
    {od_law_is_sign an_law_is_sign : Option Addr} {sl_law_is_sign : Array (Option Value)} {oc_law_is_sign kV_law_is_sign dc_law_is_sign pm_law_is_sign ct_law_is_sign : Value}
    {cd_law_is_sign : Value}
    {od_law_behind_text an_law_behind_text : Option Addr} {sl_law_behind_text : Array (Option Value)} {oc_law_behind_text kV_law_behind_text dc_law_behind_text pm_law_behind_text ct_law_behind_text : Value}
    {cd_law_behind_text : Value}
    {od_law_laid an_law_laid : Option Addr} {sl_law_laid : Array (Option Value)} {oc_law_laid kV_law_laid dc_law_laid pm_law_laid ct_law_laid : Value}
    {cd_law_laid : Value}
    {od_law_drawn_words an_law_drawn_words : Option Addr} {sl_law_drawn_words : Array (Option Value)} {oc_law_drawn_words kV_law_drawn_words dc_law_drawn_words pm_law_drawn_words ct_law_drawn_words : Value}
    {cd_law_drawn_words : Value}
    {od_law_moved an_law_moved : Option Addr} {sl_law_moved : Array (Option Value)} {oc_law_moved kV_law_moved dc_law_moved pm_law_moved ct_law_moved : Value}
    {cd_law_moved : Value}
    {od_law_alone an_law_alone : Option Addr} {sl_law_alone : Array (Option Value)} {oc_law_alone kV_law_alone dc_law_alone pm_law_alone ct_law_alone : Value}
    {cd_law_alone : Value}
    {od_same an_same : Option Addr} {sl_same : Array (Option Value)} {oc_same kV_same dc_same pm_same ct_same : Value}
    {cd_same : Value}
    {od_why an_why : Option Addr} {sl_why : Array (Option Value)} {oc_why kV_why dc_why pm_why ct_why : Value}
    {cd_why : Value}
    {od_law an_law : Option Addr} {sl_law : Array (Option Value)} {oc_law kV_law dc_law pm_law ct_law : Value}
    {od_ini an_ini : Option Addr} {sl_ini : Array (Option Value)} {oc_ini kV_ini dc_ini pm_ini ct_ini : Value}
    {cd_ini : Value}
    {od_is_over an_is_over : Option Addr} {sl_is_over : Array (Option Value)} {oc_is_over kV_is_over dc_is_over pm_is_over ct_is_over : Value}
    {cd_is_over : Value}
    {od_skip an_skip : Option Addr} {sl_skip : Array (Option Value)} {oc_skip kV_skip dc_skip pm_skip ct_skip : Value}
    {cd_skip : Value}
    {od_pass_gap an_pass_gap : Option Addr} {sl_pass_gap : Array (Option Value)} {oc_pass_gap kV_pass_gap dc_pass_gap pm_pass_gap ct_pass_gap : Value}
    {cd_pass_gap : Value}
    {od_token an_token : Option Addr} {sl_token : Array (Option Value)} {oc_token kV_token dc_token pm_token ct_token : Value}
    {cd_token : Value}
    {nm q : Str} {NA : Addr} {bs : List Value} {sn : List Str} {sub : List Value} {ab : Bool} {col : Option Bool} {dd : Option Addr} {m0 m1 m2 m3 m5 : Option Value}
    {bm : List Value}
    {od_mi an_mi : Option Addr} {sl_mi : Array (Option Value)} {oc_mi kV_mi dc_mi pm_mi ct_mi : Value}
    {cd_mi : Value}
    {tk_LETTERS : Tok}
    {tk_FIGURES : Tok}
    {tk_LONGEST_NAME : Tok}
    {tk_LONGEST_NUMBER : Tok}
    {dt_KEYS : Option Addr} {nt_KEYS : Nat} {st_KEYS : Array (Option Value)} {u0_KEYS u1_KEYS u2_KEYS u3_KEYS u4_KEYS u5_KEYS u6_KEYS : Tok}
    {dt_SIGNS : Option Addr} {nt_SIGNS : Nat} {st_SIGNS : Array (Option Value)} {u0_SIGNS u1_SIGNS u2_SIGNS u3_SIGNS u4_SIGNS : Tok}
    {dC : Option Addr} {vs : Array Value} {slC : Array (Option Value)}
    (g_is_run_sign : PySem.W.nsIn K mainGlobals "is_run_sign" = some (some (.ref a_is_run_sign)))
    (l_is_run_sign : K.lookup a_is_run_sign = some ⟨oc_is_run_sign, od_is_run_sign, .func (PySem.W.fnOf "is_run_sign" "is_run_sign" (defArgs s_is_run_sign) (defBody s_is_run_sign) (defScope s_is_run_sign) .none kV_is_run_sign dc_is_run_sign pm_is_run_sign an_is_run_sign cd_is_run_sign ct_is_run_sign), sl_is_run_sign⟩)
    (c_is_run_sign : PySem.W.codeIn K cd_is_run_sign "is_run_sign" = true)
    (k_is_run_sign : PySem.W.keepIn K (.ref a_is_run_sign) = true)
    (g_is_numeral : PySem.W.nsIn K mainGlobals "is_numeral" = some (some (.ref a_is_numeral)))
    (l_is_numeral : K.lookup a_is_numeral = some ⟨oc_is_numeral, od_is_numeral, .func (PySem.W.fnOf "is_numeral" "is_numeral" (defArgs s_is_numeral) (defBody s_is_numeral) (defScope s_is_numeral) .none kV_is_numeral dc_is_numeral pm_is_numeral an_is_numeral cd_is_numeral ct_is_numeral), sl_is_numeral⟩)
    (c_is_numeral : PySem.W.codeIn K cd_is_numeral "is_numeral" = true)
    (k_is_numeral : PySem.W.keepIn K (.ref a_is_numeral) = true)
    (g_kind_of : PySem.W.nsIn K mainGlobals "kind_of" = some (some (.ref a_kind_of)))
    (l_kind_of : K.lookup a_kind_of = some ⟨oc_kind_of, od_kind_of, .func (PySem.W.fnOf "kind_of" "kind_of" (defArgs s_kind_of) (defBody s_kind_of) (defScope s_kind_of) .none kV_kind_of dc_kind_of pm_kind_of an_kind_of cd_kind_of ct_kind_of), sl_kind_of⟩)
    (c_kind_of : PySem.W.codeIn K cd_kind_of "kind_of" = true)
    (k_kind_of : PySem.W.keepIn K (.ref a_kind_of) = true)
    (g_is_name : PySem.W.nsIn K mainGlobals "is_name" = some (some (.ref a_is_name)))
    (l_is_name : K.lookup a_is_name = some ⟨oc_is_name, od_is_name, .func (PySem.W.fnOf "is_name" "is_name" (defArgs s_is_name) (defBody s_is_name) (defScope s_is_name) .none kV_is_name dc_is_name pm_is_name an_is_name cd_is_name ct_is_name), sl_is_name⟩)
    (c_is_name : PySem.W.codeIn K cd_is_name "is_name" = true)
    (k_is_name : PySem.W.keepIn K (.ref a_is_name) = true)
    (g_tokens : PySem.W.nsIn K mainGlobals "tokens" = some (some (.ref a_tokens)))
    (l_tokens : K.lookup a_tokens = some ⟨oc_tokens, od_tokens, .func (PySem.W.fnOf "tokens" "tokens" (defArgs s_tokens) (defBody s_tokens) (defScope s_tokens) .none kV_tokens dc_tokens pm_tokens an_tokens cd_tokens ct_tokens), sl_tokens⟩)
    (c_tokens : PySem.W.codeIn K cd_tokens "tokens" = true)
    (k_tokens : PySem.W.keepIn K (.ref a_tokens) = true)
    (g_law_pen : PySem.W.nsIn K mainGlobals "_law_pen" = some (some (.ref a_law_pen)))
    (l_law_pen : K.lookup a_law_pen = some ⟨oc_law_pen, od_law_pen, .func (PySem.W.fnOf "_law_pen" "_law_pen" (defArgs s_law_pen) (defBody s_law_pen) (defScope s_law_pen) .none kV_law_pen dc_law_pen pm_law_pen an_law_pen cd_law_pen ct_law_pen), sl_law_pen⟩)
    (c_law_pen : PySem.W.codeIn K cd_law_pen "_law_pen" = true)
    (k_law_pen : PySem.W.keepIn K (.ref a_law_pen) = true)
    (g_law_draw : PySem.W.nsIn K mainGlobals "_law_draw" = some (some (.ref a_law_draw)))
    (l_law_draw : K.lookup a_law_draw = some ⟨oc_law_draw, od_law_draw, .func (PySem.W.fnOf "_law_draw" "_law_draw" (defArgs s_law_draw) (defBody s_law_draw) (defScope s_law_draw) .none kV_law_draw dc_law_draw pm_law_draw an_law_draw cd_law_draw ct_law_draw), sl_law_draw⟩)
    (c_law_draw : PySem.W.codeIn K cd_law_draw "_law_draw" = true)
    (k_law_draw : PySem.W.keepIn K (.ref a_law_draw) = true)
    (g_law_pick : PySem.W.nsIn K mainGlobals "_law_pick" = some (some (.ref a_law_pick)))
    (l_law_pick : K.lookup a_law_pick = some ⟨oc_law_pick, od_law_pick, .func (PySem.W.fnOf "_law_pick" "_law_pick" (defArgs s_law_pick) (defBody s_law_pick) (defScope s_law_pick) .none kV_law_pick dc_law_pick pm_law_pick an_law_pick cd_law_pick ct_law_pick), sl_law_pick⟩)
    (c_law_pick : PySem.W.codeIn K cd_law_pick "_law_pick" = true)
    (k_law_pick : PySem.W.keepIn K (.ref a_law_pick) = true)
    (g_law_shuffled : PySem.W.nsIn K mainGlobals "_law_shuffled" = some (some (.ref a_law_shuffled)))
    (l_law_shuffled : K.lookup a_law_shuffled = some ⟨oc_law_shuffled, od_law_shuffled, .func (PySem.W.fnOf "_law_shuffled" "_law_shuffled" (defArgs s_law_shuffled) (defBody s_law_shuffled) (defScope s_law_shuffled) .none kV_law_shuffled dc_law_shuffled pm_law_shuffled an_law_shuffled cd_law_shuffled ct_law_shuffled), sl_law_shuffled⟩)
    (c_law_shuffled : PySem.W.codeIn K cd_law_shuffled "_law_shuffled" = true)
    (k_law_shuffled : PySem.W.keepIn K (.ref a_law_shuffled) = true)
    (g_law_name : PySem.W.nsIn K mainGlobals "_law_name" = some (some (.ref a_law_name)))
    (l_law_name : K.lookup a_law_name = some ⟨oc_law_name, od_law_name, .func (PySem.W.fnOf "_law_name" "_law_name" (defArgs s_law_name) (defBody s_law_name) (defScope s_law_name) .none kV_law_name dc_law_name pm_law_name an_law_name cd_law_name ct_law_name), sl_law_name⟩)
    (c_law_name : PySem.W.codeIn K cd_law_name "_law_name" = true)
    (k_law_name : PySem.W.keepIn K (.ref a_law_name) = true)
    (g_law_names : PySem.W.nsIn K mainGlobals "_law_names" = some (some (.ref a_law_names)))
    (l_law_names : K.lookup a_law_names = some ⟨oc_law_names, od_law_names, .func (PySem.W.fnOf "_law_names" "_law_names" (defArgs s_law_names) (defBody s_law_names) (defScope s_law_names) .none kV_law_names dc_law_names pm_law_names an_law_names cd_law_names ct_law_names), sl_law_names⟩)
    (c_law_names : PySem.W.codeIn K cd_law_names "_law_names" = true)
    (k_law_names : PySem.W.keepIn K (.ref a_law_names) = true)
    (g_law_is_sign : PySem.W.nsIn K mainGlobals "_law_is_sign" = some (some (.ref a_law_is_sign)))
    (l_law_is_sign : K.lookup a_law_is_sign = some ⟨oc_law_is_sign, od_law_is_sign, .func (PySem.W.fnOf "_law_is_sign" "_law_is_sign" (defArgs s_law_is_sign) (defBody s_law_is_sign) (defScope s_law_is_sign) .none kV_law_is_sign dc_law_is_sign pm_law_is_sign an_law_is_sign cd_law_is_sign ct_law_is_sign), sl_law_is_sign⟩)
    (c_law_is_sign : PySem.W.codeIn K cd_law_is_sign "_law_is_sign" = true)
    (k_law_is_sign : PySem.W.keepIn K (.ref a_law_is_sign) = true)
    (g_law_behind_text : PySem.W.nsIn K mainGlobals "_law_behind_text" = some (some (.ref a_law_behind_text)))
    (l_law_behind_text : K.lookup a_law_behind_text = some ⟨oc_law_behind_text, od_law_behind_text, .func (PySem.W.fnOf "_law_behind_text" "_law_behind_text" (defArgs s_law_behind_text) (defBody s_law_behind_text) (defScope s_law_behind_text) .none kV_law_behind_text dc_law_behind_text pm_law_behind_text an_law_behind_text cd_law_behind_text ct_law_behind_text), sl_law_behind_text⟩)
    (c_law_behind_text : PySem.W.codeIn K cd_law_behind_text "_law_behind_text" = true)
    (k_law_behind_text : PySem.W.keepIn K (.ref a_law_behind_text) = true)
    (g_law_laid : PySem.W.nsIn K mainGlobals "_law_laid" = some (some (.ref a_law_laid)))
    (l_law_laid : K.lookup a_law_laid = some ⟨oc_law_laid, od_law_laid, .func (PySem.W.fnOf "_law_laid" "_law_laid" (defArgs s_law_laid) (defBody s_law_laid) (defScope s_law_laid) .none kV_law_laid dc_law_laid pm_law_laid an_law_laid cd_law_laid ct_law_laid), sl_law_laid⟩)
    (c_law_laid : PySem.W.codeIn K cd_law_laid "_law_laid" = true)
    (k_law_laid : PySem.W.keepIn K (.ref a_law_laid) = true)
    (g_law_drawn_words : PySem.W.nsIn K mainGlobals "_law_drawn_words" = some (some (.ref a_law_drawn_words)))
    (l_law_drawn_words : K.lookup a_law_drawn_words = some ⟨oc_law_drawn_words, od_law_drawn_words, .func (PySem.W.fnOf "_law_drawn_words" "_law_drawn_words" (defArgs s_law_drawn_words) (defBody s_law_drawn_words) (defScope s_law_drawn_words) .none kV_law_drawn_words dc_law_drawn_words pm_law_drawn_words an_law_drawn_words cd_law_drawn_words ct_law_drawn_words), sl_law_drawn_words⟩)
    (c_law_drawn_words : PySem.W.codeIn K cd_law_drawn_words "_law_drawn_words" = true)
    (k_law_drawn_words : PySem.W.keepIn K (.ref a_law_drawn_words) = true)
    (g_law_moved : PySem.W.nsIn K mainGlobals "_law_moved" = some (some (.ref a_law_moved)))
    (l_law_moved : K.lookup a_law_moved = some ⟨oc_law_moved, od_law_moved, .func (PySem.W.fnOf "_law_moved" "_law_moved" (defArgs s_law_moved) (defBody s_law_moved) (defScope s_law_moved) .none kV_law_moved dc_law_moved pm_law_moved an_law_moved cd_law_moved ct_law_moved), sl_law_moved⟩)
    (c_law_moved : PySem.W.codeIn K cd_law_moved "_law_moved" = true)
    (k_law_moved : PySem.W.keepIn K (.ref a_law_moved) = true)
    (g_law_alone : PySem.W.nsIn K mainGlobals "_law_alone" = some (some (.ref a_law_alone)))
    (l_law_alone : K.lookup a_law_alone = some ⟨oc_law_alone, od_law_alone, .func (PySem.W.fnOf "_law_alone" "_law_alone" (defArgs s_law_alone) (defBody s_law_alone) (defScope s_law_alone) .none kV_law_alone dc_law_alone pm_law_alone an_law_alone cd_law_alone ct_law_alone), sl_law_alone⟩)
    (c_law_alone : PySem.W.codeIn K cd_law_alone "_law_alone" = true)
    (k_law_alone : PySem.W.keepIn K (.ref a_law_alone) = true)
    (g_same : PySem.W.nsIn K mainGlobals "_law_same" = some (some (.ref a_same)))
    (l_same : K.lookup a_same = some ⟨oc_same, od_same, .func (PySem.W.fnOf "_law_same" "_law_same" (defArgs s_law_same) (defBody s_law_same) (defScope s_law_same) .none kV_same dc_same pm_same an_same cd_same ct_same), sl_same⟩)
    (c_same : PySem.W.codeIn K cd_same "_law_same" = true)
    (k_same : PySem.W.keepIn K (.ref a_same) = true)
    (g_why : PySem.W.nsIn K mainGlobals "_law_why" = some (some (.ref a_why)))
    (l_why : K.lookup a_why = some ⟨oc_why, od_why, .func (PySem.W.fnOf "_law_why" "_law_why" (defArgs s_law_why) (defBody s_law_why) (defScope s_law_why) .none kV_why dc_why pm_why an_why cd_why ct_why), sl_why⟩)
    (c_why : PySem.W.codeIn K cd_why "_law_why" = true)
    (k_why : PySem.W.keepIn K (.ref a_why) = true)
    (g_law : PySem.W.nsIn K mainGlobals "law" = some (some (.ref a_law)))
    (l_law : K.lookup a_law = some ⟨oc_law, od_law, .func (PySem.W.fnOf "law" "law" (defArgs s_law) (defBody s_law) (defScope s_law) .none kV_law dc_law pm_law an_law (.ref cL) ct_law), sl_law⟩)
    (c_law : PySem.W.codeIn K (.ref cL) "law" = true)
    (k_law : PySem.W.keepIn K (.ref a_law) = true)
    (gSc : PySem.W.nsIn K mainGlobals "Scanner" = some (some (.ref Sc)))
    (pg : PySem.W.plainGet K Sc Str.empty = true)
    (hd : PySem.W.hasDictIn K Sc = true)
    (po : PySem.W.plainOver K Sc = true)
    (sa : PySem.W.findIn K (.ref Sc) "__setattr__" = some (some (.builtin "object.__setattr__")))
    (mk : PySem.W.makesIn K Sc = true)
    (kSc : PySem.W.keepIn K (.ref Sc) = true)
    (n_text : PySem.W.findIn K (.ref Sc) "text" = some none)
    (n_at : PySem.W.findIn K (.ref Sc) "at" = some none)
    (n_line : PySem.W.findIn K (.ref Sc) "line" = some none)
    (n_column : PySem.W.findIn K (.ref Sc) "column" = some none)
    (e_ini : PySem.W.findIn K (.ref Sc) "__init__" = some (some (.ref a_ini)))
    (i_ini : PySem.W.isFn K (.ref a_ini) = true)
    (l_ini : K.lookup a_ini = some ⟨oc_ini, od_ini, .func (PySem.W.fnOf "__init__" "Scanner.__init__" (defArgs s_Scanner___init__) (defBody s_Scanner___init__) (defScope s_Scanner___init__) .none kV_ini dc_ini pm_ini an_ini cd_ini ct_ini), sl_ini⟩)
    (c_ini : PySem.W.codeIn K cd_ini "Scanner.__init__" = true)
    (k_ini : PySem.W.keepIn K (.ref a_ini) = true)
    (e_is_over : PySem.W.findIn K (.ref Sc) "is_over" = some (some (.ref a_is_over)))
    (i_is_over : PySem.W.isFn K (.ref a_is_over) = true)
    (l_is_over : K.lookup a_is_over = some ⟨oc_is_over, od_is_over, .func (PySem.W.fnOf "is_over" "Scanner.is_over" (defArgs s_Scanner_is_over) (defBody s_Scanner_is_over) (defScope s_Scanner_is_over) .none kV_is_over dc_is_over pm_is_over an_is_over cd_is_over ct_is_over), sl_is_over⟩)
    (c_is_over : PySem.W.codeIn K cd_is_over "Scanner.is_over" = true)
    (k_is_over : PySem.W.keepIn K (.ref a_is_over) = true)
    (e_skip : PySem.W.findIn K (.ref Sc) "skip" = some (some (.ref a_skip)))
    (i_skip : PySem.W.isFn K (.ref a_skip) = true)
    (l_skip : K.lookup a_skip = some ⟨oc_skip, od_skip, .func (PySem.W.fnOf "skip" "Scanner.skip" (defArgs s_Scanner_skip) (defBody s_Scanner_skip) (defScope s_Scanner_skip) .none kV_skip dc_skip pm_skip an_skip cd_skip ct_skip), sl_skip⟩)
    (c_skip : PySem.W.codeIn K cd_skip "Scanner.skip" = true)
    (k_skip : PySem.W.keepIn K (.ref a_skip) = true)
    (e_pass_gap : PySem.W.findIn K (.ref Sc) "pass_gap" = some (some (.ref a_pass_gap)))
    (i_pass_gap : PySem.W.isFn K (.ref a_pass_gap) = true)
    (l_pass_gap : K.lookup a_pass_gap = some ⟨oc_pass_gap, od_pass_gap, .func (PySem.W.fnOf "pass_gap" "Scanner.pass_gap" (defArgs s_Scanner_pass_gap) (defBody s_Scanner_pass_gap) (defScope s_Scanner_pass_gap) .none kV_pass_gap dc_pass_gap pm_pass_gap an_pass_gap cd_pass_gap ct_pass_gap), sl_pass_gap⟩)
    (c_pass_gap : PySem.W.codeIn K cd_pass_gap "Scanner.pass_gap" = true)
    (k_pass_gap : PySem.W.keepIn K (.ref a_pass_gap) = true)
    (e_token : PySem.W.findIn K (.ref Sc) "token" = some (some (.ref a_token)))
    (i_token : PySem.W.isFn K (.ref a_token) = true)
    (l_token : K.lookup a_token = some ⟨oc_token, od_token, .func (PySem.W.fnOf "token" "Scanner.token" (defArgs s_Scanner_token) (defBody s_Scanner_token) (defScope s_Scanner_token) .none kV_token dc_token pm_token an_token cd_token ct_token), sl_token⟩)
    (c_token : PySem.W.codeIn K cd_token "Scanner.token" = true)
    (k_token : PySem.W.keepIn K (.ref a_token) = true)
    (gMi : PySem.W.nsIn K mainGlobals "Misread" = some (some (.ref Mi)))
    (xL : K.lookup Mi = some (excClassObj nm q Mi NA bs bm true sn sub ab col dd m0 m1 m2 m3 m5 "ValueError.__new__"))
    (vE : PySem.HandSPX.refsVE bm = true)
    (saM : PySem.W.findIn K (.ref Mi) "__setattr__" = some (some (.builtin "object.__setattr__")))
    (ga : PySem.W.findIn K (.ref Mi) "__getattribute__" = some (some (.builtin "BaseException.__getattribute__")))
    (gg : PySem.W.findIn K (.ref Mi) "__getattr__" = some none)
    (nl : PySem.W.findIn K (.ref Mi) "line" = some none)
    (nc : PySem.W.findIn K (.ref Mi) "column" = some none)
    (eC : PySem.W.subIn K (.ref Mi) (.type "BaseException") = some true)
    (tC : PySem.W.typeIn K (.ref Mi) = some (.type "type"))
    (kMi : PySem.W.keepIn K (.ref Mi) = true)
    (hC : PySem.W.hasDictIn K Mi = true)
    (iC : PySem.W.isClsIn K Mi = true)
    (sC : PySem.W.subIn K (.ref Mi) (.ref Mi) = some true)
    (e_mi : PySem.W.findIn K (.ref Mi) "__init__" = some (some (.ref a_mi)))
    (t_mi : PySem.W.typeIn K (.ref a_mi) = some (.type "function"))
    (l_mi : K.lookup a_mi = some ⟨oc_mi, od_mi, .func (PySem.W.fnOf "__init__" "Misread.__init__" (defArgs s_Misread___init__) (defBody s_Misread___init__) (defScope s_Misread___init__) .none kV_mi dc_mi pm_mi an_mi cd_mi ct_mi), sl_mi⟩)
    (c_mi : PySem.W.codeIn K cd_mi "Misread.__init__" = true)
    (k_mi : PySem.W.keepIn K (.ref a_mi) = true)
    (gb1 : PySem.W.nsIn K mainGlobals "BadText" = some (some (.ref b1)))
    (xb1 : PySem.W.exmOne K (.ref Mi) (.ref b1) = some false)
    (gb2 : PySem.W.nsIn K mainGlobals "BadName" = some (some (.ref b2)))
    (xb2 : PySem.W.exmOne K (.ref Mi) (.ref b2) = some false)
    (gb3 : PySem.W.nsIn K mainGlobals "BadNumber" = some (some (.ref b3)))
    (xb3 : PySem.W.exmOne K (.ref Mi) (.ref b3) = some false)
    (gb4 : PySem.W.nsIn K mainGlobals "BadRow" = some (some (.ref b4)))
    (xb4 : PySem.W.exmOne K (.ref Mi) (.ref b4) = some false)
    (gb6 : PySem.W.nsIn K mainGlobals "Misplaced" = some (some (.ref b6)))
    (gb7 : PySem.W.nsIn K mainGlobals "NoName" = some (some (.ref b7)))
    (gb8 : PySem.W.nsIn K mainGlobals "TakenName" = some (some (.ref b8)))
    (gb9 : PySem.W.nsIn K mainGlobals "Unlike" = some (some (.ref b9)))
    (gb10 : PySem.W.nsIn K mainGlobals "NotThere" = some (some (.ref b10)))
    (gb11 : PySem.W.nsIn K mainGlobals "TooMany" = some (some (.ref b11)))
    (z_len : PySem.W.nsIn K mainGlobals "len" = some none)
    (z_int : PySem.W.nsIn K mainGlobals "int" = some none)
    (z_str : PySem.W.nsIn K mainGlobals "str" = some none)
    (z_list : PySem.W.nsIn K mainGlobals "list" = some none)
    (z_tuple : PySem.W.nsIn K mainGlobals "tuple" = some none)
    (z_all : PySem.W.nsIn K mainGlobals "all" = some none)
    (z_isinstance : PySem.W.nsIn K mainGlobals "isinstance" = some none)
    (z_max : PySem.W.nsIn K mainGlobals "max" = some none)
    (z_range : PySem.W.nsIn K mainGlobals "range" = some none)
    (z_enumerate : PySem.W.nsIn K mainGlobals "enumerate" = some none)
    (z_zip : PySem.W.nsIn K mainGlobals "zip" = some none)
    (z_bool : PySem.W.nsIn K mainGlobals "bool" = some none)
    (v_LETTERS : PySem.W.nsIn K mainGlobals "LETTERS" = some (some (.str "abcdefghijklmnopqrstuvwxyz" tk_LETTERS)))
    (v_FIGURES : PySem.W.nsIn K mainGlobals "FIGURES" = some (some (.str "0123456789" tk_FIGURES)))
    (v_LONGEST_NAME : PySem.W.nsIn K mainGlobals "LONGEST_NAME" = some (some (.int 12 tk_LONGEST_NAME)))
    (v_LONGEST_NUMBER : PySem.W.nsIn K mainGlobals "LONGEST_NUMBER" = some (some (.int 3 tk_LONGEST_NUMBER)))
    (v_KEYS : PySem.W.nsIn K mainGlobals "KEYS" = some (some (.ref t_KEYS)))
    (w_KEYS : K.lookup t_KEYS = some ⟨.type "tuple", dt_KEYS, .seq #[.str "town" u0_KEYS, .str "homes" u1_KEYS, .str "place" u2_KEYS, .str "road" u3_KEYS, .str "to" u4_KEYS, .str "times" u5_KEYS, .str "load" u6_KEYS] nt_KEYS, st_KEYS⟩)
    (v_SIGNS : PySem.W.nsIn K mainGlobals "SIGNS" = some (some (.ref t_SIGNS)))
    (w_SIGNS : K.lookup t_SIGNS = some ⟨.type "tuple", dt_SIGNS, .seq #[.str "{" u0_SIGNS, .str "}" u1_SIGNS, .str "," u2_SIGNS, .str ";" u3_SIGNS, .str ":" u4_SIGNS] nt_SIGNS, st_SIGNS⟩)
    (lC : K.lookup cL = some ⟨.type "code", dC, .fields vs, slC⟩)
    (v11 : vs[11]? = some (.ref PL))
    (v11d : vs.getD 11 .none = .ref PL)
    (v18 : ∃ file tf, vs.getD 18 .none = .str file tf)
    (v7 : ∃ flags tg, vs.getD 7 .none = .int flags tg)
    (v9 : ∃ inF, vs.getD 9 .none = .bool inF)
    (v10 : ∃ text tt, vs.getD 10 .none = .int text tt)
    (neP : cL ≠ PL)
    (nP : K.lookup PL = none)
    : LamX.LawAtS l w K (L2.CX l.prog w) 8 n "script" mg fa h := by
  have e := hfa.symm.trans (PySem.W.mg_of KX G g_law)
  cases e
  have F_is_run_sign := fun_mk (st := s_is_run_sign) l_is_run_sign c_is_run_sign k_is_run_sign
  have B_is_run_sign := F_is_run_sign.binds (ps := ["sign"]) fun _ _ _ _ _ _ us hl => match us, hl with | [_], _ => rfl
  have F_is_numeral := fun_mk (st := s_is_numeral) l_is_numeral c_is_numeral k_is_numeral
  have B_is_numeral := F_is_numeral.binds (ps := ["run"]) fun _ _ _ _ _ _ us hl => match us, hl with | [_], _ => rfl
  have F_kind_of := fun_mk (st := s_kind_of) l_kind_of c_kind_of k_kind_of
  have B_kind_of := F_kind_of.binds (ps := ["run"]) fun _ _ _ _ _ _ us hl => match us, hl with | [_], _ => rfl
  have F_is_name := fun_mk (st := s_is_name) l_is_name c_is_name k_is_name
  have B_is_name := F_is_name.binds (ps := ["value"]) fun _ _ _ _ _ _ us hl => match us, hl with | [_], _ => rfl
  have F_tokens := fun_mk (st := s_tokens) l_tokens c_tokens k_tokens
  have B_tokens := F_tokens.binds (ps := ["text"]) fun _ _ _ _ _ _ us hl => match us, hl with | [_], _ => rfl
  have F_law_pen := fun_mk (st := s_law_pen) l_law_pen c_law_pen k_law_pen
  have B_law_pen := F_law_pen.binds (ps := ["script"]) fun _ _ _ _ _ _ us hl => match us, hl with | [_], _ => rfl
  have F_law_draw := fun_mk (st := s_law_draw) l_law_draw c_law_draw k_law_draw
  have B_law_draw := F_law_draw.binds (ps := ["pen", "many"]) fun _ _ _ _ _ _ us hl => match us, hl with | [_, _], _ => rfl
  have F_law_pick := fun_mk (st := s_law_pick) l_law_pick c_law_pick k_law_pick
  have B_law_pick := F_law_pick.binds (ps := ["pen", "some"]) fun _ _ _ _ _ _ us hl => match us, hl with | [_, _], _ => rfl
  have F_law_shuffled := fun_mk (st := s_law_shuffled) l_law_shuffled c_law_shuffled k_law_shuffled
  have B_law_shuffled := F_law_shuffled.binds (ps := ["pen", "some"]) fun _ _ _ _ _ _ us hl => match us, hl with | [_, _], _ => rfl
  have F_law_name := fun_mk (st := s_law_name) l_law_name c_law_name k_law_name
  have B_law_name := F_law_name.binds (ps := ["pen", "index"]) fun _ _ _ _ _ _ us hl => match us, hl with | [_, _], _ => rfl
  have F_law_names := fun_mk (st := s_law_names) l_law_names c_law_names k_law_names
  have B_law_names := F_law_names.binds (ps := ["pen", "many"]) fun _ _ _ _ _ _ us hl => match us, hl with | [_, _], _ => rfl
  have F_law_is_sign := fun_mk (st := s_law_is_sign) l_law_is_sign c_law_is_sign k_law_is_sign
  have B_law_is_sign := F_law_is_sign.binds (ps := ["word"]) fun _ _ _ _ _ _ us hl => match us, hl with | [_], _ => rfl
  have F_law_behind_text := fun_mk (st := s_law_behind_text) l_law_behind_text c_law_behind_text k_law_behind_text
  have B_law_behind_text := F_law_behind_text.binds (ps := ["place", "text"]) fun _ _ _ _ _ _ us hl => match us, hl with | [_, _], _ => rfl
  have F_law_laid := fun_mk (st := s_law_laid) l_law_laid c_law_laid k_law_laid
  have B_law_laid := F_law_laid.binds (ps := ["pen", "words"]) fun _ _ _ _ _ _ us hl => match us, hl with | [_, _], _ => rfl
  have F_law_drawn_words := fun_mk (st := s_law_drawn_words) l_law_drawn_words c_law_drawn_words k_law_drawn_words
  have B_law_drawn_words := F_law_drawn_words.binds (ps := ["pen", "many"]) fun _ _ _ _ _ _ us hl => match us, hl with | [_, _], _ => rfl
  have F_law_moved := fun_mk (st := s_law_moved) l_law_moved c_law_moved k_law_moved
  have B_law_moved := F_law_moved.binds (ps := ["rows", "here"]) fun _ _ _ _ _ _ us hl => match us, hl with | [_, _], _ => rfl
  have F_law_alone := fun_mk (st := s_law_alone) l_law_alone c_law_alone k_law_alone
  have B_law_alone := F_law_alone.binds (ps := ["word"]) fun _ _ _ _ _ _ us hl => match us, hl with | [_], _ => rfl
  have F_same := fun_mk (st := s_law_same) l_same c_same k_same
  have B_same := F_same.binds (ps := ["told", "due"]) fun _ _ _ _ _ _ us hl => match us, hl with | [_, _], _ => rfl
  have F_why := fun_mk (st := s_law_why) l_why c_why k_why
  have B_why := F_why.binds (ps := ["call"]) fun _ _ _ _ _ _ us hl => match us, hl with | [_], _ => rfl
  have F_ini := fun_mk (st := s_Scanner___init__) l_ini c_ini k_ini
  have B_ini := F_ini.binds (ps := ["self", "text"]) fun _ _ _ _ _ _ us hl => match us, hl with | [_, _], _ => rfl
  have F_mi := fun_mk (st := s_Misread___init__) l_mi c_mi k_mi
  have B_mi := F_mi.binds (ps := ["self", "line", "column"]) fun _ _ _ _ _ _ us hl => match us, hl with | [_, _, _], _ => rfl
  have F_is_over := fun_mk (st := s_Scanner_is_over) l_is_over c_is_over k_is_over
  have B_is_over := F_is_over.binds (ps := ["self"]) fun _ _ _ _ _ _ us hl => match us, hl with | [_], _ => rfl
  have F_skip := fun_mk (st := s_Scanner_skip) l_skip c_skip k_skip
  have B_skip := F_skip.binds (ps := ["self", "many"]) fun _ _ _ _ _ _ us hl => match us, hl with | [_, _], _ => rfl
  have F_pass_gap := fun_mk (st := s_Scanner_pass_gap) l_pass_gap c_pass_gap k_pass_gap
  have B_pass_gap := F_pass_gap.binds (ps := ["self"]) fun _ _ _ _ _ _ us hl => match us, hl with | [_], _ => rfl
  have F_token := fun_mk (st := s_Scanner_token) l_token c_token k_token
  have B_token := F_token.binds (ps := ["self"]) fun _ _ _ _ _ _ us hl => match us, hl with | [_], _ => rfl
  have T : Txt K mg Sc := { z_len := PySem.W.mg_none_of KX G z_len, z_int := PySem.W.mg_none_of KX G z_int, z_str := PySem.W.mg_none_of KX G z_str, z_list := PySem.W.mg_none_of KX G z_list, z_tuple := PySem.W.mg_none_of KX G z_tuple, z_all := PySem.W.mg_none_of KX G z_all, z_isinstance := PySem.W.mg_none_of KX G z_isinstance, z_max := PySem.W.mg_none_of KX G z_max, z_range := PySem.W.mg_none_of KX G z_range, z_enumerate := PySem.W.mg_none_of KX G z_enumerate, z_zip := PySem.W.mg_none_of KX G z_zip, z_bool := PySem.W.mg_none_of KX G z_bool, g_LETTERS := ⟨_, PySem.W.mg_of KX G v_LETTERS⟩, g_FIGURES := ⟨_, PySem.W.mg_of KX G v_FIGURES⟩, g_LONGEST_NAME := ⟨_, PySem.W.mg_of KX G v_LONGEST_NAME⟩, g_LONGEST_NUMBER := ⟨_, PySem.W.mg_of KX G v_LONGEST_NUMBER⟩, g_KEYS := ⟨_, _, _, _, _, _, _, _, _, _, _, PySem.W.mg_of KX G v_KEYS, w_KEYS⟩, g_SIGNS := ⟨_, _, _, _, _, _, _, _, _, PySem.W.mg_of KX G v_SIGNS, w_SIGNS⟩, c_Scanner := ⟨pg, hd, po, sa⟩, n_Scanner_text := n_text, n_Scanner_at := n_at, n_Scanner_line := n_line, n_Scanner_column := n_column }
  have Er : Errs K mg Mi := { e1 := ⟨_, PySem.W.mg_of KX G gb1, xb1⟩, e2 := ⟨_, PySem.W.mg_of KX G gb2, xb2⟩, e3 := ⟨_, PySem.W.mg_of KX G gb3, xb3⟩, e4 := ⟨_, PySem.W.mg_of KX G gb4, xb4⟩, e5 := ⟨PySem.W.mg_of KX G gMi, exm_self eC iC tC sC⟩, e6 := ⟨_, PySem.W.mg_of KX G gb6⟩, e7 := ⟨_, PySem.W.mg_of KX G gb7⟩, e8 := ⟨_, PySem.W.mg_of KX G gb8⟩, e9 := ⟨_, PySem.W.mg_of KX G gb9⟩, e10 := ⟨_, PySem.W.mg_of KX G gb10⟩, e11 := ⟨_, PySem.W.mg_of KX G gb11⟩, xf := ⟨ga, gg, eC, hC⟩, nl := nl, nc := nc }
  have TO : OexC K Mi := ⟨⟨_, _, _, _, _, _, _, _, _, _, _, _, _, _, _, xL, vE⟩, saM, eC, tC, kMi⟩
  obtain ⟨file, tf, v18⟩ := v18
  obtain ⟨flags, tg, v7⟩ := v7
  obtain ⟨inF, v9⟩ := v9
  obtain ⟨text, tt, v10⟩ := v10
  have one : ∀ p, p ∈ [(cL, PL)] → p = (cL, PL) := fun p hp => List.mem_singleton.mp hp
  refine ⟨PySem.W.fnOf "law" "law" (defArgs s_law) (defBody s_law) (defScope s_law) .none kV_law dc_law pm_law an_law (.ref cL) ct_law, [(cL, PL)], spG K 1 (gLaw PL), fun p hp => ?_, fun p hp => ?_, fun p hp => ?_, fun s v => .of_eq rfl, fun H a ns _ _ hT hS => ask_law H a ns (hT _ List.mem_cons_self) hS, fun base _ _ hTB => ?_⟩
  · rw [one p hp]
    exact own cL PL _ _ _ _ _ _ l_law rfl rfl lC v11
  · rw [one p hp]
    exact nP
  · rw [one p hp]
    exact ⟨_, vs, file, tf, flags, tg, inF, text, tt, KX _ _ lC, rfl, rfl, v11, v11d, v18, v7, v9, v10, neP⟩
  exact all_ok T (raise_ok TO F_mi B_mi e_mi t_mi (PySem.W.mg_of KX G gMi) nl nc) Er
    F_is_run_sign B_is_run_sign (PySem.W.mg_of KX G g_is_run_sign)
    F_is_numeral B_is_numeral (PySem.W.mg_of KX G g_is_numeral)
    F_kind_of B_kind_of (PySem.W.mg_of KX G g_kind_of)
    F_is_name B_is_name (PySem.W.mg_of KX G g_is_name)
    F_ini B_ini ⟨mk, e_ini, i_ini, kSc⟩ (PySem.W.mg_of KX G gSc)
    F_is_over B_is_over ⟨e_is_over, i_is_over, k_is_over⟩
    F_skip B_skip ⟨e_skip, i_skip, k_skip⟩
    F_pass_gap B_pass_gap ⟨e_pass_gap, i_pass_gap, k_pass_gap⟩
    F_token B_token ⟨e_token, i_token, k_token⟩
    F_tokens B_tokens (PySem.W.mg_of KX G g_tokens)
    F_law_pen B_law_pen (PySem.W.mg_of KX G g_law_pen)
    F_law_draw B_law_draw (PySem.W.mg_of KX G g_law_draw)
    F_law_pick B_law_pick (PySem.W.mg_of KX G g_law_pick)
    F_law_shuffled B_law_shuffled (PySem.W.mg_of KX G g_law_shuffled)
    F_law_name B_law_name (PySem.W.mg_of KX G g_law_name)
    F_law_names B_law_names (PySem.W.mg_of KX G g_law_names)
    F_law_is_sign B_law_is_sign (PySem.W.mg_of KX G g_law_is_sign)
    F_law_behind_text B_law_behind_text (PySem.W.mg_of KX G g_law_behind_text)
    F_law_laid B_law_laid (PySem.W.mg_of KX G g_law_laid)
    F_law_drawn_words B_law_drawn_words (PySem.W.mg_of KX G g_law_drawn_words)
    F_law_moved B_law_moved (PySem.W.mg_of KX G g_law_moved)
    F_law_alone B_law_alone (PySem.W.mg_of KX G g_law_alone)
    F_same B_same (PySem.W.mg_of KX G g_same)
    l_law c_law (hTB _ List.mem_cons_self) (PySem.W.mg_of KX G g_why) k_why l_why c_why B_why
end K34

open PySem
open PySem.W PyProof.Rows in
set_option maxRecDepth 100001 in
set_option maxHeartbeats 0 in
theorem PySem.Challenge.cw_everyonehome_k34_whole_letters_and_runs_holds : PySem.Challenge.rw_everyonehome_k34_whole_letters_and_runs.Holds := by
  w_on; o_law; k_head;
      (case hw => w_witness2)
  k_fill
  refine LamX.walk_ofOwn (l := PySem.Challenge.rw_everyonehome_k34_whole_letters_and_runs) (k := 8) (x := "script") (CX := fun w => L2.CX (PySem.Challenge.rw_everyonehome_k34_whole_letters_and_runs).prog w) rfl (by decide) rfl ⟨rfl, by decide, by decide⟩ (by decide +kernel) (fun w h Y => Y.1) ?F ?C
  case C =>
    intro w H s e s' z
    obtain ⟨_, _, _, _, _, _, _, _, _, _, _, _, z⟩ := z
    exact z
  case F =>
    intro w mg fa h Y KX G hmg own
    refine' K34.all_mk KX G hmg own ?g_is_run_sign ?l_is_run_sign ?c_is_run_sign ?k_is_run_sign ?g_is_numeral ?l_is_numeral ?c_is_numeral ?k_is_numeral ?g_kind_of ?l_kind_of ?c_kind_of ?k_kind_of ?g_is_name ?l_is_name ?c_is_name ?k_is_name ?g_tokens ?l_tokens ?c_tokens ?k_tokens ?g_law_pen ?l_law_pen ?c_law_pen ?k_law_pen ?g_law_draw ?l_law_draw ?c_law_draw ?k_law_draw ?g_law_pick ?l_law_pick ?c_law_pick ?k_law_pick ?g_law_shuffled ?l_law_shuffled ?c_law_shuffled ?k_law_shuffled ?g_law_name ?l_law_name ?c_law_name ?k_law_name ?g_law_names ?l_law_names ?c_law_names ?k_law_names ?g_law_is_sign ?l_law_is_sign ?c_law_is_sign ?k_law_is_sign ?g_law_behind_text ?l_law_behind_text ?c_law_behind_text ?k_law_behind_text ?g_law_laid ?l_law_laid ?c_law_laid ?k_law_laid ?g_law_drawn_words ?l_law_drawn_words ?c_law_drawn_words ?k_law_drawn_words ?g_law_moved ?l_law_moved ?c_law_moved ?k_law_moved ?g_law_alone ?l_law_alone ?c_law_alone ?k_law_alone ?g_same ?l_same ?c_same ?k_same ?g_why ?l_why ?c_why ?k_why ?g_law ?l_law ?c_law ?k_law ?gSc ?pg ?hd ?po ?sa ?mk ?kSc ?n_text ?n_at ?n_line ?n_column ?e_ini ?i_ini ?l_ini ?c_ini ?k_ini ?e_is_over ?i_is_over ?l_is_over ?c_is_over ?k_is_over ?e_skip ?i_skip ?l_skip ?c_skip ?k_skip ?e_pass_gap ?i_pass_gap ?l_pass_gap ?c_pass_gap ?k_pass_gap ?e_token ?i_token ?l_token ?c_token ?k_token ?gMi ?xL ?vE ?saM ?ga ?gg ?nl ?nc ?eC ?tC ?kMi ?hC ?iC ?sC ?e_mi ?t_mi ?l_mi ?c_mi ?k_mi ?gb1 ?xb1 ?gb2 ?xb2 ?gb3 ?xb3 ?gb4 ?xb4 ?gb6 ?gb7 ?gb8 ?gb9 ?gb10 ?gb11 ?z_len ?z_int ?z_str ?z_list ?z_tuple ?z_all ?z_isinstance ?z_max ?z_range ?z_enumerate ?z_zip ?z_bool ?v_LETTERS ?v_FIGURES ?v_LONGEST_NAME ?v_LONGEST_NUMBER ?v_KEYS ?w_KEYS ?v_SIGNS ?w_SIGNS ?lC ?v11 ?v11d ?v18 ?v7 ?v9 ?v10 ?neP ?nP
    (case g_is_run_sign => k_is)
    (case l_is_run_sign => k_is)
    (case c_is_run_sign => k_is)
    (case k_is_run_sign => k_is)
    (case g_is_numeral => k_is)
    (case l_is_numeral => k_is)
    (case c_is_numeral => k_is)
    (case k_is_numeral => k_is)
    (case g_kind_of => k_is)
    (case l_kind_of => k_is)
    (case c_kind_of => k_is)
    (case k_kind_of => k_is)
    (case g_is_name => k_is)
    (case l_is_name => k_is)
    (case c_is_name => k_is)
    (case k_is_name => k_is)
    (case g_tokens => k_is)
    (case l_tokens => k_is)
    (case c_tokens => k_is)
    (case k_tokens => k_is)
    (case g_law_pen => k_is)
    (case l_law_pen => k_is)
    (case c_law_pen => k_is)
    (case k_law_pen => k_is)
    (case g_law_draw => k_is)
    (case l_law_draw => k_is)
    (case c_law_draw => k_is)
    (case k_law_draw => k_is)
    (case g_law_pick => k_is)
    (case l_law_pick => k_is)
    (case c_law_pick => k_is)
    (case k_law_pick => k_is)
    (case g_law_shuffled => k_is)
    (case l_law_shuffled => k_is)
    (case c_law_shuffled => k_is)
    (case k_law_shuffled => k_is)
    (case g_law_name => k_is)
    (case l_law_name => k_is)
    (case c_law_name => k_is)
    (case k_law_name => k_is)
    (case g_law_names => k_is)
    (case l_law_names => k_is)
    (case c_law_names => k_is)
    (case k_law_names => k_is)
    (case g_law_is_sign => k_is)
    (case l_law_is_sign => k_is)
    (case c_law_is_sign => k_is)
    (case k_law_is_sign => k_is)
    (case g_law_behind_text => k_is)
    (case l_law_behind_text => k_is)
    (case c_law_behind_text => k_is)
    (case k_law_behind_text => k_is)
    (case g_law_laid => k_is)
    (case l_law_laid => k_is)
    (case c_law_laid => k_is)
    (case k_law_laid => k_is)
    (case g_law_drawn_words => k_is)
    (case l_law_drawn_words => k_is)
    (case c_law_drawn_words => k_is)
    (case k_law_drawn_words => k_is)
    (case g_law_moved => k_is)
    (case l_law_moved => k_is)
    (case c_law_moved => k_is)
    (case k_law_moved => k_is)
    (case g_law_alone => k_is)
    (case l_law_alone => k_is)
    (case c_law_alone => k_is)
    (case k_law_alone => k_is)
    (case g_same => k_is)
    (case l_same => k_is)
    (case c_same => k_is)
    (case k_same => k_is)
    (case g_why => k_is)
    (case l_why => k_is)
    (case c_why => k_is)
    (case k_why => k_is)
    (case g_law => k_is)
    (case l_law => k_is)
    (case c_law => k_is)
    (case k_law => k_is)
    (case gSc => k_is)
    (case pg => k_is)
    (case hd => k_is)
    (case po => k_is)
    (case sa => k_is)
    (case mk => k_is)
    (case kSc => k_is)
    (case n_text => k_is)
    (case n_at => k_is)
    (case n_line => k_is)
    (case n_column => k_is)
    (case e_ini => k_is)
    (case i_ini => k_is)
    (case l_ini => k_is)
    (case c_ini => k_is)
    (case k_ini => k_is)
    (case e_is_over => k_is)
    (case i_is_over => k_is)
    (case l_is_over => k_is)
    (case c_is_over => k_is)
    (case k_is_over => k_is)
    (case e_skip => k_is)
    (case i_skip => k_is)
    (case l_skip => k_is)
    (case c_skip => k_is)
    (case k_skip => k_is)
    (case e_pass_gap => k_is)
    (case i_pass_gap => k_is)
    (case l_pass_gap => k_is)
    (case c_pass_gap => k_is)
    (case k_pass_gap => k_is)
    (case e_token => k_is)
    (case i_token => k_is)
    (case l_token => k_is)
    (case c_token => k_is)
    (case k_token => k_is)
    (case gMi => k_is)
    (case xL => k_is)
    (case vE => rfl)
    (case saM => k_is)
    (case ga => k_is)
    (case gg => k_is)
    (case nl => k_is)
    (case nc => k_is)
    (case eC => k_is)
    (case tC => k_is)
    (case kMi => k_is)
    (case hC => k_is)
    (case iC => k_is)
    (case sC => k_is)
    (case e_mi => k_is)
    (case t_mi => k_is)
    (case l_mi => k_is)
    (case c_mi => k_is)
    (case k_mi => k_is)
    (case gb1 => k_is)
    (case xb1 => exact PySem.W.exm_ref (by k_is) (by k_is) (by k_is) (by k_is))
    (case gb2 => k_is)
    (case xb2 => exact PySem.W.exm_ref (by k_is) (by k_is) (by k_is) (by k_is))
    (case gb3 => k_is)
    (case xb3 => exact PySem.W.exm_ref (by k_is) (by k_is) (by k_is) (by k_is))
    (case gb4 => k_is)
    (case xb4 => exact PySem.W.exm_ref (by k_is) (by k_is) (by k_is) (by k_is))
    (case gb6 => k_is)
    (case gb7 => k_is)
    (case gb8 => k_is)
    (case gb9 => k_is)
    (case gb10 => k_is)
    (case gb11 => k_is)
    (case z_len => k_is)
    (case z_int => k_is)
    (case z_str => k_is)
    (case z_list => k_is)
    (case z_tuple => k_is)
    (case z_all => k_is)
    (case z_isinstance => k_is)
    (case z_max => k_is)
    (case z_range => k_is)
    (case z_enumerate => k_is)
    (case z_zip => k_is)
    (case z_bool => k_is)
    (case v_LETTERS => k_is)
    (case v_FIGURES => k_is)
    (case v_LONGEST_NAME => k_is)
    (case v_LONGEST_NUMBER => k_is)
    (case v_KEYS => k_is)
    (case w_KEYS => k_is)
    (case v_SIGNS => k_is)
    (case w_SIGNS => k_is)
    (case lC => k_is)
    (case v11 => rfl)
    (case v11d => rfl)
    (case v18 => exact ⟨_, _, rfl⟩)
    (case v7 => exact ⟨_, _, rfl⟩)
    (case v9 => exact ⟨_, rfl⟩)
    (case v10 => exact ⟨_, _, rfl⟩)
    (case neP => decide)
    (case nP => rfl)

